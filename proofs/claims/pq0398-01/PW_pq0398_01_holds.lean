import PyProof.Rows.All
import Wide.All
import OpenK.AllK
import Wide.FinOn
import PySem.Challenge.RW_pq0398_01
set_option Elab.async false
set_option tactic.hygienic false
set_option linter.all false
set_option bootstrap.genMatcherCode false
set_option compiler.extract_closed false
namespace Mine.Internal
set_option linter.defProp false
abbrev QV:=PySem.Value->PySem.Shared->Prop
def kk:Lean.Meta.Simp.Config:={ implicitDefEqProofs:=false }
noncomputable def aj:=@Nat.le_of_ble_eq_true
noncomputable def ak:=@Nat.le_trans
noncomputable def ao:=@Option.some.inj
noncomputable def au:=@congrArg
noncomputable def bf:=@if_pos
noncomputable def bx:=@if_neg
noncomputable def bk:=@List.mem_cons_of_mem
noncomputable def bw:=@List.length_map
noncomputable def cg:=@List.length_append
noncomputable def cu:=@Nat.lt_of_lt_of_le
noncomputable def dh:=@of_decide_eq_true
noncomputable def dz:=@Nat.le_add_right
noncomputable def fj:=@Nat.lt_of_le_of_lt
noncomputable def fu:=@decide_eq_true
noncomputable def f9:=@List.mem_cons_self
noncomputable def gn:=@List.size_toArray
noncomputable def iw:=@List.getElem?_eq_some_iff
noncomputable def gq:=@List.getElem?_eq_getElem
noncomputable def dg:=@List.forall_mem_cons
noncomputable def gb:=@List.mem_cons
noncomputable def ig:=@decide_eq_false
noncomputable def iy:=@Nat.le_add_left
noncomputable def jc:=@List.append_assoc
noncomputable def je:=@List.map_cons
noncomputable def jg:=@Nat.add_le_add_right
noncomputable def jh:=@Nat.add_le_add_left
noncomputable def jd:=@Bool.and_eq_true_iff
noncomputable def jf:=@Nat.le_refl
noncomputable def jm:=@Nat.add_sub_cancel_left
noncomputable def j4:=@List.mem_append
noncomputable def jq:=@List.mem_append_right
noncomputable def jo:=@List.append_nil
noncomputable def jt:=@Nat.add_assoc
noncomputable def ju:=@Int.ofNat.inj
noncomputable def jl:=@List.nodup_cons
noncomputable def jy:=@Int.natCast_nonneg
noncomputable def j5:=@List.mem_append_left
noncomputable def m8:=@beq_eq_false_iff_ne
noncomputable def jw:=@Int.ofNat_lt
noncomputable def j9:=@Nat.add_right_comm
noncomputable def j7:=@Nat.add_le_add
noncomputable def j6:=@Nat.add_comm
noncomputable def mj:=@of_decide_eq_false
noncomputable def lg:=@Nat.zero_add
noncomputable def m7:=@Nat.le_of_lt_succ
noncomputable def j8:=@List.nodup_append
noncomputable def m9:=@Nat.lt_succ_self
noncomputable def nj:=@Nat.le_of_not_lt
noncomputable def nq:=@List.length_drop
noncomputable def jx:=@Nat.not_lt
noncomputable def nu:=@List.map_append
noncomputable def oh:=@List.filterMap_cons
noncomputable def n6:=@Nat.zero_le
noncomputable def pq:=@List.length_cons
noncomputable def qg:=@List.take_of_length_le
noncomputable def uc:=@Option.map_eq_some_iff
noncomputable def qj:=@Nat.succ_le_succ
noncomputable def ou:=@List.lookup_cons
noncomputable def sy:=@Bool.and_eq_true
noncomputable def ql:=@Nat.le_of_lt
noncomputable def qu:=@List.length_range
noncomputable def qz:=@Nat.ne_of_lt
noncomputable def kj:=@List.mem_map
noncomputable def s6:=@Int.eq_ofNat_of_zero_le
noncomputable def o8:=@Nat.le_of_succ_le_succ
noncomputable def uo:=@List.mem_singleton
noncomputable def uq:=@beq_self_eq_true
noncomputable def ur:=@Nat.lt_of_not_le
noncomputable def uw:=@List.not_mem_nil
noncomputable def u5:=@List.eq_nil_of_length_eq_zero
noncomputable def wu:=@Array.getElem?_eq_some_iff
noncomputable def u6:=@Nat.pow_le_pow_right
set_option genSizeOf false
inductive V where
 |none
 |bool (b:Bool)
 |int (i:Int)
 |str (x:String)
 |bytes (b:List UInt8)
 |tuple (l:List V)
 |list (l:List V)
 |dict (l:List (String×V))
 |obj (l:List (String×V))
inductive Exc where
 |rlp|tx
 deriving DecidableEq
inductive Ent where
 |val (v:V)
 |own (l:List V)
inductive CD where
 |list (l:List V)
 |dict (l:List (String×Ent))
 |obj (l:List (String×V))
 |hid
structure Cell where
 live:Bool
 data:CD
noncomputable abbrev Store:=List Cell
inductive qp where
 |val (v:V)
 |cell (i:Nat)
noncomputable abbrev Loc:=List (String×qp)
inductive R(α : Type) where
 |ok (a : α) (st:Store)
 |exc (c:Exc) (st:Store)
 |bad
noncomputable def R.bind{α β : Type}(r:R α)(f : α->Store->R β):R β:=match r with
 |.ok a st=>f a st
 |.exc c st=>.exc c st
 |.bad=>.bad
noncomputable def lk{β : Type}(x:String):List (String×β)->Option β
 |[]=>Option.none
 |(y,b)::r=>cond (x==y) (some b) (lk x r)
noncomputable def put{β : Type}(x:String)(b : β):List (String×β)->List (String×β)
 |[]=>[(x,b)]
 |(y,c)::r=>cond (x==y) ((x,b)::r) ((y,c)::put x b r)
theorem Al{β : Type}(x y:String)(b : β)(r:List (String×β)):lk x ((y,b)::r)=if x=y then some b else lk x r:=by
 show cond (x==y) (some b) (lk x r)=_
 by_cases h:x=y
 ·rw[bf h,beq_iff_eq.mpr h];rfl
 ·rw[bx h,m8.mpr h];rfl
theorem Cm{β : Type}(x:String)(b : β)(y:String)(c : β)(r:List (String×β)):put x b ((y,c)::r)=if x=y then(x,b)::r else(y,c)::put x b r:=by
 show cond (x==y) ((x,b)::r) ((y,c)::put x b r)=_
 by_cases h:x=y
 ·rw[bf h,beq_iff_eq.mpr h];rfl
 ·rw[bx h,m8.mpr h];rfl
set_option genInjectivity false
inductive BOp where|add|sub|mul|fdiv|mod|pow|xor
 deriving DecidableEq
inductive J8 where|lt|le|gt|ge|eq|ne|inn|nin|iss|isn
 deriving DecidableEq
set_option genCtorIdx false
mutual
inductive Ex where
 |nm (x:String)
 |gl (x:String)
 |int (i:Int)
 |boo (b:Bool)
 |non
 |byt (l:List UInt8)
 |str (x:String)
 |bin (o:BOp) (a b:Ex)
 |neg (a:Ex)
 |cmp (o:J8) (a b:Ex)
 |cmp2 (o p:J8) (a b c:Ex)
 |notE (a:Ex)
 |andE (es:Aq)
 |orE (es:Aq)
 |ife (t a b:Ex)
 |attr (a:Ex) (n:String)
 |idx (a i:Ex)
 |slc (a:Ex) (lo hi:Ii)
 |rev (a:Ex)
 |tup (es:Aq)
 |lst (es:Aq)
 |dct (ks:List String) (es:Aq)
 |comp (elt:Ex) (x:String) (it:Ex) (cond:Ii) (caps:List String)
 |call (f:String) (es:Aq)
 |new (es:Aq)
 |len (a:Ex)
 |isl (a:Ex)
 |isb (a:Ex)
 |mkb (a:Ex)
 |mkd (a:Ex)
 |all (a:Ex)
 |rng (a:Ex)
 |bitlen (a:Ex)
 |tobytes (a n:Ex)
 |frombytes (a:Ex)
 |join (sep a:Ex)
inductive Aq where
 |nil
 |cons (e:Ex) (es:Aq)
inductive Ii where
 |none
 |some (e:Ex)
end
mutual
inductive Tg where
 |nm (x:String)
 |attr (x n:String)
 |idx (x:String) (k:Ex)
 |tup (ts:Uu)
inductive Uu where
 |nil
 |cons (t:Tg) (ts:Uu)
end
mutual
inductive St where
 |asg (t:Tg) (e:Ex)
 |app (x:String) (k:Option String) (e:Ex)
 |ifs (t:Ex) (a b:u9)
 |whl (t:Ex) (b:u9)
 |for (t:Tg) (it:Ex) (b:u9)
 |ret (e:Ex)
 |rai (c:Exc)
 |tryx (b h:u9)
 |exp (e:Ex)
 |any
inductive u9 where
 |nil
 |cons (s:St) (ss:u9)
end
structure Fn where
 ps:List String
 body:u9
set_option genCtorIdx true
set_option genInjectivity true
noncomputable def lim:Nat:=1000000
noncomputable def intsOf:List V->Option (List Int)
 |[]=>some []
 |.int i::r=>(intsOf r).map (i::·)
 | _::_=>Option.none
noncomputable def boolsOf:List V->Option (List Bool)
 |[]=>some []
 |.bool b::r=>(boolsOf r).map (b::·)
 | _::_=>Option.none
noncomputable def bytesOf:List V->Option (List (List UInt8))
 |[]=>some []
 |.bytes b::r=>(bytesOf r).map (b::·)
 | _::_=>Option.none
noncomputable def akl(l:List V)(b:Bool):List V:=match b with
 |true=>l
 |false=>[]
noncomputable def Nt{β : Type}(f:Int->Option β):V->Option β
 |.int i=>f i
 | _=>Option.none
noncomputable def onB{β : Type}(f:List UInt8->Option β):V->Option β
 |.bytes i=>f i
 | _=>Option.none
noncomputable def onL{β : Type}(f:List V->Option β):V->Option β
 |.list i=>f i
 | _=>Option.none
noncomputable def onT{β : Type}(f:List V->Option β):V->Option β
 |.tuple i=>f i
 | _=>Option.none
noncomputable def onN{β : Type}(f:Option β):V->Option β
 |.none=>f
 | _=>Option.none
noncomputable def Cd(o:BOp)(a b:V):Option V:=match o with
 |.add=>(match a with
  |.int x=>Nt (λ y=>some (.int (x+y))) b
  |.bytes x=>onB (λ y=>if x.length+y.length<=lim then some (.bytes (x++y))else Option.none) b
  |.list x=>onL (λ y=>if x.length+y.length<=lim then some (.list (x++y))else Option.none) b
  |.tuple x=>onT (λ y=>if x.length+y.length<=lim/\x.length≠0/\y.length≠0 then some (.tuple (x++y))else Option.none) b
  | _=>Option.none)
 |.sub=>Nt (λ x=>Nt (λ y=>some (.int (x-y))) b) a
 |.mul=>(match a with
  |.int x=>Nt (λ y=>if x.natAbs<4294967296\/y.natAbs<4294967296 then some (.int (x*y))else Option.none) b
  |.list x=>(match b with|.bool y=>if x.length<=lim then some (.list (akl x y))else Option.none | _=>Option.none)
  | _=>Option.none)
 |.fdiv=>Nt (λ x=>Nt (λ y=>if 0<y/\y<1000000000 then some (.int (x/y))else Option.none) b) a
 |.mod=>Nt (λ x=>Nt (λ y=>if 0<y then some (.int (x%y))else Option.none) b) a
 |.pow=>Nt (λ x=>Nt (λ y=>if 0<=x/\x<1000/\0<=y/\y<1000 then some (.int (x^y.toNat))else Option.none) b) a
 |.xor=>Nt (λ x=>Nt (λ y=>if 0<=x/\y=1 then some (.int (if x%2=0 then x+1 else x-1))else Option.none) b) a
noncomputable def Mv(f:V->V->Option Bool):List V->List V->Option Bool
 |a::r,b::s=>(match f a b,Mv f r s with
  |some x,some y=>some (x&&y)
  | _,_=>Option.none)
 | _,_=>some true
noncomputable def Qd:Nat->V->V->Option Bool
 |0,_,_=>Option.none
 |n+1,a,b=>match a,b with
  |.none,.none=>some true
  |.none,.int _=>some false
  |.int _,.none=>some false
  |.int a,.int b=>some (a==b)
  |.bytes a,.bytes b=>some (a==b)
  |.list a,.list b=>if a.length=b.length then Mv (Qd n) a b else some false
  |.tuple a,.tuple b=>if a.length=b.length then Mv (Qd n) a b else Option.none
  | _,_=>Option.none
noncomputable def Zy:List (String×V)->List (String×V)->Option Bool
 |[],_=>some true
 |(k,a)::r,d=>match lk k d with
  |some b=>(match Qd 9 a b,Zy r d with
   |some x,some y=>some (x&&y)
   | _,_=>Option.none)
  |Option.none=>Option.none
noncomputable def ahs(a b:V):Option Bool:=match a with
 |.int a=>Nt (λ b=>some (a==b)) b
 |.bytes a=>onB (λ b=>some (a==b)) b
 |.list _=>onB (λ _=>some false) b
 | _=>Option.none
noncomputable def Qo(a b:V):Option Bool:=match a with
 |.int a=>Nt (λ b=>some (a != b)) b
 |.bytes a=>onB (λ b=>some (a != b)) b
 |.list a=>(match b with
  |.bytes _=>some true
  |.list []=>some (!a.isEmpty)
  | _=>Option.none)
 |.none=>(match b with
  |.none=>some false
  |.dict _=>some true
  | _=>Option.none)
 |.dict a=>(match b with
  |.none=>some true
  |.dict b=>if a.length=b.length then(Zy a b).map not else Option.none
  | _=>Option.none)
 | _=>Option.none
noncomputable def eqF:V->V->Option Bool
 |.none,.none=>some true
 |.none,.int _=>some false
 |.int _,.none=>some false
 |.int a,.int b=>some (a==b)
 |.bytes a,.bytes b=>some (a==b)
 | _,_=>Option.none
noncomputable def inV(a:V):List V->Option Bool
 |[]=>some false
 |b::r=>match eqF b a,inV a r with
  |some x,some y=>some (x||y)
  | _,_=>Option.none
noncomputable def isNone:V->Bool
 |.none=>true
 | _=>false
noncomputable def xg(o:J8)(a b:V):Option Bool:=match o with
 |.lt=>Nt (λ x=>Nt (λ y=>some (decide (x<y))) b) a
 |.le=>Nt (λ x=>Nt (λ y=>some (decide (x<=y))) b) a
 |.gt=>Nt (λ x=>Nt (λ y=>some (decide (y<x))) b) a
 |.ge=>Nt (λ x=>Nt (λ y=>some (decide (y<=x))) b) a
 |.eq=>ahs a b
 |.ne=>Qo a b
 |.inn=>(match b with|.tuple l=>inV a l|.list l=>inV a l | _=>Option.none)
 |.nin=>(match b with|.tuple l=>(inV a l).map not|.list l=>(inV a l).map not | _=>Option.none)
 |.iss=>onN (some (isNone a)) b
 |.isn=>onN (some (!isNone a)) b
noncomputable def place(i:Int)(n:Nat):Option Nat:=
 if 0<=i then(if i<n then some i.toNat else Option.none)
 else(if 0<=i+n then some (i+n).toNat else Option.none)
noncomputable def zp(a i:V):Option V:=match a,i with
 |.bytes b,.int i=>if 0<=i/\b.length<=lim then(b[i.toNat]?).map λ c=>.int c.toNat else Option.none
 |.list l,.int i=>if l.length<=lim then(place i l.length).bind (l[·]?)else Option.none
 |.tuple l,.int i=>if l.length<=lim then(place i l.length).bind (l[·]?)else Option.none
 |.dict l,.str k=>lk k l
 | _,_=>Option.none
noncomputable def clip(n:Nat)(i:Int):Nat:=(max 0 (min (if i<0 then i+n else i) n)).toNat
noncomputable def cut{α : Type}(l:List α)(lo hi:Option Int):List α:=
 let a:=lo.elim 0 (clip l.length)
 let b:=hi.elim l.length (clip l.length)
 (l.drop a).take (b-a)
noncomputable def axy(a:V)(lo hi:Option Int):Option V:=
 (match a with
  |.bytes b=>if b.length<=lim then some (.bytes (cut b lo hi))else Option.none
  |.list l=>if l.length<=lim then some (.list (cut l lo hi))else Option.none
  |.tuple l=>(match lo,hi with
   |some a,Option.none=>if 1<=a/\a<=l.length/\l.length<=lim then some (.tuple (l.drop a.toNat))else Option.none
   | _,_=>Option.none)
  | _=>Option.none)
noncomputable def Ui:Option V->Option (Option Int)
 |some (.int i)=>if i.natAbs<1000000000000 then some (some i)else Option.none
 |some _=>Option.none
 |Option.none=>some Option.none
noncomputable def wk(a:V)(lo hi:Option V):Option V:=(Ui lo).bind λ l=>(Ui hi).bind λ h=>axy a l h
noncomputable def lenV:V->Option V
 |.bytes b=>if b.length<=lim then some (.int b.length)else Option.none
 |.list l=>if l.length<=lim then some (.int l.length)else Option.none
 |.tuple l=>if l.length<=lim then some (.int l.length)else Option.none
 | _=>Option.none
noncomputable def yj(n:Nat):Nat:=if n=0 then 0 else n.log2+1
noncomputable def yh:Nat->Nat->List UInt8
 |0,_=> []
 |k+1,n=>yh k (n/256)++[(n%256).toUInt8]
noncomputable def p7(l:List UInt8):Nat:=l.foldl (λ a c=>a*256+c.toNat) 0
noncomputable def z6:V->Option Bool
 |.list _=>some true
 |.bytes _=>some false
 |.str _=>some false
 |.none=>some false
 | _=>Option.none
noncomputable def Mx:V->Option Bool
 |.bytes _=>some true
 |.str _=>some false
 | _=>Option.none
noncomputable def Bq:V->Option V
 |.list l=>(match intsOf l with
  |some ns=>if(ns.all λ n=>decide (0<=n)&&decide (n<256))=true/\ns.length<=lim then some (.bytes (ns.map λ n=>n.toNat.toUInt8))else Option.none
  |Option.none=>Option.none)
 | _=>Option.none
noncomputable def Um(sep a:V):Option V:=match sep,a with
 |.bytes [],.list l=>(match bytesOf l with
  |some bs=>if bs.flatten.length<=lim/\l.length<=lim then some (.bytes bs.flatten)else Option.none
  |Option.none=>Option.none)
 | _,_=>Option.none
noncomputable def m5{α : Type}(o:Option α)(st:Store):R α:=match o with
 |some a=>.ok a st
 |Option.none=>.bad
noncomputable def Ent.toV:Ent->V
 |.val v=>v
 |.own l=>.list l
noncomputable def CD.toV:CD->V
 |.list l=>.list l
 |.dict l=>.dict (l.map λ p=>(p.1,p.2.toV))
 |.obj l=>.obj l
 |.hid=>.none
noncomputable def freeze(b:qp)(st:Store):R V:=match b with
 |.val v=>.ok v st
 |.cell i=>match st[i]? with
  |some ⟨_,.hid⟩=>.bad
  |some c=>.ok c.data.toV (st.set i ⟨false,c.data⟩)
  |Option.none=>.bad
noncomputable def Pu(b:qp)(k:V)(st:Store):Option V:=match b with
 |.val v=>zp v k
 |.cell i=>match st[i]? with
  |some ⟨_,.list l⟩=>zp (.list l) k
  |some ⟨_,.dict l⟩=>(match k with
   |.str x=>(match lk x l with|some (.val v)=>some v | _=>Option.none)
   | _=>Option.none)
  | _=>Option.none
noncomputable def Nq(b:qp)(st:Store):Option V:=match b with
 |.val v=>lenV v
 |.cell i=>match st[i]? with
  |some ⟨_,.list l⟩=>lenV (.list l)
  | _=>Option.none
noncomputable def setCell(i:Nat)(d:CD)(st:Store):Store:=st.set i ⟨true,d⟩
noncomputable def setB(b:qp)(k:V)(e:Ent)(st:Store):Option Store:=match b with
 |.cell i=>(match st[i]? with
  |some ⟨true,.dict l⟩=>(match k with
   |.str x=>if l.length<=1000 then some (setCell i (.dict (put x e l)) st)else Option.none
   | _=>Option.none)
  |some ⟨true,.list l⟩=>(match k,e with
   |.int j,.val v=>if 0<=j/\j<l.length/\l.length<=lim then some (setCell i (.list (l.set j.toNat v)) st)else Option.none
   | _,_=>Option.none)
  | _=>Option.none)
 | _=>Option.none
noncomputable def Bh(b:qp)(n:String)(v:V)(st:Store):Option Store:=match b with
 |.cell i=>(match st[i]? with
  |some ⟨true,.obj l⟩=>if l.length<=900 then some (setCell i (.obj (put n v l)) st)else Option.none
  | _=>Option.none)
 | _=>Option.none
noncomputable def Gd(b:qp)(k:Option String)(v:V)(st:Store):Option Store:=match b,k with
 |.cell i,Option.none=>(match st[i]? with
  |some ⟨true,.list l⟩=>if l.length<=lim then some (setCell i (.list (l++[v])) st)else Option.none
  | _=>Option.none)
 |.cell i,some x=>(match st[i]? with
  |some ⟨true,.dict l⟩=>(match lk x l with
   |some (.own q)=>if q.length<=lim then some (setCell i (.dict (put x (.own (q++[v])) l)) st)else Option.none
   | _=>Option.none)
  | _=>Option.none)
 | _,_=>Option.none
noncomputable def ao4:List (String×V):=[("WORD",.int 115792089237316195423570985008687907853269984665640564039457584007913129639936),("MOST",.int 1461501637330902918203684832716283019655932542976),("LONG",.int 18446744073709551616),("OCTETS_words",.int 32),("OCTETS_rlp",.int 128),
 ("LIST",.int 192),("SHORT",.int 55),("DEEPEST",.int 60),("_law_sizes",.tuple [.int 0,.int 1,.int 55,.int 56,.int 300])]
noncomputable def J3(x:String):Option V:=lk x ao4
noncomputable def Vj:Ex->Option String
 |.nm x=>some x
 | _=>Option.none
noncomputable abbrev CF:=String->List qp->Store->R V
noncomputable def mapR(f:V->Store->R (Option V)):List V->Store->R (List V)
 |[],st=>.ok [] st
 |v::r,st=>(f v st).bind λ o st=>(mapR f r st).bind λ l st=>.ok (match o with|some x=>x::l|Option.none=>l) st
noncomputable def itemsOf:V->Option (List V)
 |.list l=>if l.length<=lim then some l else Option.none
 |.tuple l=>if l.length<=lim then some l else Option.none
 |.bytes b=>if b.length<=lim then some (b.map λ c=>.int c.toNat)else Option.none
 | _=>Option.none
noncomputable def Kv:V->Option V
 |.int n=>if 0<=n/\n<=100000 then some (.list ((List.range n.toNat).map λ (i:Nat)=>.int i))else Option.none
 | _=>Option.none
noncomputable def Wa(ρ:Loc)(a:Ex)(whole:R V)(st:Store):R qp:=match Vj a with
 |some x=>(match lk x ρ with
  |some b=>.ok b st
  |Option.none=>.bad)
 |Option.none=>whole.bind λ v st=>.ok (.val v) st
noncomputable def Bp(caps:List String)(ρ:Loc):Loc:=caps.filterMap λ y=>(lk y ρ).map (y,·)
noncomputable def truth:V->Option Bool
 |.bool b=>some b
 | _=>Option.none
mutual
noncomputable def iu(cf:CF)(ρ:Loc):Ex->Store->R V
 |.nm x,st=>(match lk x ρ with
  |some b=>freeze b st
  |Option.none=>.bad)
 |.gl x,st=>m5 (J3 x) st
 |.int i,st=>.ok (.int i) st
 |.boo b,st=>.ok (.bool b) st
 |.non,st=>.ok .none st
 |.byt l,st=>.ok (.bytes l) st
 |.str x,st=>.ok (.str x) st
 |.bin o a b,st=>(iu cf ρ a st).bind λ x st=>(iu cf ρ b st).bind λ y st=>m5 (Cd o x y) st
 |.neg a,st=>(iu cf ρ a st).bind λ x st=>(match x with|.int i=>.ok (.int (-i)) st | _=>.bad)
 |.cmp o a b,st=>(iu cf ρ a st).bind λ x st=>(iu cf ρ b st).bind λ y st=>m5 ((xg o x y).map .bool) st
 |.cmp2 o p a b c,st=>(iu cf ρ a st).bind λ x st=>(iu cf ρ b st).bind λ y st=>match xg o x y with
  |some false=>.ok (.bool false) st
  |some true=>(iu cf ρ c st).bind λ z st=>m5 ((xg p y z).map .bool) st
  |Option.none=>.bad
 |.notE a,st=>(ug cf ρ a st).bind λ b st=>.ok (.bool (!b)) st
 |.andE es,st=>(O2 cf ρ es st).bind λ b st=>.ok (.bool b) st
 |.orE es,st=>(al1 cf ρ es st).bind λ b st=>.ok (.bool b) st
 |.ife t a b,st=>(ug cf ρ t st).bind λ c st=>match c with
  |true=>iu cf ρ a st
  |false=>iu cf ρ b st
 |.attr a n,st=>(match Vj a with
  |some x=>(match lk x ρ with|some (.val (.obj l))=>m5 (lk n l) st | _=>.bad)
  |Option.none=>.bad)
 |.idx a i,st=>(Wa ρ a (iu cf ρ a st) st).bind λ b st=>(iu cf ρ i st).bind λ k st=>m5 (Pu b k st) st
 |.slc a lo hi,st=>(iu cf ρ a st).bind λ x st=>(evO cf ρ lo st).bind λ l st=>(evO cf ρ hi st).bind λ h st=>m5 (wk x l h) st
 |.rev a,st=>(iu cf ρ a st).bind λ x st=>(match x with|.list l=>if l.length<=lim then .ok (.list l.reverse) st else .bad | _=>.bad)
 |.tup es,st=>(Bl cf ρ es st).bind λ l st=>if l.length<=lim then .ok (.tuple l) st else .bad
 |.lst es,st=>(Bl cf ρ es st).bind λ l st=>if l.length<=lim then .ok (.list l) st else .bad
 |.dct ks es,st=>(Bl cf ρ es st).bind λ l st=>if l.length=ks.length/\ks.Nodup/\ks.length<=15 then .ok (.dict (ks.zip l)) st else .bad
 |.comp elt x it cond caps,st=>(iu cf ρ it st).bind λ s st=>(m5 (itemsOf s) st).bind λ l st=>(mapR (λ v st=>match cond with
  |.none=>(iu cf ((x,.val v)::Bp caps ρ) elt st).bind λ y st=>.ok (some y) st
  |.some c=>(ug cf ((x,.val v)::Bp caps ρ) c st).bind λ b st=>match b with
   |true=>(iu cf ((x,.val v)::Bp caps ρ) elt st).bind λ y st=>.ok (some y) st
   |false=>.ok Option.none st) l st).bind λ l st=>if l.length<=lim then .ok (.list l) st else .bad
 |.call f es,st=>(Jx cf ρ es st).bind λ l st=>cf f l st
 |.new es,st=>(Jx cf ρ es st).bind λ l st=>cf "Transaction" l st
 |.len a,st=>(Wa ρ a (iu cf ρ a st) st).bind λ b st=>m5 (Nq b st) st
 |.isl a,st=>(iu cf ρ a st).bind λ x st=>m5 ((z6 x).map .bool) st
 |.isb a,st=>(iu cf ρ a st).bind λ x st=>m5 ((Mx x).map .bool) st
 |.mkb a,st=>(iu cf ρ a st).bind λ x st=>m5 (Bq x) st
 |.mkd a,st=>(iu cf ρ a st).bind λ x st=>(match x with|.dict l=>if l.length<=1000 then .ok (.dict l) st else .bad | _=>.bad)
 |.all a,st=>(iu cf ρ a st).bind λ x st=>(match x with
  |.list l=>(match boolsOf l with|some bs=>if l.length<=lim then .ok (.bool (bs.all id)) st else .bad|Option.none=>.bad)
  | _=>.bad)
 |.rng a,st=>(iu cf ρ a st).bind λ x st=>m5 (Kv x) st
 |.bitlen a,st=>(iu cf ρ a st).bind λ x st=>(match x with|.int i=>if 0<=i then .ok (.int (yj i.toNat)) st else .bad | _=>.bad)
 |.tobytes a n,st=>(iu cf ρ a st).bind λ x st=>(match x with
  |.int i=>(iu cf ρ n st).bind λ y st=>(match y with
   |.int k=>if 0<=i/\0<=k/\k<=1000/\i<256^k.toNat then .ok (.bytes (yh k.toNat i.toNat)) st else .bad
   | _=>.bad)
  | _=>.bad)
 |.frombytes a,st=>(iu cf ρ a st).bind λ x st=>(match x with
  |.bytes b=>if b.length<=1000 then .ok (.int (p7 b)) st else .bad
  | _=>.bad)
 |.join sep a,st=>(iu cf ρ sep st).bind λ x st=>(match x with
  |.bytes b=>(iu cf ρ a st).bind λ y st=>m5 (Um (.bytes b) y) st
  | _=>.bad)
noncomputable def ug(cf:CF)(ρ:Loc):Ex->Store->R Bool
 |.notE a,st=>(ug cf ρ a st).bind λ b st=>.ok (!b) st
 |.andE es,st=>O2 cf ρ es st
 |.orE es,st=>al1 cf ρ es st
 |.nm x,st=>(match lk x ρ with|some (.val (.bool b))=>.ok b st | _=>.bad)
 |.cmp o a b,st=>(iu cf ρ a st).bind λ x st=>(iu cf ρ b st).bind λ y st=>m5 (xg o x y) st
 |.cmp2 o p a b c,st=>(iu cf ρ a st).bind λ x st=>(iu cf ρ b st).bind λ y st=>match xg o x y with
  |some false=>.ok false st
  |some true=>(iu cf ρ c st).bind λ z st=>m5 (xg p y z) st
  |Option.none=>.bad
 |.ife t a b,st=>(ug cf ρ t st).bind λ c st=>match c with
  |true=>ug cf ρ a st
  |false=>ug cf ρ b st
 |.isl a,st=>(iu cf ρ a st).bind λ x st=>m5 (z6 x) st
 |.isb a,st=>(iu cf ρ a st).bind λ x st=>m5 (Mx x) st
 | _,_=>.bad
noncomputable def O2(cf:CF)(ρ:Loc):Aq->Store->R Bool
 |.nil,st=>.ok true st
 |.cons e es,st=>(ug cf ρ e st).bind λ b st=>match b with
  |true=>O2 cf ρ es st
  |false=>.ok false st
noncomputable def al1(cf:CF)(ρ:Loc):Aq->Store->R Bool
 |.nil,st=>.ok false st
 |.cons e es,st=>(ug cf ρ e st).bind λ b st=>match b with
  |true=>.ok true st
  |false=>al1 cf ρ es st
noncomputable def Bl(cf:CF)(ρ:Loc):Aq->Store->R (List V)
 |.nil,st=>.ok [] st
 |.cons e es,st=>(iu cf ρ e st).bind λ v st=>(Bl cf ρ es st).bind λ l st=>.ok (v::l) st
noncomputable def Jx(cf:CF)(ρ:Loc):Aq->Store->R (List qp)
 |.nil,st=>.ok [] st
 |.cons e es,st=>(Wa ρ e (iu cf ρ e st) st).bind λ b st=>(Jx cf ρ es st).bind λ l st=>.ok (b::l) st
noncomputable def evO(cf:CF)(ρ:Loc):Ii->Store->R (Option V)
 |.none,st=>.ok Option.none st
 |.some e,st=>(iu cf ρ e st).bind λ v st=>.ok (some v) st
end
inductive Fl where
 |next (ρ:Loc)
 |ret (v:V)
noncomputable def Ba:Ex->Bool
 |.lst _=>true
 |.dct _ _=>true
 |.mkd _=>true
 | _=>false
noncomputable def cellOf:V->Option CD
 |.list l=>some (.list l)
 |.dict l=>some (.dict (l.map λ p=>(p.1,.val p.2)))
 | _=>Option.none
noncomputable def Kf:Uu->Nat
 |.nil=>0
 |.cons _ ts=>Kf ts+1
mutual
noncomputable def qe(cf:CF):Tg->V->Loc->Store->R Loc
 |.nm x,v,ρ,st=>.ok (put x (.val v) ρ) st
 |.attr x n,v,ρ,st=>(match lk x ρ with
  |some b=>(match Bh b n v st with|some st=>.ok ρ st|Option.none=>.bad)
  |Option.none=>.bad)
 |.idx x k,v,ρ,st=>(match lk x ρ with
  |some b=>(iu cf ρ k st).bind λ i st=>(match setB b i (.val v) st with|some st=>.ok ρ st|Option.none=>.bad)
  |Option.none=>.bad)
 |.tup ts,v,ρ,st=>(match v with
  |.tuple l=>if l.length<=lim/\l.length=Kf ts then Gg cf ts l ρ st else .bad
  | _=>.bad)
noncomputable def Gg(cf:CF):Uu->List V->Loc->Store->R Loc
 |.nil,[],ρ,st=>.ok ρ st
 |.cons t ts,v::l,ρ,st=>(qe cf t v ρ st).bind λ ρ st=>Gg cf ts l ρ st
 | _,_,_,_=>.bad
end
noncomputable def assign(cf:CF)(t:Tg)(e:Ex)(ρ:Loc)(st:Store):R Loc:=match t,Ba e with
 |.nm x,true=>(iu cf ρ e st).bind λ v st=>(match cellOf v with
  |some d=>.ok (put x (.cell st.length) ρ) (st++[⟨true,d⟩])
  |Option.none=>.bad)
 |.idx x k,true=>(match e with
  |.lst .nil=>(match lk x ρ with
   |some b=>(iu cf ρ k st).bind λ i st=>(match setB b i (.own []) st with|some st=>.ok ρ st|Option.none=>.bad)
   |Option.none=>.bad)
  | _=>.bad)
 |t,_=>(iu cf ρ e st).bind λ v st=>qe cf t v ρ st
noncomputable def forR(f:V->Loc->Store->R Fl):List V->Loc->Store->R Fl
 |[],ρ,st=>.ok (.next ρ) st
 |v::r,ρ,st=>(f v ρ st).bind λ fl st=>match fl with
  |.next ρ=>forR f r ρ st
  |.ret x=>.ok (.ret x) st
noncomputable def Jh(t:Loc->Store->R Bool)(f:Loc->Store->R Fl):Nat->Loc->Store->R Fl
 |0,_,_=>.bad
 |n+1,ρ,st=>(t ρ st).bind λ b st=>match b with
  |false=>.ok (.next ρ) st
  |true=>(f ρ st).bind λ fl st=>match fl with
   |.next ρ=>Jh t f n ρ st
   |.ret x=>.ok (.ret x) st
noncomputable def turns:Nat:=100000
mutual
noncomputable def exS(cf:CF)(can:Bool):St->Loc->Store->R Fl
 |.asg t e,ρ,st=>(assign cf t e ρ st).bind λ ρ st=>.ok (.next ρ) st
 |.app x Option.none e,ρ,st=>(match lk x ρ with
  |some (.cell i)=>(match st[i]? with
   |some ⟨_,.list _⟩=>(iu cf ρ e st).bind λ v st=>(match Gd (.cell i) Option.none v st with|some st=>.ok (.next ρ) st|Option.none=>.bad)
   | _=>.bad)
  | _=>.bad)
 |.app x (some k) e,ρ,st=>(match lk x ρ with
  |some (.cell i)=>(match st[i]? with
   |some ⟨true,.dict d⟩=>(match lk k d with
    |some (.own _)=>(iu cf ρ e (st.set i ⟨false,.hid⟩)).bind λ v st=>(match st[i]? with
     |some ⟨false,.hid⟩=>(match Gd (.cell i) (some k) v (st.set i ⟨true,.dict d⟩)with|some st=>.ok (.next ρ) st|Option.none=>.bad)
     | _=>.bad)
    | _=>.bad)
   | _=>.bad)
  | _=>.bad)
 |.ifs t a b,ρ,st=>(ug cf ρ t st).bind λ c st=>match c with
  |true=>dw cf can a ρ st
  |false=>dw cf can b ρ st
 |.whl t b,ρ,st=>Jh (ug cf · t ·) (dw cf can b) turns ρ st
 |.for t it b,ρ,st=>(iu cf ρ it st).bind λ s st=>(m5 (itemsOf s) st).bind λ l st=>forR (λ v ρ st=>(qe cf t v ρ st).bind λ ρ st=>dw cf can b ρ st) l ρ st
 |.ret e,ρ,st=>(iu cf ρ e st).bind λ v st=>.ok (.ret v) st
 |.rai c,_,st=>if can then .exc c st else .bad
 |.tryx b h,ρ,st=>(match dw cf can b ρ st with
  |.ok fl st=>.ok fl st
  |.exc _ st=>dw cf can h ρ st
  |.bad=>.bad)
 |.exp e,ρ,st=>(iu cf ρ e st).bind λ _ st=>.ok (.next ρ) st
 |.any,_,_=>.bad
noncomputable def dw(cf:CF)(can:Bool):u9->Loc->Store->R Fl
 |.nil,ρ,st=>.ok (.next ρ) st
 |.cons s ss,ρ,st=>(exS cf can s ρ st).bind λ fl st=>match fl with
  |.next ρ=>dw cf can ss ρ st
  |.ret v=>.ok (.ret v) st
end
noncomputable def back(n:Nat){α : Type}:R α->R α
 |.ok a st=>.ok a (st.take n)
 |.exc c st=>.exc c (st.take n)
 |.bad=>.bad
noncomputable def Lb(cf:CF)(can:Bool)(fd:Fn)(args:List qp)(st:Store):R V:=
 if args.length=fd.ps.length then
  back st.length ((dw cf can fd.body (fd.ps.zip args) st).bind λ fl st=>match fl with
   |.ret v=>.ok v st
   |.next _=>.ok .none st)
 else .bad
noncomputable def Wq(cf:CF)(can:Bool)(fd:Fn)(args:List qp)(st:Store):R V:=
 if args.length+1=fd.ps.length then
  back st.length ((dw cf can fd.body (fd.ps.zip (.cell st.length::args)) (st++[⟨true,.obj []⟩])).bind λ fl st'=>match fl with
   |.next _=>(match st'[st.length]? with
    |some ⟨true,.obj l⟩=>.ok (.obj l) st'
    | _=>.bad)
   |.ret _=>.bad)
 else .bad
noncomputable def Ei(tab:String->Option Fn)(init:Fn):Nat->CF
 |0,_,_,_=>.bad
 |n+1,f,args,st=>match f with
  | "Transaction" =>(match n with
   |0=>.bad
   |m+1=>Wq (Ei tab init m) (decide (4<=m)) init args st)
  | _=>(match tab f with
   |some fd=>Lb (Ei tab init n) (decide (4<=n)) fd args st
   |Option.none=>.bad)
noncomputable def ado:Fn:=⟨["n"],
 (.cons (.ret (.bin .mod (.nm "n") (.gl "WORD")))
 .nil)⟩
noncomputable def Cw:Fn:=⟨["w"],
 (.cons (.ret (.tobytes (.call "led" (.cons (.nm "w") .nil)) (.gl "OCTETS_words")))
 .nil)⟩
noncomputable def Cr:Fn:=⟨["octets"],
 (.cons (.ret (.frombytes (.slc (.nm "octets") (.some (.neg (.gl "OCTETS_words"))) .none)))
 .nil)⟩
noncomputable def Af:Fn:=⟨["address"],
 (.cons (.ifs (.notE (.cmp2 .le .lt (.int 0) (.nm "address") (.gl "MOST"))) (.cons .any
  .nil) .nil)
 (.cons (.ret (.slc (.call "word_octets" (.cons (.nm "address") .nil)) (.some (.int 12)) .none))
 .nil))⟩
noncomputable def Ax:Fn:=⟨["n"],
 (.cons (.ifs (.cmp .lt (.nm "n") (.int 0)) (.cons (.rai .rlp)
  .nil) .nil)
 (.cons (.ret (.tobytes (.nm "n") (.bin .fdiv (.bin .add (.bitlen (.nm "n")) (.int 7)) (.int 8))))
 .nil))⟩
noncomputable def zq:Fn:=⟨["octets"],
 (.cons (.ifs (.cmp .eq (.slc (.nm "octets") .none (.some (.int 1))) (.byt [0])) (.cons (.rai .rlp)
  .nil) .nil)
 (.cons (.ret (.frombytes (.nm "octets")))
 .nil))⟩
noncomputable def Wi:Fn:=⟨["low","size"],
 (.cons (.ifs (.cmp .le (.nm "size") (.gl "SHORT")) (.cons (.ret (.mkb (.lst (.cons (.bin .add (.nm "low") (.nm "size")) .nil))))
  .nil) .nil)
 (.cons (.asg (.nm "told") (.call "number_octets" (.cons (.nm "size") .nil)))
 (.cons (.ret (.bin .add (.mkb (.lst (.cons (.bin .add (.bin .add (.nm "low") (.gl "SHORT")) (.len (.nm "told"))) .nil))) (.nm "told")))
 .nil)))⟩
noncomputable def Bw:Fn:=⟨["item","depth"],
 (.cons (.ifs (.cmp .gt (.nm "depth") (.gl "DEEPEST")) (.cons (.rai .rlp)
  .nil) .nil)
 (.cons (.ifs (.isl (.nm "item")) (.cons (.asg (.nm "body") (.byt []))
  (.cons (.for (.nm "part") (.nm "item") (.cons (.asg (.nm "body") (.bin .add (.nm "body") (.call "encoded_at" (.cons (.nm "part") (.cons (.bin .add (.nm "depth") (.int 1)) .nil)))))
   .nil))
  (.cons (.ret (.bin .add (.call "head" (.cons (.gl "LIST") (.cons (.len (.nm "body")) .nil))) (.nm "body")))
  .nil))) .nil)
 (.cons (.ifs (.notE (.isb (.nm "item"))) (.cons (.rai .rlp)
  .nil) .nil)
 (.cons (.ifs (.andE (.cons (.cmp .eq (.len (.nm "item")) (.int 1)) (.cons (.cmp .lt (.idx (.nm "item") (.int 0)) (.gl "OCTETS_rlp")) .nil))) (.cons (.ret (.nm "item"))
  .nil) .nil)
 (.cons (.ret (.bin .add (.call "head" (.cons (.gl "OCTETS_rlp") (.cons (.len (.nm "item")) .nil))) (.nm "item")))
 .nil)))))⟩
noncomputable def Gz:Fn:=⟨["item"],
 (.cons (.ret (.call "encoded_at" (.cons (.nm "item") (.cons (.int 0) .nil))))
 .nil)⟩
noncomputable def Ga:Fn:=⟨["octets","place","many"],
 (.cons (.ifs (.cmp .gt (.bin .add (.nm "place") (.nm "many")) (.len (.nm "octets"))) (.cons (.rai .rlp)
  .nil) .nil)
 (.cons (.asg (.nm "size") (.call "octets_number" (.cons (.slc (.nm "octets") (.some (.nm "place")) (.some (.bin .add (.nm "place") (.nm "many")))) .nil)))
 (.cons (.ifs (.cmp .le (.nm "size") (.gl "SHORT")) (.cons (.rai .rlp)
  .nil) .nil)
 (.cons (.ret (.nm "size"))
 .nil))))⟩
noncomputable def Fj:Fn:=⟨["octets","place"],
 (.cons (.ifs (.cmp .ge (.nm "place") (.len (.nm "octets"))) (.cons (.rai .rlp)
  .nil) .nil)
 (.cons (.asg (.nm "first") (.idx (.nm "octets") (.nm "place")))
 (.cons (.ifs (.cmp .lt (.nm "first") (.gl "OCTETS_rlp")) (.cons (.ret (.tup (.cons (.boo false) (.cons (.nm "place") (.cons (.bin .add (.nm "place") (.int 1)) .nil)))))
  .nil) .nil)
 (.cons (.asg (.nm "is_list") (.cmp .ge (.nm "first") (.gl "LIST")))
 (.cons (.asg (.tup (.cons (.nm "size") (.cons (.nm "start") .nil))) (.tup (.cons (.bin .sub (.nm "first") (.ife (.nm "is_list") (.gl "LIST") (.gl "OCTETS_rlp"))) (.cons (.bin .add (.nm "place") (.int 1)) .nil))))
 (.cons (.ifs (.cmp .gt (.nm "size") (.gl "SHORT")) (.cons (.asg (.nm "many") (.bin .sub (.nm "size") (.gl "SHORT")))
  (.cons (.asg (.tup (.cons (.nm "size") (.cons (.nm "start") .nil))) (.tup (.cons (.call "read_size" (.cons (.nm "octets") (.cons (.nm "start") (.cons (.nm "many") .nil)))) (.cons (.bin .add (.nm "start") (.nm "many")) .nil))))
  .nil)) .nil)
 (.cons (.ifs (.cmp .gt (.bin .add (.nm "start") (.nm "size")) (.len (.nm "octets"))) (.cons (.rai .rlp)
  .nil) .nil)
 (.cons (.ifs (.andE (.cons (.notE (.nm "is_list")) (.cons (.cmp .eq (.nm "size") (.int 1)) (.cons (.cmp .eq (.nm "start") (.bin .add (.nm "place") (.int 1))) (.cons (.cmp .lt (.idx (.nm "octets") (.nm "start")) (.gl "OCTETS_rlp")) .nil))))) (.cons (.rai .rlp)
  .nil) .nil)
 (.cons (.ret (.tup (.cons (.nm "is_list") (.cons (.nm "start") (.cons (.bin .add (.nm "start") (.nm "size")) .nil)))))
 .nil)))))))))⟩
noncomputable def Fv:Fn:=⟨["octets","place","depth"],
 (.cons (.ifs (.cmp .gt (.nm "depth") (.gl "DEEPEST")) (.cons (.rai .rlp)
  .nil) .nil)
 (.cons (.asg (.tup (.cons (.nm "is_list") (.cons (.nm "start") (.cons (.nm "end") .nil)))) (.call "read_head" (.cons (.nm "octets") (.cons (.nm "place") .nil))))
 (.cons (.ifs (.notE (.nm "is_list")) (.cons (.ret (.tup (.cons (.slc (.nm "octets") (.some (.nm "start")) (.some (.nm "end"))) (.cons (.nm "end") .nil))))
  .nil) .nil)
 (.cons (.asg (.nm "found") (.lst .nil))
 (.cons (.whl (.cmp .lt (.nm "start") (.nm "end")) (.cons (.asg (.tup (.cons (.nm "item") (.cons (.nm "start") .nil))) (.call "read_item" (.cons (.nm "octets") (.cons (.nm "start") (.cons (.bin .add (.nm "depth") (.int 1)) .nil)))))
  (.cons (.app "found" none (.nm "item"))
  .nil)))
 (.cons (.ifs (.cmp .ne (.nm "start") (.nm "end")) (.cons (.rai .rlp)
  .nil) .nil)
 (.cons (.ret (.tup (.cons (.nm "found") (.cons (.nm "end") .nil))))
 .nil)))))))⟩
noncomputable def N8:Fn:=⟨["octets"],
 (.cons (.asg (.tup (.cons (.nm "item") (.cons (.nm "end") .nil))) (.call "read_item" (.cons (.nm "octets") (.cons (.int 0) (.cons (.int 0) .nil)))))
 (.cons (.ifs (.cmp .ne (.nm "end") (.len (.nm "octets"))) (.cons (.rai .rlp)
  .nil) .nil)
 (.cons (.ret (.nm "item"))
 .nil)))⟩
noncomputable def Jb:Fn:=⟨["tx"],
 (.cons (.ifs (.cmp .nin (.attr (.nm "tx") "kind") (.tup (.cons (.int 0) (.cons (.int 1) (.cons (.int 2) .nil))))) (.cons (.rai .rlp)
  .nil) .nil)
 (.cons (.ifs (.andE (.cons (.cmp .ne (.attr (.nm "tx") "kind") (.int 2)) (.cons (.cmp .ne (.attr (.nm "tx") "priority") (.attr (.nm "tx") "cap")) .nil))) (.cons (.rai .rlp)
  .nil) .nil)
 (.cons (.ifs (.andE (.cons (.cmp .eq (.attr (.nm "tx") "kind") (.int 0)) (.cons (.cmp .ne (.attr (.nm "tx") "access") (.lst .nil)) .nil))) (.cons (.rai .rlp)
  .nil) .nil)
 (.cons (.ifs (.orE (.cons (.notE (.cmp2 .le .lt (.int 0) (.attr (.nm "tx") "nonce") (.gl "LONG"))) (.cons (.notE (.cmp2 .le .lt (.int 0) (.attr (.nm "tx") "limit") (.gl "LONG"))) .nil))) (.cons (.rai .rlp)
  .nil) .nil)
 (.cons (.for (.nm "number") (.tup (.cons (.attr (.nm "tx") "chain") (.cons (.attr (.nm "tx") "priority") (.cons (.attr (.nm "tx") "cap") (.cons (.attr (.nm "tx") "value") .nil))))) (.cons (.ifs (.notE (.cmp2 .le .lt (.int 0) (.nm "number") (.gl "WORD"))) (.cons (.rai .rlp)
  .nil) .nil)
  .nil))
 (.cons (.ifs (.andE (.cons (.cmp .isn (.attr (.nm "tx") "target") .non) (.cons (.notE (.cmp2 .le .lt (.int 0) (.attr (.nm "tx") "target") (.gl "MOST"))) .nil))) (.cons (.rai .rlp)
  .nil) .nil)
 .nil))))))⟩
noncomputable def zy:Fn:=⟨["access"],
 (.cons (.asg (.nm "rows") (.lst .nil))
 (.cons (.for (.tup (.cons (.nm "address") (.cons (.nm "slots") .nil))) (.nm "access") (.cons (.ifs (.orE (.cons (.notE (.cmp2 .le .lt (.int 0) (.nm "address") (.gl "MOST"))) (.cons (.cmp .ne (.comp (.nm "slot") "slot" (.nm "slots") (.some (.notE (.cmp2 .le .lt (.int 0) (.nm "slot") (.gl "WORD")))) []) (.lst .nil)) .nil))) (.cons (.rai .rlp)
  .nil) .nil)
  (.cons (.app "rows" none (.lst (.cons (.call "address_octets" (.cons (.nm "address") .nil)) (.cons (.comp (.call "word_octets" (.cons (.nm "slot") .nil)) "slot" (.nm "slots") .none []) .nil))))
  .nil)))
 (.cons (.ret (.nm "rows"))
 .nil)))⟩
noncomputable def G6:Fn:=⟨["tx"],
 (.cons (.exp (.call "need_form" (.cons (.nm "tx") .nil)))
 (.cons (.asg (.nm "prices") (.ife (.cmp .eq (.attr (.nm "tx") "kind") (.int 2)) (.lst (.cons (.attr (.nm "tx") "priority") (.cons (.attr (.nm "tx") "cap") .nil))) (.lst (.cons (.attr (.nm "tx") "cap") .nil))))
 (.cons (.asg (.nm "ahead") (.bin .add (.bin .add (.lst (.cons (.attr (.nm "tx") "nonce") .nil)) (.nm "prices")) (.lst (.cons (.attr (.nm "tx") "limit") .nil))))
 (.cons (.ifs (.cmp .ne (.attr (.nm "tx") "kind") (.int 0)) (.cons (.asg (.nm "ahead") (.bin .add (.lst (.cons (.attr (.nm "tx") "chain") .nil)) (.nm "ahead")))
  .nil) .nil)
 (.cons (.asg (.nm "target") (.ife (.cmp .iss (.attr (.nm "tx") "target") .non) (.byt []) (.call "address_octets" (.cons (.attr (.nm "tx") "target") .nil))))
 (.cons (.asg (.nm "found") (.bin .add (.comp (.call "number_octets" (.cons (.nm "number") .nil)) "number" (.nm "ahead") .none []) (.lst (.cons (.nm "target") (.cons (.call "number_octets" (.cons (.attr (.nm "tx") "value") .nil)) (.cons (.attr (.nm "tx") "data") .nil))))))
 (.cons (.ret (.ife (.cmp .eq (.attr (.nm "tx") "kind") (.int 0)) (.nm "found") (.bin .add (.nm "found") (.lst (.cons (.call "access_item" (.cons (.attr (.nm "tx") "access") .nil)) .nil)))))
 .nil)))))))⟩
noncomputable def Cv:Fn:=⟨["tx"],
 (.cons (.ret (.ife (.cmp .eq (.attr (.nm "tx") "kind") (.int 0)) (.byt []) (.mkb (.lst (.cons (.attr (.nm "tx") "kind") .nil)))))
 .nil)⟩
noncomputable def Ai:Fn:=⟨["tx"],
 (.cons (.asg (.nm "found") (.call "item_of" (.cons (.nm "tx") .nil)))
 (.cons (.ifs (.andE (.cons (.cmp .eq (.attr (.nm "tx") "kind") (.int 0)) (.cons (.cmp .ne (.attr (.nm "tx") "chain") (.int 0)) .nil))) (.cons (.asg (.nm "found") (.bin .add (.nm "found") (.lst (.cons (.call "number_octets" (.cons (.attr (.nm "tx") "chain") .nil)) (.cons (.byt []) (.cons (.byt []) .nil))))))
  .nil) .nil)
 (.cons (.ret (.bin .add (.call "kind_octets" (.cons (.nm "tx") .nil)) (.call "encoded" (.cons (.nm "found") .nil))))
 .nil)))⟩
noncomputable def Dc:Fn:=⟨["tx"],
 (.cons (.asg (.nm "parity") (.idx (.attr (.nm "tx") "signature") (.int 0)))
 (.cons (.ifs (.cmp .ne (.attr (.nm "tx") "kind") (.int 0)) (.cons (.ret (.nm "parity"))
  .nil) .nil)
 (.cons (.ret (.ife (.cmp .eq (.attr (.nm "tx") "chain") (.int 0)) (.bin .add (.int 27) (.nm "parity")) (.bin .add (.bin .add (.int 35) (.bin .mul (.int 2) (.attr (.nm "tx") "chain"))) (.nm "parity"))))
 .nil)))⟩
noncomputable def Gu:Fn:=⟨["tx"],
 (.cons (.asg (.nm "found") (.call "item_of" (.cons (.nm "tx") .nil)))
 (.cons (.ifs (.cmp .iss (.attr (.nm "tx") "signature") .non) (.cons (.rai .tx)
  .nil) .nil)
 (.cons (.asg (.tup (.cons (.nm "parity") (.cons (.nm "r") (.cons (.nm "s") .nil)))) (.attr (.nm "tx") "signature"))
 (.cons (.ifs (.orE (.cons (.cmp .nin (.nm "parity") (.tup (.cons (.int 0) (.cons (.int 1) .nil)))) (.cons (.notE (.cmp2 .le .lt (.int 0) (.nm "r") (.gl "WORD"))) (.cons (.notE (.cmp2 .le .lt (.int 0) (.nm "s") (.gl "WORD"))) .nil)))) (.cons (.rai .tx)
  .nil) .nil)
 (.cons (.ret (.bin .add (.call "kind_octets" (.cons (.nm "tx") .nil)) (.call "encoded" (.cons (.bin .add (.nm "found") (.comp (.call "number_octets" (.cons (.nm "number") .nil)) "number" (.tup (.cons (.call "told_parity" (.cons (.nm "tx") .nil)) (.cons (.nm "r") (.cons (.nm "s") .nil)))) .none [])) .nil))))
 .nil)))))⟩
noncomputable def Cq:Fn:=⟨["item","bound"],
 (.cons (.ifs (.isl (.nm "item")) (.cons (.rai .rlp)
  .nil) .nil)
 (.cons (.ifs (.cmp .gt (.len (.nm "item")) (.int 34)) (.cons (.rai .rlp)
  .nil) .nil)
 (.cons (.asg (.nm "number") (.call "octets_number" (.cons (.nm "item") .nil)))
 (.cons (.ifs (.cmp .ge (.nm "number") (.nm "bound")) (.cons (.rai .rlp)
  .nil) .nil)
 (.cons (.ret (.nm "number"))
 .nil)))))⟩
noncomputable def Dy:Fn:=⟨["item","size"],
 (.cons (.ifs (.orE (.cons (.isl (.nm "item")) (.cons (.cmp .ne (.len (.nm "item")) (.nm "size")) .nil))) (.cons (.rai .rlp)
  .nil) .nil)
 (.cons (.ret (.call "octets_word" (.cons (.nm "item") .nil)))
 .nil))⟩
noncomputable def Ge:Fn:=⟨["item"],
 (.cons (.ifs (.notE (.isl (.nm "item"))) (.cons (.rai .rlp)
  .nil) .nil)
 (.cons (.asg (.nm "found") (.lst .nil))
 (.cons (.for (.nm "row") (.nm "item") (.cons (.ifs (.orE (.cons (.notE (.isl (.nm "row"))) (.cons (.cmp .ne (.len (.nm "row")) (.int 2)) (.cons (.notE (.isl (.idx (.nm "row") (.int 1)))) .nil)))) (.cons (.rai .rlp)
  .nil) .nil)
  (.cons (.app "found" none (.tup (.cons (.call "read_fixed" (.cons (.idx (.nm "row") (.int 0)) (.cons (.int 20) .nil))) (.cons (.comp (.call "read_fixed" (.cons (.nm "slot") (.cons (.int 32) .nil))) "slot" (.idx (.nm "row") (.int 1)) .none []) .nil))))
  .nil)))
 (.cons (.ret (.nm "found"))
 .nil))))⟩
noncomputable def I4:Fn:=⟨["kind","chain","rows","access","told"],
 (.cons (.asg (.tup (.cons (.nm "nonce") (.cons (.nm "limit") .nil))) (.tup (.cons (.call "read_number" (.cons (.idx (.nm "rows") (.int 0)) (.cons (.gl "LONG") .nil))) (.cons (.call "read_number" (.cons (.idx (.nm "rows") (.neg (.int 4))) (.cons (.gl "LONG") .nil))) .nil))))
 (.cons (.asg (.nm "prices") (.comp (.call "read_number" (.cons (.nm "row") (.cons (.gl "WORD") .nil))) "row" (.slc (.nm "rows") (.some (.int 1)) (.some (.neg (.int 4)))) .none []))
 (.cons (.asg (.nm "target") (.ife (.cmp .eq (.idx (.nm "rows") (.neg (.int 3))) (.byt [])) .non (.call "read_fixed" (.cons (.idx (.nm "rows") (.neg (.int 3))) (.cons (.int 20) .nil)))))
 (.cons (.ifs (.isl (.idx (.nm "rows") (.neg (.int 1)))) (.cons (.rai .rlp)
  .nil) .nil)
 (.cons (.asg (.nm "value") (.call "read_number" (.cons (.idx (.nm "rows") (.neg (.int 2))) (.cons (.gl "WORD") .nil))))
 (.cons (.ret (.new (.cons (.nm "kind") (.cons (.nm "chain") (.cons (.nm "nonce") (.cons (.idx (.nm "prices") (.int 0)) (.cons (.idx (.nm "prices") (.neg (.int 1))) (.cons (.nm "limit") (.cons (.nm "target") (.cons (.nm "value") (.cons (.idx (.nm "rows") (.neg (.int 1))) (.cons (.nm "access") (.cons (.nm "told") .nil)))))))))))))
 .nil))))))⟩
noncomputable def Ah:Fn:=⟨["rows","bound"],
 (.cons (.ret (.tup (.cons (.call "read_number" (.cons (.idx (.nm "rows") (.int 0)) (.cons (.nm "bound") .nil))) (.cons (.call "read_number" (.cons (.idx (.nm "rows") (.int 1)) (.cons (.gl "WORD") .nil))) (.cons (.call "read_number" (.cons (.idx (.nm "rows") (.int 2)) (.cons (.gl "WORD") .nil))) .nil)))))
 .nil)⟩
noncomputable def Kh:Fn:=⟨["item"],
 (.cons (.ifs (.orE (.cons (.notE (.isl (.nm "item"))) (.cons (.cmp .ne (.len (.nm "item")) (.int 9)) .nil))) (.cons (.rai .rlp)
  .nil) .nil)
 (.cons (.asg (.tup (.cons (.nm "told") (.cons (.nm "r") (.cons (.nm "s") .nil)))) (.call "read_signature" (.cons (.slc (.nm "item") (.some (.int 6)) .none) (.cons (.bin .add (.int 35) (.bin .mul (.int 2) (.gl "WORD"))) .nil))))
 (.cons (.ifs (.cmp .inn (.nm "told") (.tup (.cons (.int 27) (.cons (.int 28) .nil)))) (.cons (.ret (.call "read_rest" (.cons (.int 0) (.cons (.int 0) (.cons (.slc (.nm "item") .none (.some (.int 6))) (.cons (.lst .nil) (.cons (.tup (.cons (.bin .sub (.nm "told") (.int 27)) (.cons (.nm "r") (.cons (.nm "s") .nil)))) .nil)))))))
  .nil) .nil)
 (.cons (.ifs (.cmp .lt (.nm "told") (.int 37)) (.cons (.rai .tx)
  .nil) .nil)
 (.cons (.ret (.call "read_rest" (.cons (.int 0) (.cons (.bin .fdiv (.bin .sub (.nm "told") (.int 35)) (.int 2)) (.cons (.slc (.nm "item") .none (.some (.int 6))) (.cons (.lst .nil) (.cons (.tup (.cons (.bin .mod (.bin .sub (.nm "told") (.int 35)) (.int 2)) (.cons (.nm "r") (.cons (.nm "s") .nil)))) .nil)))))))
 .nil)))))⟩
noncomputable def Vz:Fn:=⟨["octets"],
 (.cons (.ifs (.cmp .nin (.slc (.nm "octets") .none (.some (.int 1))) (.tup (.cons (.byt [1]) (.cons (.byt [2]) .nil)))) (.cons (.ret (.call "read_old" (.cons (.call "decoded" (.cons (.nm "octets") .nil)) .nil)))
  .nil) .nil)
 (.cons (.asg (.tup (.cons (.nm "kind") (.cons (.nm "item") .nil))) (.tup (.cons (.idx (.nm "octets") (.int 0)) (.cons (.call "decoded" (.cons (.slc (.nm "octets") (.some (.int 1)) .none) .nil)) .nil))))
 (.cons (.ifs (.orE (.cons (.notE (.isl (.nm "item"))) (.cons (.cmp .ne (.len (.nm "item")) (.bin .add (.int 10) (.nm "kind"))) .nil))) (.cons (.rai .rlp)
  .nil) .nil)
 (.cons (.asg (.nm "told") (.call "read_signature" (.cons (.slc (.nm "item") (.some (.neg (.int 3))) .none) (.cons (.gl "WORD") .nil))))
 (.cons (.ifs (.cmp .gt (.idx (.nm "told") (.int 0)) (.int 1)) (.cons (.rai .tx)
  .nil) .nil)
 (.cons (.ret (.call "read_rest" (.cons (.nm "kind") (.cons (.call "read_number" (.cons (.idx (.nm "item") (.int 0)) (.cons (.gl "WORD") .nil))) (.cons (.slc (.nm "item") (.some (.int 1)) (.some (.neg (.int 4)))) (.cons (.call "read_access" (.cons (.idx (.nm "item") (.neg (.int 4))) .nil)) (.cons (.nm "told") .nil)))))))
 .nil))))))⟩
noncomputable def Dq:Fn:=⟨[],
 (.cons (.ret (.tup (.cons (.int 0) (.cons (.int 1) (.cons (.int 137) (.cons (.bin .pow (.int 2) (.int 64)) (.cons (.bin .sub (.bin .pow (.int 2) (.int 256)) (.int 1)) .nil)))))))
 .nil)⟩
noncomputable def Fd:Fn:=⟨[],
 (.cons (.ret (.tup (.cons (.int 0) (.cons (.int 1) (.cons (.int 127) (.cons (.int 128) (.cons (.bin .sub (.bin .pow (.int 2) (.int 64)) (.int 1)) .nil)))))))
 .nil)⟩
noncomputable def Hr:Fn:=⟨[],
 (.cons (.ret (.tup (.cons (.int 0) (.cons (.int 1) (.cons (.bin .pow (.int 10) (.int 9)) (.cons (.bin .pow (.int 2) (.int 255)) (.cons (.bin .sub (.bin .pow (.int 2) (.int 256)) (.int 1)) .nil)))))))
 .nil)⟩
noncomputable def Fp:Fn:=⟨[],
 (.cons (.ret (.tup (.cons .non (.cons (.int 0) (.cons (.int 4097) (.cons (.bin .sub (.bin .pow (.int 2) (.int 160)) (.int 1)) .nil))))))
 .nil)⟩
noncomputable def Es:Fn:=⟨["well","law_size"],
 (.cons (.ifs (.cmp .lt (.idx (.nm "well") (.int 1)) (.len (.idx (.nm "well") (.int 0)))) (.cons (.asg (.nm "given") (.idx (.idx (.nm "well") (.int 0)) (.idx (.nm "well") (.int 1))))
  (.cons (.asg (.idx "well" (.int 1)) (.bin .add (.idx (.nm "well") (.int 1)) (.int 1)))
  (.cons (.asg (.idx "well" (.int 2)) (.bin .mod (.bin .add (.bin .add (.bin .mul (.idx (.nm "well") (.int 2)) (.int 31)) (.nm "given")) (.int 7)) (.int 997)))
  (.cons (.ret (.bin .mod (.nm "given") (.nm "law_size")))
  .nil)))) .nil)
 (.cons (.asg (.idx "well" (.int 2)) (.bin .mod (.bin .add (.bin .mul (.idx (.nm "well") (.int 2)) (.int 31)) (.int 7)) (.int 997)))
 (.cons (.ret (.bin .mod (.idx (.nm "well") (.int 2)) (.nm "law_size")))
 .nil)))⟩
noncomputable def H6:Fn:=⟨["well","some"],
 (.cons (.ret (.idx (.nm "some") (.call "_law_draw" (.cons (.nm "well") (.cons (.len (.nm "some")) .nil)))))
 .nil)⟩
noncomputable def Il:Fn:=⟨["well"],
 (.cons (.asg (.nm "law_tx") (.dct ["kind","chain","nonce"] (.cons (.call "_law_draw" (.cons (.nm "well") (.cons (.int 3) .nil))) (.cons (.call "_law_pick" (.cons (.nm "well") (.cons (.call "_law_chains" .nil) .nil))) (.cons (.call "_law_pick" (.cons (.nm "well") (.cons (.call "_law_short" .nil) .nil))) .nil)))))
 (.cons (.asg (.idx "law_tx" (.str "cap")) (.call "_law_pick" (.cons (.nm "well") (.cons (.call "_law_wide" .nil) .nil))))
 (.cons (.asg (.idx "law_tx" (.str "priority")) (.ife (.cmp .eq (.idx (.nm "law_tx") (.str "kind")) (.int 2)) (.call "_law_pick" (.cons (.nm "well") (.cons (.call "_law_wide" .nil) .nil))) (.idx (.nm "law_tx") (.str "cap"))))
 (.cons (.asg (.tup (.cons (.idx "law_tx" (.str "limit")) (.cons (.idx "law_tx" (.str "target")) .nil))) (.tup (.cons (.call "_law_pick" (.cons (.nm "well") (.cons (.call "_law_short" .nil) .nil))) (.cons (.call "_law_pick" (.cons (.nm "well") (.cons (.call "_law_goals" .nil) .nil))) .nil))))
 (.cons (.asg (.tup (.cons (.idx "law_tx" (.str "value")) (.cons (.nm "law_many") (.cons (.nm "law_seed") .nil)))) (.tup (.cons (.call "_law_pick" (.cons (.nm "well") (.cons (.call "_law_wide" .nil) .nil))) (.cons (.call "_law_pick" (.cons (.nm "well") (.cons (.gl "_law_sizes") .nil))) (.cons (.call "_law_draw" (.cons (.nm "well") (.cons (.int 256) .nil))) .nil)))))
 (.cons (.asg (.idx "law_tx" (.str "data")) (.mkb (.comp (.bin .mod (.bin .add (.nm "law_seed") (.bin .mul (.int 37) (.nm "at"))) (.int 256)) "at" (.rng (.nm "law_many")) .none ["law_seed"])))
 (.cons (.asg (.idx "law_tx" (.str "access")) (.lst .nil))
 (.cons (.for (.nm "turn") (.rng (.ife (.cmp .gt (.idx (.nm "law_tx") (.str "kind")) (.int 0)) (.call "_law_draw" (.cons (.nm "well") (.cons (.int 3) .nil))) (.int 0))) (.cons (.asg (.nm "law_home") (.call "_law_pick" (.cons (.nm "well") (.cons (.slc (.call "_law_goals" .nil) (.some (.int 1)) .none) .nil))))
  (.cons (.app "law_tx" (some "access") (.tup (.cons (.nm "law_home") (.cons (.comp (.call "_law_pick" (.cons (.nm "well") (.cons (.call "_law_wide" .nil) .nil))) "lap" (.rng (.call "_law_draw" (.cons (.nm "well") (.cons (.int 3) .nil)))) .none ["well"]) .nil))))
  .nil)))
 (.cons (.asg (.idx "law_tx" (.str "signature")) (.tup (.cons (.call "_law_draw" (.cons (.nm "well") (.cons (.int 2) .nil))) (.cons (.call "_law_pick" (.cons (.nm "well") (.cons (.call "_law_wide" .nil) .nil))) (.cons (.call "_law_pick" (.cons (.nm "well") (.cons (.call "_law_wide" .nil) .nil))) .nil)))))
 (.cons (.ret (.nm "law_tx"))
 .nil))))))))))⟩
noncomputable def G7:Fn:=⟨["law_tx"],
 (.cons (.asg (.nm "law_front") (.tup (.cons (.idx (.nm "law_tx") (.str "kind")) (.cons (.idx (.nm "law_tx") (.str "chain")) (.cons (.idx (.nm "law_tx") (.str "nonce")) (.cons (.idx (.nm "law_tx") (.str "priority")) (.cons (.idx (.nm "law_tx") (.str "cap")) (.cons (.idx (.nm "law_tx") (.str "limit")) .nil))))))))
 (.cons (.asg (.nm "law_back") (.tup (.cons (.idx (.nm "law_tx") (.str "target")) (.cons (.idx (.nm "law_tx") (.str "value")) (.cons (.idx (.nm "law_tx") (.str "data")) (.cons (.idx (.nm "law_tx") (.str "access")) (.cons (.idx (.nm "law_tx") (.str "signature")) .nil)))))))
 (.cons (.ret (.new (.cons (.idx (.nm "law_front") (.int 0)) (.cons (.idx (.nm "law_front") (.int 1)) (.cons (.idx (.nm "law_front") (.int 2)) (.cons (.idx (.nm "law_front") (.int 3)) (.cons (.idx (.nm "law_front") (.int 4)) (.cons (.idx (.nm "law_front") (.int 5)) (.cons (.idx (.nm "law_back") (.int 0)) (.cons (.idx (.nm "law_back") (.int 1)) (.cons (.idx (.nm "law_back") (.int 2)) (.cons (.idx (.nm "law_back") (.int 3)) (.cons (.idx (.nm "law_back") (.int 4)) .nil)))))))))))))
 .nil)))⟩
noncomputable def Ho:Fn:=⟨["law_one"],
 (.cons (.ret (.dct ["kind","chain","nonce","priority","cap","limit","target","value","data","access","signature"] (.cons (.attr (.nm "law_one") "kind") (.cons (.attr (.nm "law_one") "chain") (.cons (.attr (.nm "law_one") "nonce") (.cons (.attr (.nm "law_one") "priority") (.cons (.attr (.nm "law_one") "cap") (.cons (.attr (.nm "law_one") "limit") (.cons (.attr (.nm "law_one") "target") (.cons (.attr (.nm "law_one") "value") (.cons (.attr (.nm "law_one") "data") (.cons (.attr (.nm "law_one") "access") (.cons (.attr (.nm "law_one") "signature") .nil)))))))))))))
 .nil)⟩
noncomputable def Av:Fn:=⟨["law_number","law_many"],
 (.cons (.asg (.nm "law_gained") (.lst .nil))
 (.cons (.whl (.ife (.cmp .lt (.nm "law_many") (.int 0)) (.cmp .gt (.nm "law_number") (.int 0)) (.cmp .lt (.len (.nm "law_gained")) (.nm "law_many"))) (.cons (.app "law_gained" none (.bin .mod (.nm "law_number") (.int 256)))
  (.cons (.asg (.nm "law_number") (.bin .fdiv (.nm "law_number") (.int 256)))
  .nil)))
 (.cons (.ret (.mkb (.rev (.nm "law_gained"))))
 .nil)))⟩
noncomputable def Hh:Fn:=⟨["law_item"],
 (.cons (.asg (.nm "law_low") (.ife (.isl (.nm "law_item")) (.int 192) (.int 128)))
 (.cons (.asg (.nm "law_body") (.ife (.cmp .eq (.nm "law_low") (.int 192)) (.join (.byt []) (.comp (.call "_law_laid" (.cons (.nm "law_part") .nil)) "law_part" (.nm "law_item") .none [])) (.nm "law_item")))
 (.cons (.ifs (.andE (.cons (.cmp .eq (.nm "law_low") (.int 128)) (.cons (.cmp .eq (.len (.nm "law_body")) (.int 1)) (.cons (.cmp .lt (.idx (.nm "law_body") (.int 0)) (.int 128)) .nil)))) (.cons (.ret (.nm "law_body"))
  .nil) .nil)
 (.cons (.ifs (.cmp .lt (.len (.nm "law_body")) (.int 56)) (.cons (.ret (.bin .add (.mkb (.lst (.cons (.bin .add (.nm "law_low") (.len (.nm "law_body"))) .nil))) (.nm "law_body")))
  .nil) .nil)
 (.cons (.asg (.nm "law_size") (.call "_law_figures" (.cons (.len (.nm "law_body")) (.cons (.neg (.int 1)) .nil))))
 (.cons (.ret (.bin .add (.bin .add (.mkb (.lst (.cons (.bin .add (.bin .add (.nm "law_low") (.int 55)) (.len (.nm "law_size"))) .nil))) (.nm "law_size")) (.nm "law_body")))
 .nil))))))⟩
noncomputable def Hf:Fn:=⟨["law_tx"],
 (.cons (.asg (.nm "law_found") (.bin .add (.bin .add (.lst (.cons (.idx (.nm "law_tx") (.str "nonce")) .nil)) (.bin .mul (.lst (.cons (.idx (.nm "law_tx") (.str "priority")) .nil)) (.cmp .eq (.idx (.nm "law_tx") (.str "kind")) (.int 2)))) (.lst (.cons (.idx (.nm "law_tx") (.str "cap")) (.cons (.idx (.nm "law_tx") (.str "limit")) .nil)))))
 (.cons (.ifs (.cmp .gt (.idx (.nm "law_tx") (.str "kind")) (.int 0)) (.cons (.asg (.nm "law_found") (.bin .add (.lst (.cons (.idx (.nm "law_tx") (.str "chain")) .nil)) (.nm "law_found")))
  .nil) .nil)
 (.cons (.asg (.nm "law_goal") (.ife (.cmp .iss (.idx (.nm "law_tx") (.str "target")) .non) (.byt []) (.call "_law_figures" (.cons (.idx (.nm "law_tx") (.str "target")) (.cons (.int 20) .nil)))))
 (.cons (.asg (.nm "law_found") (.comp (.call "_law_figures" (.cons (.nm "law_number") (.cons (.neg (.int 1)) .nil))) "law_number" (.nm "law_found") .none []))
 (.cons (.asg (.nm "law_found") (.bin .add (.nm "law_found") (.lst (.cons (.nm "law_goal") (.cons (.call "_law_figures" (.cons (.idx (.nm "law_tx") (.str "value")) (.cons (.neg (.int 1)) .nil))) (.cons (.idx (.nm "law_tx") (.str "data")) .nil))))))
 (.cons (.ifs (.cmp .eq (.idx (.nm "law_tx") (.str "kind")) (.int 0)) (.cons (.ret (.nm "law_found"))
  .nil) .nil)
 (.cons (.asg (.nm "law_access") (.lst .nil))
 (.cons (.for (.tup (.cons (.nm "law_home") (.cons (.nm "law_slots") .nil))) (.idx (.nm "law_tx") (.str "access")) (.cons (.app "law_access" none (.lst (.cons (.call "_law_figures" (.cons (.nm "law_home") (.cons (.int 20) .nil))) (.cons (.comp (.call "_law_figures" (.cons (.nm "law_slot") (.cons (.int 32) .nil))) "law_slot" (.nm "law_slots") .none []) .nil))))
  .nil))
 (.cons (.ret (.bin .add (.nm "law_found") (.lst (.cons (.nm "law_access") .nil))))
 .nil)))))))))⟩
noncomputable def Bj:Fn:=⟨["law_tx","is_signed"],
 (.cons (.asg (.tup (.cons (.nm "law_found") (.cons (.nm "law_ahead") .nil))) (.tup (.cons (.call "_law_rows" (.cons (.nm "law_tx") .nil)) (.cons (.ife (.cmp .eq (.idx (.nm "law_tx") (.str "kind")) (.int 0)) (.byt []) (.mkb (.lst (.cons (.idx (.nm "law_tx") (.str "kind")) .nil)))) .nil))))
 (.cons (.ifs (.nm "is_signed") (.cons (.asg (.tup (.cons (.nm "law_told") (.cons (.nm "law_r") (.cons (.nm "law_s") .nil)))) (.idx (.nm "law_tx") (.str "signature")))
  (.cons (.ifs (.cmp .eq (.idx (.nm "law_tx") (.str "kind")) (.int 0)) (.cons (.asg (.nm "law_told") (.bin .add (.nm "law_told") (.ife (.cmp .eq (.idx (.nm "law_tx") (.str "chain")) (.int 0)) (.int 27) (.bin .add (.bin .add (.int 35) (.idx (.nm "law_tx") (.str "chain"))) (.idx (.nm "law_tx") (.str "chain"))))))
   .nil) .nil)
  (.cons (.asg (.nm "law_found") (.bin .add (.nm "law_found") (.comp (.call "_law_figures" (.cons (.nm "law_number") (.cons (.neg (.int 1)) .nil))) "law_number" (.tup (.cons (.nm "law_told") (.cons (.nm "law_r") (.cons (.nm "law_s") .nil)))) .none [])))
  .nil))) (.cons (.ifs (.andE (.cons (.cmp .eq (.idx (.nm "law_tx") (.str "kind")) (.int 0)) (.cons (.cmp .gt (.idx (.nm "law_tx") (.str "chain")) (.int 0)) .nil))) (.cons (.asg (.nm "law_found") (.bin .add (.nm "law_found") (.lst (.cons (.call "_law_figures" (.cons (.idx (.nm "law_tx") (.str "chain")) (.cons (.neg (.int 1)) .nil))) (.cons (.byt []) (.cons (.byt []) .nil))))))
   .nil) .nil)
  .nil))
 (.cons (.ret (.bin .add (.nm "law_ahead") (.call "_law_laid" (.cons (.nm "law_found") .nil))))
 .nil)))⟩
noncomputable def Dv:Fn:=⟨["law_item","law_bound"],
 (.cons (.ifs (.orE (.cons (.cmp .iss (.nm "law_item") .non) (.cons (.isl (.nm "law_item")) (.cons (.cmp .eq (.slc (.nm "law_item") .none (.some (.int 1))) (.byt [0])) .nil)))) (.cons (.ret .non)
  .nil) .nil)
 (.cons (.asg (.nm "law_number") (.int 0))
 (.cons (.for (.nm "law_figure") (.slc (.nm "law_item") .none (.some (.int 40))) (.cons (.asg (.nm "law_number") (.bin .add (.bin .mul (.nm "law_number") (.int 256)) (.nm "law_figure")))
  .nil))
 (.cons (.ret (.ife (.cmp .lt (.nm "law_number") (.nm "law_bound")) (.nm "law_number") .non))
 .nil))))⟩
noncomputable def Fe:Fn:=⟨["law_item","law_size"],
 (.cons (.ifs (.orE (.cons (.isl (.nm "law_item")) (.cons (.cmp .ne (.len (.nm "law_item")) (.nm "law_size")) .nil))) (.cons (.ret .non)
  .nil) .nil)
 (.cons (.ret (.bin .sub (.call "_law_number" (.cons (.bin .add (.byt [1]) (.nm "law_item")) (.cons (.bin .pow (.int 2) (.int 400)) .nil))) (.bin .pow (.int 256) (.nm "law_size"))))
 .nil))⟩
noncomputable def Hs:Fn:=⟨["octets","at"],
 (.cons (.ifs (.cmp .ge (.nm "at") (.len (.nm "octets"))) (.cons (.ret .non)
  .nil) .nil)
 (.cons (.asg (.tup (.cons (.nm "law_first") (.cons (.nm "law_begin") .nil))) (.tup (.cons (.idx (.nm "octets") (.nm "at")) (.cons (.bin .add (.nm "at") (.int 1)) .nil))))
 (.cons (.ifs (.cmp .lt (.nm "law_first") (.int 128)) (.cons (.ret (.tup (.cons (.slc (.nm "octets") (.some (.nm "at")) (.some (.nm "law_begin"))) (.cons (.nm "law_begin") .nil))))
  .nil) .nil)
 (.cons (.asg (.nm "law_size") (.bin .sub (.nm "law_first") (.ife (.cmp .ge (.nm "law_first") (.int 192)) (.int 192) (.int 128))))
 (.cons (.ifs (.cmp .gt (.nm "law_size") (.int 55)) (.cons (.asg (.nm "law_told") (.slc (.nm "octets") (.some (.nm "law_begin")) (.some (.bin .sub (.bin .add (.nm "law_begin") (.nm "law_size")) (.int 55)))))
  (.cons (.ifs (.orE (.cons (.cmp .lt (.len (.nm "law_told")) (.bin .sub (.nm "law_size") (.int 55))) (.cons (.cmp .iss (.call "_law_number" (.cons (.nm "law_told") (.cons (.bin .pow (.int 2) (.int 320)) .nil))) .non) .nil))) (.cons (.ret .non)
   .nil) .nil)
  (.cons (.asg (.tup (.cons (.nm "law_begin") (.cons (.nm "law_size") .nil))) (.tup (.cons (.bin .add (.nm "law_begin") (.len (.nm "law_told"))) (.cons (.call "_law_number" (.cons (.nm "law_told") (.cons (.bin .pow (.int 2) (.int 320)) .nil))) .nil))))
  (.cons (.ifs (.cmp .lt (.nm "law_size") (.int 56)) (.cons (.ret .non)
   .nil) .nil)
  .nil)))) .nil)
 (.cons (.asg (.nm "law_end") (.bin .add (.nm "law_begin") (.nm "law_size")))
 (.cons (.ifs (.cmp .gt (.nm "law_end") (.len (.nm "octets"))) (.cons (.ret .non)
  .nil) .nil)
 (.cons (.ifs (.cmp .lt (.nm "law_first") (.int 192)) (.cons (.asg (.nm "is_bare") (.andE (.cons (.cmp .eq (.nm "law_size") (.int 1)) (.cons (.cmp .lt (.idx (.nm "octets") (.nm "law_begin")) (.int 128)) .nil))))
  (.cons (.ret (.ife (.nm "is_bare") .non (.tup (.cons (.slc (.nm "octets") (.some (.nm "law_begin")) (.some (.nm "law_end"))) (.cons (.nm "law_end") .nil)))))
  .nil)) .nil)
 (.cons (.asg (.nm "law_gained") (.lst .nil))
 (.cons (.whl (.cmp .lt (.nm "law_begin") (.nm "law_end")) (.cons (.asg (.nm "law_told") (.call "_law_item" (.cons (.nm "octets") (.cons (.nm "law_begin") .nil))))
  (.cons (.ifs (.cmp .iss (.nm "law_told") .non) (.cons (.ret .non)
   .nil) .nil)
  (.cons (.app "law_gained" none (.idx (.nm "law_told") (.int 0)))
  (.cons (.asg (.nm "law_begin") (.idx (.nm "law_told") (.int 1)))
  .nil)))))
 (.cons (.ret (.ife (.cmp .eq (.nm "law_begin") (.nm "law_end")) (.tup (.cons (.nm "law_gained") (.cons (.nm "law_end") .nil))) .non))
 .nil)))))))))))⟩
noncomputable def Hu:Fn:=⟨["law_item"],
 (.cons (.asg (.nm "law_found") (.lst .nil))
 (.cons (.for (.nm "law_row") (.ife (.isl (.nm "law_item")) (.nm "law_item") (.lst (.cons .non .nil))) (.cons (.ifs (.orE (.cons (.notE (.isl (.nm "law_row"))) (.cons (.cmp .ne (.len (.nm "law_row")) (.int 2)) (.cons (.notE (.isl (.idx (.nm "law_row") (.int 1)))) .nil)))) (.cons (.ret .non)
  .nil) .nil)
  (.cons (.app "law_found" none (.tup (.cons (.call "_law_fixed" (.cons (.idx (.nm "law_row") (.int 0)) (.cons (.int 20) .nil))) (.cons (.comp (.call "_law_fixed" (.cons (.nm "law_slot") (.cons (.int 32) .nil))) "law_slot" (.idx (.nm "law_row") (.int 1)) .none []) .nil))))
  (.cons (.ifs (.orE (.cons (.cmp .iss (.idx (.idx (.nm "law_found") (.neg (.int 1))) (.int 0)) .non) (.cons (.cmp .inn .non (.idx (.idx (.nm "law_found") (.neg (.int 1))) (.int 1))) .nil))) (.cons (.ret .non)
   .nil) .nil)
  .nil))))
 (.cons (.ret (.nm "law_found"))
 .nil)))⟩
noncomputable def Fi:Fn:=⟨["octets"],
 (.cons (.asg (.nm "law_kind") (.ife (.cmp .inn (.slc (.nm "octets") .none (.some (.int 1))) (.tup (.cons (.byt [1]) (.cons (.byt [2]) .nil)))) (.idx (.nm "octets") (.int 0)) (.int 0)))
 (.cons (.asg (.nm "law_told") (.call "_law_item" (.cons (.nm "octets") (.cons (.ife (.cmp .gt (.nm "law_kind") (.int 0)) (.int 1) (.int 0)) .nil))))
 (.cons (.ifs (.orE (.cons (.cmp .iss (.nm "law_told") .non) (.cons (.cmp .ne (.idx (.nm "law_told") (.int 1)) (.len (.nm "octets"))) (.cons (.notE (.isl (.idx (.nm "law_told") (.int 0)))) .nil)))) (.cons (.ret .non)
  .nil) .nil)
 (.cons (.asg (.nm "law_rows") (.idx (.nm "law_told") (.int 0)))
 (.cons (.ifs (.cmp .ne (.len (.nm "law_rows")) (.idx (.tup (.cons (.int 9) (.cons (.int 11) (.cons (.int 12) .nil)))) (.nm "law_kind"))) (.cons (.ret .non)
  .nil) .nil)
 (.cons (.asg (.nm "law_tx") (.dct ["kind","access"] (.cons (.nm "law_kind") (.cons (.lst .nil) .nil))))
 (.cons (.asg (.nm "law_parity") (.call "_law_number" (.cons (.idx (.nm "law_rows") (.neg (.int 3))) (.cons (.ife (.cmp .eq (.nm "law_kind") (.int 0)) (.bin .add (.int 35) (.bin .pow (.int 2) (.int 257))) (.int 2)) .nil))))
 (.cons (.asg (.idx "law_tx" (.str "signature")) (.tup (.cons (.nm "law_parity") (.cons (.call "_law_number" (.cons (.idx (.nm "law_rows") (.neg (.int 2))) (.cons (.bin .pow (.int 2) (.int 256)) .nil))) (.cons (.call "_law_number" (.cons (.idx (.nm "law_rows") (.neg (.int 1))) (.cons (.bin .pow (.int 2) (.int 256)) .nil))) .nil)))))
 (.cons (.ifs (.cmp .inn .non (.idx (.nm "law_tx") (.str "signature"))) (.cons (.ret .non)
  .nil) .nil)
 (.cons (.ifs (.cmp .eq (.nm "law_kind") (.int 0)) (.cons (.ifs (.andE (.cons (.cmp .lt (.nm "law_parity") (.int 37)) (.cons (.cmp .nin (.nm "law_parity") (.tup (.cons (.int 27) (.cons (.int 28) .nil)))) .nil))) (.cons (.ret .non)
  .nil) .nil)
  (.cons (.asg (.idx "law_tx" (.str "chain")) (.ife (.cmp .lt (.nm "law_parity") (.int 37)) (.int 0) (.bin .fdiv (.bin .sub (.nm "law_parity") (.int 35)) (.int 2))))
  (.cons (.asg (.idx "law_tx" (.str "signature")) (.bin .add (.tup (.cons (.bin .mod (.bin .add (.nm "law_parity") (.int 1)) (.int 2)) .nil)) (.slc (.idx (.nm "law_tx") (.str "signature")) (.some (.int 1)) .none)))
  .nil))) (.cons (.asg (.tup (.cons (.idx "law_tx" (.str "chain")) (.cons (.idx "law_tx" (.str "access")) .nil))) (.tup (.cons (.call "_law_number" (.cons (.idx (.nm "law_rows") (.int 0)) (.cons (.bin .pow (.int 2) (.int 256)) .nil))) (.cons (.call "_law_access" (.cons (.idx (.nm "law_rows") (.neg (.int 4))) .nil)) .nil))))
  (.cons (.asg (.nm "law_rows") (.slc (.nm "law_rows") (.some (.int 1)) (.some (.neg (.int 1)))))
  .nil)))
 (.cons (.asg (.nm "law_rows") (.slc (.nm "law_rows") .none (.some (.neg (.int 3)))))
 (.cons (.asg (.tup (.cons (.idx "law_tx" (.str "nonce")) (.cons (.idx "law_tx" (.str "priority")) .nil))) (.tup (.cons (.call "_law_number" (.cons (.idx (.nm "law_rows") (.int 0)) (.cons (.bin .pow (.int 2) (.int 64)) .nil))) (.cons (.call "_law_number" (.cons (.idx (.nm "law_rows") (.int 1)) (.cons (.bin .pow (.int 2) (.int 256)) .nil))) .nil))))
 (.cons (.ifs (.cmp .eq (.nm "law_kind") (.int 2)) (.cons (.asg (.nm "law_rows") (.bin .add (.slc (.nm "law_rows") .none (.some (.int 1))) (.slc (.nm "law_rows") (.some (.int 2)) .none)))
  .nil) .nil)
 (.cons (.asg (.tup (.cons (.idx "law_tx" (.str "cap")) (.cons (.idx "law_tx" (.str "limit")) .nil))) (.tup (.cons (.call "_law_number" (.cons (.idx (.nm "law_rows") (.int 1)) (.cons (.bin .pow (.int 2) (.int 256)) .nil))) (.cons (.call "_law_number" (.cons (.idx (.nm "law_rows") (.int 2)) (.cons (.bin .pow (.int 2) (.int 64)) .nil))) .nil))))
 (.cons (.asg (.tup (.cons (.idx "law_tx" (.str "target")) (.cons (.idx "law_tx" (.str "value")) .nil))) (.tup (.cons (.call "_law_fixed" (.cons (.idx (.nm "law_rows") (.int 3)) (.cons (.int 20) .nil))) (.cons (.call "_law_number" (.cons (.idx (.nm "law_rows") (.int 4)) (.cons (.bin .pow (.int 2) (.int 256)) .nil))) .nil))))
 (.cons (.asg (.idx "law_tx" (.str "data")) (.ife (.isl (.idx (.nm "law_rows") (.int 5))) .non (.idx (.nm "law_rows") (.int 5))))
 (.cons (.for (.nm "law_name") (.tup (.cons (.str "chain") (.cons (.str "access") (.cons (.str "nonce") (.cons (.str "priority") (.cons (.str "cap") (.cons (.str "limit") (.cons (.str "value") (.cons (.str "data") .nil))))))))) (.cons (.ifs (.cmp .iss (.idx (.nm "law_tx") (.nm "law_name")) .non) (.cons (.ret .non)
  .nil) .nil)
  .nil))
 (.cons (.ret (.ife (.andE (.cons (.cmp .iss (.idx (.nm "law_tx") (.str "target")) .non) (.cons (.cmp .ne (.idx (.nm "law_rows") (.int 3)) (.byt [])) .nil))) .non (.nm "law_tx")))
 .nil))))))))))))))))))⟩
noncomputable def H8:Fn:=⟨["octets"],
 (.cons (.tryx (.cons (.ret (.call "_law_fields" (.cons (.call "read" (.cons (.nm "octets") .nil)) .nil)))
  .nil) (.cons (.ret .non)
  .nil))
 .nil)⟩
noncomputable def Ht:Fn:=⟨["well","octets"],
 (.cons (.asg (.tup (.cons (.nm "law_way") (.cons (.nm "at") .nil))) (.tup (.cons (.call "_law_draw" (.cons (.nm "well") (.cons (.int 7) .nil))) (.cons (.call "_law_draw" (.cons (.nm "well") (.cons (.len (.nm "octets")) .nil))) .nil))))
 (.cons (.ifs (.cmp .lt (.nm "law_way") (.int 2)) (.cons (.ret (.bin .add (.bin .add (.slc (.nm "octets") .none (.some (.nm "at"))) (.mkb (.lst (.cons (.bin .mod (.bin .add (.bin .add (.idx (.nm "octets") (.nm "at")) (.int 1)) (.call "_law_draw" (.cons (.nm "well") (.cons (.int 255) .nil)))) (.int 256)) .nil)))) (.slc (.nm "octets") (.some (.bin .add (.nm "at") (.int 1))) .none)))
  .nil) .nil)
 (.cons (.ifs (.cmp .eq (.nm "law_way") (.int 2)) (.cons (.ret (.bin .add (.bin .add (.slc (.nm "octets") .none (.some (.nm "at"))) (.mkb (.lst (.cons (.call "_law_pick" (.cons (.nm "well") (.cons (.tup (.cons (.int 0) (.cons (.int 1) (.cons (.int 128) (.cons (.int 192) (.cons (.int 255) .nil)))))) .nil))) .nil)))) (.slc (.nm "octets") (.some (.nm "at")) .none)))
  .nil) .nil)
 (.cons (.ifs (.cmp .eq (.nm "law_way") (.int 3)) (.cons (.ret (.bin .add (.slc (.nm "octets") .none (.some (.nm "at"))) (.slc (.nm "octets") (.some (.bin .add (.nm "at") (.int 1))) .none)))
  .nil) .nil)
 (.cons (.ifs (.cmp .eq (.nm "law_way") (.int 4)) (.cons (.ret (.slc (.nm "octets") .none (.some (.nm "at"))))
  .nil) .nil)
 (.cons (.ifs (.cmp .eq (.nm "law_way") (.int 5)) (.cons (.ret (.bin .add (.nm "octets") (.mkb (.lst (.cons (.call "_law_draw" (.cons (.nm "well") (.cons (.int 256) .nil))) .nil)))))
  .nil) .nil)
 (.cons (.ret (.bin .add (.mkb (.lst (.cons (.call "_law_draw" (.cons (.nm "well") (.cons (.int 4) .nil))) .nil))) (.ife (.cmp .lt (.idx (.nm "octets") (.int 0)) (.int 3)) (.slc (.nm "octets") (.some (.int 1)) .none) (.nm "octets"))))
 .nil)))))))⟩
noncomputable def Aj:Fn:=⟨["law_tx"],
 (.cons (.tryx (.cons (.exp (.call "written" (.cons (.call "_law_made" (.cons (.nm "law_tx") .nil)) .nil)))
  .nil) (.cons (.ret (.boo true))
  .nil))
 (.cons (.ret (.boo false))
 .nil))⟩
noncomputable def Cu:Fn:=⟨["law_tx"],
 (.cons (.asg (.nm "law_menu") (.lst (.cons (.tup (.cons (.str "kind") (.cons (.int 3) .nil))) (.cons (.tup (.cons (.str "kind") (.cons (.neg (.int 1)) .nil))) (.cons (.tup (.cons (.str "chain") (.cons (.neg (.int 1)) .nil))) (.cons (.tup (.cons (.str "chain") (.cons (.bin .pow (.int 2) (.int 256)) .nil))) (.cons (.tup (.cons (.str "nonce") (.cons (.neg (.int 1)) .nil))) (.cons (.tup (.cons (.str "nonce") (.cons (.bin .pow (.int 2) (.int 64)) .nil))) (.cons (.tup (.cons (.str "limit") (.cons (.neg (.int 1)) .nil))) (.cons (.tup (.cons (.str "limit") (.cons (.bin .pow (.int 2) (.int 64)) .nil))) (.cons (.tup (.cons (.str "target") (.cons (.neg (.int 1)) .nil))) (.cons (.tup (.cons (.str "target") (.cons (.bin .pow (.int 2) (.int 160)) .nil))) (.cons (.tup (.cons (.str "value") (.cons (.neg (.int 1)) .nil))) (.cons (.tup (.cons (.str "value") (.cons (.bin .pow (.int 2) (.int 256)) .nil))) (.cons (.tup (.cons (.str "cap") (.cons (.bin .pow (.int 2) (.int 256)) .nil))) (.cons (.tup (.cons (.str "signature") (.cons .non .nil))) (.cons (.tup (.cons (.str "data") (.cons (.str "ab") .nil))) (.cons (.tup (.cons (.str "access") (.cons (.lst (.cons (.tup (.cons (.bin .pow (.int 2) (.int 160)) (.cons (.lst .nil) .nil))) .nil)) .nil))) (.cons (.tup (.cons (.str "access") (.cons (.lst (.cons (.tup (.cons (.int 1) (.cons (.lst (.cons (.neg (.int 1)) .nil)) .nil))) .nil)) .nil))) (.cons (.tup (.cons (.str "access") (.cons (.lst (.cons (.tup (.cons (.int 1) (.cons (.lst (.cons (.bin .pow (.int 2) (.int 256)) .nil)) .nil))) .nil)) .nil))) .nil))))))))))))))))))))
 (.cons (.asg (.nm "law_found") (.lst .nil))
 (.cons (.for (.tup (.cons (.nm "law_name") (.cons (.nm "law_worth") .nil))) (.nm "law_menu") (.cons (.asg (.nm "law_other") (.mkd (.nm "law_tx")))
  (.cons (.asg (.idx "law_other" (.nm "law_name")) (.nm "law_worth"))
  (.cons (.app "law_found" none (.nm "law_other"))
  .nil))))
 (.cons (.asg (.nm "law_other") (.mkd (.nm "law_tx")))
 (.cons (.asg (.tup (.cons (.idx "law_other" (.str "kind")) (.cons (.idx "law_other" (.str "priority")) .nil))) (.tup (.cons (.bin .mod (.idx (.nm "law_tx") (.str "kind")) (.int 2)) (.cons (.bin .xor (.idx (.nm "law_tx") (.str "cap")) (.int 1)) .nil))))
 (.cons (.ret (.bin .add (.nm "law_found") (.lst (.cons (.nm "law_other") .nil))))
 .nil))))))⟩
noncomputable def Qz:Fn:=⟨["script"],
 (.cons (.asg (.nm "well") (.lst (.cons (.comp (.bin .mod (.nm "given") (.int 2147483647)) "given" (.slc (.nm "script") .none (.some (.int 60))) .none []) (.cons (.int 0) (.cons (.int 1) .nil)))))
 (.cons (.asg (.nm "law_tx") (.call "_law_drawn" (.cons (.nm "well") .nil)))
 (.cons (.asg (.tup (.cons (.nm "law_one") (.cons (.nm "octets") .nil))) (.tup (.cons (.call "_law_made" (.cons (.nm "law_tx") .nil)) (.cons (.call "_law_octets" (.cons (.nm "law_tx") (.cons (.boo true) .nil))) .nil))))
 (.cons (.ifs (.orE (.cons (.cmp .ne (.call "signing_octets" (.cons (.nm "law_one") .nil)) (.call "_law_octets" (.cons (.nm "law_tx") (.cons (.boo false) .nil)))) (.cons (.cmp .ne (.call "written" (.cons (.nm "law_one") .nil)) (.nm "octets")) .nil))) (.cons (.ret (.boo false))
  .nil) .nil)
 (.cons (.ifs (.orE (.cons (.cmp .ne (.call "_law_told" (.cons (.nm "octets") .nil)) (.nm "law_tx")) (.cons (.cmp .ne (.call "_law_heard" (.cons (.nm "octets") .nil)) (.nm "law_tx")) .nil))) (.cons (.ret (.boo false))
  .nil) .nil)
 (.cons (.for (.nm "turn") (.rng (.int 2)) (.cons (.asg (.nm "law_bent") (.call "_law_bent" (.cons (.nm "well") (.cons (.nm "octets") .nil))))
  (.cons (.asg (.nm "law_due") (.call "_law_heard" (.cons (.nm "law_bent") .nil)))
  (.cons (.ifs (.orE (.cons (.cmp .ne (.call "_law_told" (.cons (.nm "law_bent") .nil)) (.nm "law_due")) (.cons (.andE (.cons (.cmp .isn (.nm "law_due") .non) (.cons (.cmp .ne (.call "written" (.cons (.call "_law_made" (.cons (.nm "law_due") .nil)) .nil)) (.nm "law_bent")) .nil))) .nil))) (.cons (.ret (.boo false))
   .nil) .nil)
  .nil))))
 (.cons (.ret (.all (.comp (.call "_law_is_refused" (.cons (.nm "law_other") .nil)) "law_other" (.call "_law_spoiled" (.cons (.nm "law_tx") .nil)) .none [])))
 .nil)))))))⟩
noncomputable def yr:Fn:=⟨["self","kind","chain","nonce","priority","cap","limit","target","value","data","access","signature"],
 (.cons (.asg (.attr "self" "kind") (.nm "kind"))
 (.cons (.asg (.attr "self" "chain") (.nm "chain"))
 (.cons (.asg (.attr "self" "nonce") (.nm "nonce"))
 (.cons (.asg (.attr "self" "priority") (.nm "priority"))
 (.cons (.asg (.attr "self" "cap") (.nm "cap"))
 (.cons (.asg (.attr "self" "limit") (.nm "limit"))
 (.cons (.asg (.attr "self" "target") (.nm "target"))
 (.cons (.asg (.attr "self" "value") (.nm "value"))
 (.cons (.asg (.attr "self" "data") (.nm "data"))
 (.cons (.asg (.attr "self" "access") (.nm "access"))
 (.cons (.asg (.attr "self" "signature") (.nm "signature"))
 .nil)))))))))))⟩
noncomputable def Ds:List (String×Fn):=[("led",ado),("word_octets",Cw),("octets_word",Cr),("address_octets",Af),("number_octets",Ax),("octets_number",zq),("head",Wi),("encoded_at",Bw),("encoded",Gz),("read_size",Ga),("read_head",Fj),("read_item",Fv),("decoded",N8),("need_form",Jb),("access_item",zy),("item_of",G6),("kind_octets",Cv),("signing_octets",Ai),("told_parity",Dc),("written",Gu),("read_number",Cq),("read_fixed",Dy),("read_access",Ge),("read_rest",I4),("read_signature",Ah),("read_old",Kh),("read",Vz),("_law_chains",Dq),("_law_short",Fd),("_law_wide",Hr),("_law_goals",Fp),("_law_draw",Es),("_law_pick",H6),("_law_drawn",Il),("_law_made",G7),("_law_fields",Ho),("_law_figures",Av),("_law_laid",Hh),("_law_rows",Hf),("_law_octets",Bj),("_law_number",Dv),("_law_fixed",Fe),("_law_item",Hs),("_law_access",Hu),("_law_heard",Fi),("_law_told",H8),("_law_bent",Ht),("_law_is_refused",Aj),("_law_spoiled",Cu),("law",Qz)]
noncomputable def tab(f:String):Option Fn:=lk f Ds
noncomputable def a1a:Nat->CF:=Ei tab yr
set_option genSizeOf true
set_option genInjectivity true
namespace X
set_option exponentiation.threshold 300
set_option linter.unusedSimpArgs false
set_option linter.unusedVariables false
set_option backward.defeqAttrib.useBackward true
theorem Mp(n:Nat):((n%256).toUInt8).toNat=n%256:=by simp
theorem aup(c:UInt8):(c.toNat%256).toUInt8=c:=by
 have h:c.toNat<256:=c.toNat_lt;rw[Nat.mod_eq_of_lt h];simp
theorem dm{r c:Nat}(h:c<256):(r*256+c)/256=r/\(r*256+c)%256=c:=
 ⟨by rw[Nat.mul_comm,Nat.mul_add_div (by decide),Nat.div_eq_of_lt h,Nat.add_zero],by rw[Nat.mul_comm,Nat.mul_add_mod,Nat.mod_eq_of_lt h]⟩
theorem Ar:∀(k n:Nat),(yh k n).length=k
 |0,_=>rfl
 |k+1,n=>by rw[yh,cg,Ar k];rfl
theorem Jp(l:List UInt8)(c:UInt8):p7 (l++[c])=p7 l*256+c.toNat:=by rw[p7,List.foldl_append];rfl
theorem afe:p7 []=0:=rfl
theorem Kq:∀(k n:Nat),p7 (yh k n)=n%256^k
 |0,n=>(Nat.mod_one n).symm
 |k+1,n=>by rw[yh,Jp,Kq k,Mp,Nat.pow_succ,Nat.mul_comm (256^k) 256,Nat.mod_mul,Nat.mul_comm,j6]
theorem Sx(l:List UInt8):yh l.length (p7 l)=l:=by
 induction h:l.length generalizing l with
 |zero=>rw[List.length_eq_zero_iff.1 h];rfl
 |succ k ih=>
  rcases List.eq_nil_or_concat l with rfl|⟨r,c,rfl⟩
  ·exact nomatch h
  ·rw[List.length_concat]at h;rw[List.concat_eq_append,Jp,yh,(dm c.toNat_lt).1,(dm c.toNat_lt).2,ih r (Nat.succ.inj h),show c.toNat.toUInt8=c from UInt8.ofNat_toNat]
theorem Jm(l:List UInt8):p7 l<256^l.length:=by
 have h:=Kq l.length (p7 l);rw[Sx]at h;rw[h];exact Nat.mod_lt _ (Nat.pow_pos (by decide))
theorem aan(l:List UInt8)(a:Nat):l.foldl (λ a c=>a*256+c.toNat) a=a*256^l.length+p7 l:=by
 induction l generalizing a with
 |nil=>simp[p7]
 |cons c r ih=>
  simp only[List.foldl_cons,p7,pq];rw[ih,ih (0*256+c.toNat),Nat.pow_succ,Nat.add_mul,Nat.mul_assoc,Nat.mul_comm 256,Nat.zero_mul,lg]
  lia
theorem Kg(c:UInt8)(r:List UInt8):p7 (c::r)=c.toNat*256^r.length+p7 r:=by
 have:=aan r (0*256+c.toNat)
 simpa[p7]using this
theorem Zr(c:UInt8)(r:List UInt8)(h:c≠0):256^r.length<=p7 (c::r):=by
 have hc : 1<=c.toNat:=by
  rcases Nat.eq_zero_or_pos c.toNat with h0|h0
  ·exact absurd (UInt8.toNat_inj.1 (by simpa using h0)) h
  ·exact h0
 rw[Kg]
 calc 256^r.length=1*256^r.length:=by simp
  _<=c.toNat*256^r.length:=Nat.mul_le_mul_right _ hc
  _<=_:=dz _ _
noncomputable def nb(n:Nat):List UInt8:=if _h:n=0 then[]else nb (n/256)++[(n%256).toUInt8]
termination_by n
decreasing_by lia
theorem Dw:nb 0=[]:=by rw[nb];simp
theorem Ji{n:Nat}(h:n≠0):nb n=nb (n/256)++[(n%256).toUInt8]:=by rw[nb];simp[h]
theorem Ky(n:Nat):p7 (nb n)=n:=by
 induction n using Nat.strongRecOn with
 | _ n ih=>
  by_cases h:n=0
  ·subst h;rw[Dw];rfl
  ·rw[Ji h,Jp,ih (n/256) (Nat.div_lt_self (Nat.pos_of_ne_zero h) (by decide)),Mp,Nat.mul_comm,Nat.div_add_mod]
theorem Vv(n k:Nat)(h:n<256^k):(nb n).length<=k:=by
 induction k generalizing n with
 |zero=>rw[Nat.lt_one_iff.mp h,Dw];exact jf _
 |succ k ih=>
  by_cases hn:n=0
  ·subst hn;rw[Dw];exact n6 _
  ·rw[Ji hn,cg];exact qj (ih (n/256) (Nat.div_lt_of_lt_mul (by rw[Nat.mul_comm];exact h)))
theorem acu(n:Nat):(nb n).head?≠some 0:=by
 induction n using Nat.strongRecOn with
 | _ n ih=>
  by_cases h:n=0
  ·subst h;rw[Dw];simp
  ·rw[Ji h]
   by_cases h2:n/256=0
   ·rw[h2,Dw];simp;intro h3;have:=au UInt8.toNat h3;simp at this
    lia
   ·have h3:nb (n/256)≠[]:=by rw[Ji h2];simp
    rw[List.head?_append];cases h4:nb (n/256)with
    |nil=>exact absurd h4 h3
    |cons c r=>
     have:=ih (n/256) (by lia)
     rw[h4]at this
     simpa using this
theorem Yb(l:List UInt8)(h:l.head?≠some 0):nb (p7 l)=l:=by
 induction hk:l.length generalizing l with
 |zero=>rw[List.length_eq_zero_iff.1 hk,afe,Dw]
 |succ k ih=>
  rcases List.eq_nil_or_concat l with rfl|⟨r,c,rfl⟩
  ·simp at hk
  ·simp only[List.concat_eq_append]at *;simp at hk;rw[Jp];have hr:r.head?≠some 0:=by
    cases r with
    |nil=>simp
    |cons a s=>simpa using h
   have hn:p7 r*256+c.toNat≠0:=by
    intro h0;have hc0:c.toNat=0:=Nat.eq_zero_of_add_eq_zero_left h0;have hr0:p7 r=0:=(Nat.mul_eq_zero.mp (Nat.eq_zero_of_add_eq_zero_right h0)).resolve_right (by decide)
    have hc1:c=0:=UInt8.toNat_inj.1 (by simpa using hc0)
    cases r with
    |nil=>simp[hc1]at h
    |cons a s=>
     have ha:a≠0:=by simpa using hr
     have:=Zr a s ha;exact absurd (hr0▸this) (Nat.not_le.2 (Nat.pow_pos (by decide)))
   rw[Ji hn,(dm c.toNat_lt).1,(dm c.toNat_lt).2,ih r hr hk,show c.toNat.toUInt8=c from UInt8.ofNat_toNat]
theorem aaz{n:Nat}(h : 256<=n):yj n=yj (n/256)+8:=by
 have h2:n/256≠0:=Nat.ne_of_gt (Nat.div_pos h (by decide))
 have h1:n≠0:=λ e=>h2 (by rw[e])
 have hk:=(Nat.log2_eq_iff h2).mp rfl;have e:n.log2=(n/256).log2+8:=(Nat.log2_eq_iff h1).mpr ⟨by rw[Nat.pow_add];exact(Nat.le_div_iff_mul_le (by decide)).mp hk.1,by rw[j9,Nat.pow_add];exact(Nat.div_lt_iff_lt_mul (by decide)).mp hk.2⟩
 rw[yj,yj,bx h1,bx h2,e,j9]
theorem Wn(n:Nat):yh ((yj n+7)/8) n=nb n:=by
 induction n using Nat.strongRecOn with
 | _ n ih=>
  by_cases h:n=0
  ·subst h;rw[Dw];rfl
  ·by_cases h2 : 256<=n
   ·rw[aaz h2,Ji h,<-ih (n/256) (by lia)]
    rw[j9,Nat.add_div_right _ (by decide),yh]
   ·have h3:(yj n+7)/8=1:=by
     rw[yj,bx h];exact Nat.div_eq_of_lt_le (iy _ _) (Nat.add_lt_add_right (Nat.succ_lt_succ ((Nat.log2_lt h).2 (ur h2))) 7)
    have h4:n/256=0:=Nat.div_eq_of_lt (ur h2);rw[h3,Ji h,h4,Dw];rfl
theorem ak8(n:Nat):n<256^((yj n+7)/8):=by
 have h:=Jm (nb n);rw[Ky,<-Wn,Ar]at h;exact h
theorem bits_le(n k:Nat)(h:n<256^k):(yj n+7)/8<=k:=by
 have:=Vv n k h
 rwa [<-Wn,Ar]at this
inductive It where
 |b (l:List UInt8)
 |l (xs:List It)
 deriving Inhabited
noncomputable def It.v:It->V
 |It.b q=>.bytes q
 |It.l xs=>.list (xs.map It.v)
noncomputable def hd(low size:Nat):List UInt8:=if size<=55 then[(low+size).toUInt8]else(low+55+(nb size).length).toUInt8::nb size
noncomputable def Jv(l:List UInt8):List UInt8:=match l with
 |[c]=>if c.toNat<128 then[c]else hd 128 1++[c]
 |l=>hd 128 l.length++l
noncomputable def enc:It->List UInt8
 |.b q=>Jv q
 |.l xs=>hd 192 ((xs.map enc).flatten).length++(xs.map enc).flatten
noncomputable def Gw:Nat->It->Bool
 |0,_=>false
 | _ + 1,.b _=>true
 |k+1,.l xs=>xs.all (Gw k)
theorem Ox(l:List UInt8):(It.b l).v=.bytes l:=by rw[It.v]
theorem Nj(xs:List It):(It.l xs).v=.list (xs.map It.v):=by rw[It.v]
noncomputable def CT(n:Nat):CF:=Ei tab yr n
noncomputable def azf:Unit:=(λ (_:CF)=>()) (CT 0)
variable (cf:CF)(can:Bool)(ρ:Loc)(st:Store)
noncomputable def kb{α β : Type}(f : α->Store->R β)(r:R α):R β:=(λ (_:Unit)=>match r with
 |.ok a st=>f a st
 |.exc c st=>.exc c st
 |.bad=>.bad) azf
theorem mq{α β : Type}(f : α->Store->R β)(a : α):kb f (.ok a st)=f a st:=rfl
theorem ayq{α : Type}(r:R α):(r.bind λ a st=>.ok a st)=r:=by cases r<;>rfl
theorem axl(x k:String)(e:Ex):exS cf can (.app x (some k) e) ρ st=(match lk x ρ with
 |some (.cell i)=>(match st[i]? with
  |some ⟨true,.dict d⟩=>(match lk k d with
   |some (.own _)=>(iu cf ρ e (st.set i ⟨false,.hid⟩)).bind λ v st=>(match st[i]? with
    |some ⟨false,.hid⟩=>(match Gd (.cell i) (some k) v (st.set i ⟨true,.dict d⟩)with|some st=>.ok (.next ρ) st|Option.none=>.bad)
    | _=>.bad)
   | _=>.bad)
  | _=>.bad)
 | _=>.bad):=rfl
noncomputable def kFz:Option qp->R V
 |some b=>freeze b st
 |Option.none=>.bad
theorem axo(b:qp):kFz st (some b)=freeze b st:=rfl
theorem akk(x:String):iu cf ρ (.nm x) st=kFz st (lk x ρ):=rfl
noncomputable def ko(a:Ex):R qp:=Wa ρ a (iu cf ρ a st) st
noncomputable def kOb:Option qp->R qp
 |some b=>.ok b st
 |Option.none=>.bad
theorem av3(x:String):ko cf ρ st (.nm x)=kOb st (lk x ρ):=rfl
noncomputable def azo(v:V)(st:Store):R qp:=.ok (.val v) st
theorem awf(a:Ex)(h:Vj a=Option.none):ko cf ρ st a=kb azo (iu cf ρ a st):=by unfold ko Wa;rw[h];rfl
noncomputable def ail(o:BOp)(x y:V)(st:Store):R V:=m5 (Cd o x y) st
theorem amk(o:BOp)(x y:V):ail o x y st=m5 (Cd o x y) st:=rfl
noncomputable def avj(o:BOp)(b:Ex)(x:V)(st:Store):R V:=kb (ail o x) (iu cf ρ b st)
theorem aix(o:BOp)(b:Ex)(x:V):avj cf ρ o b x st=kb (ail o x) (iu cf ρ b st):=rfl
theorem am8(o:BOp)(a b:Ex):iu cf ρ (.bin o a b) st=kb (avj cf ρ o b) (iu cf ρ a st):=rfl
noncomputable def afy(o:J8)(x y:V)(st:Store):R V:=m5 ((xg o x y).map .bool) st
theorem aj0(o:J8)(x y:V):afy o x y st=m5 ((xg o x y).map .bool) st:=rfl
noncomputable def awx(o:J8)(b:Ex)(x:V)(st:Store):R V:=kb (afy o x) (iu cf ρ b st)
theorem ars(o:J8)(b:Ex)(x:V):awx cf ρ o b x st=kb (afy o x) (iu cf ρ b st):=rfl
theorem awa(o:J8)(a b:Ex):iu cf ρ (.cmp o a b) st=kb (awx cf ρ o b) (iu cf ρ a st):=rfl
noncomputable def Qp(o:J8)(x y:V)(st:Store):R Bool:=m5 (xg o x y) st
theorem Rk(o:J8)(x y:V):Qp o x y st=m5 (xg o x y) st:=rfl
noncomputable def am7(o:J8)(b:Ex)(x:V)(st:Store):R Bool:=kb (Qp o x) (iu cf ρ b st)
theorem adv(o:J8)(b:Ex)(x:V):am7 cf ρ o b x st=kb (Qp o x) (iu cf ρ b st):=rfl
theorem aou(o:J8)(a b:Ex):ug cf ρ (.cmp o a b) st=kb (am7 cf ρ o b) (iu cf ρ a st):=rfl
noncomputable def kC3(p:J8)(c:Ex)(y:V):Option Bool->R Bool
 |some false=>.ok false st
 |some true=>kb (Qp p y) (iu cf ρ c st)
 |Option.none=>.bad
theorem aw9(p:J8)(c:Ex)(y:V):kC3 cf ρ st p c y (some true)=kb (Qp p y) (iu cf ρ c st):=rfl
noncomputable def kC2(o p:J8)(c:Ex)(x y:V)(st:Store):R Bool:=kC3 cf ρ st p c y (xg o x y)
theorem axn(o p:J8)(c:Ex)(x y:V):kC2 cf ρ o p c x y st=kC3 cf ρ st p c y (xg o x y):=rfl
noncomputable def kC1(o p:J8)(b c:Ex)(x:V)(st:Store):R Bool:=kb (kC2 cf ρ o p c x) (iu cf ρ b st)
theorem ayb(o p:J8)(b c:Ex)(x:V):kC1 cf ρ o p b c x st=kb (kC2 cf ρ o p c x) (iu cf ρ b st):=rfl
theorem apl(o p:J8)(a b c:Ex):ug cf ρ (.cmp2 o p a b c) st=kb (kC1 cf ρ o p b c) (iu cf ρ a st):=rfl
noncomputable def kBv(b:Bool)(st:Store):R V:=.ok (.bool b) st
theorem axk(es:Aq):iu cf ρ (.andE es) st=kb kBv (O2 cf ρ es st):=rfl
theorem anh(es:Aq):ug cf ρ (.andE es) st=O2 cf ρ es st:=rfl
noncomputable def azw:Option qp->R Bool
 |some (.val (.bool b))=>.ok b st
 | _=>.bad
theorem a0f(x:String):ug cf ρ (.nm x) st=azw st (lk x ρ):=rfl
noncomputable def a0l(es:Aq)(b:Bool)(st:Store):R Bool:=match b with
 |true=>O2 cf ρ es st
 |false=>.ok false st
theorem a_c(e:Ex)(es:Aq):O2 cf ρ (.cons e es) st=kb (a0l cf ρ es) (ug cf ρ e st):=rfl
noncomputable def apz(a b:Ex)(c:Bool)(st:Store):R V:=match c with
 |true=>iu cf ρ a st
 |false=>iu cf ρ b st
theorem aq5(a b:Ex):apz cf ρ a b true st=iu cf ρ a st:=rfl
theorem aqy(a b:Ex):apz cf ρ a b false st=iu cf ρ b st:=rfl
theorem aoo(t a b:Ex):iu cf ρ (.ife t a b) st=kb (apz cf ρ a b) (ug cf ρ t st):=rfl
noncomputable def ax9(a b:Ex)(c:Bool)(st:Store):R Bool:=match c with
 |true=>ug cf ρ a st
 |false=>ug cf ρ b st
theorem asj(a b:Ex):ax9 cf ρ a b false st=ug cf ρ b st:=rfl
theorem ayo(t a b:Ex):ug cf ρ (.ife t a b) st=kb (ax9 cf ρ a b) (ug cf ρ t st):=rfl
noncomputable def kAt(n:String):Option qp->R V
 |some (.val (.obj l))=>m5 (lk n l) st
 | _=>.bad
theorem aov(n:String)(l:List (String×V)):kAt st n (some (.val (.obj l)))=m5 (lk n l) st:=rfl
theorem ano(x n:String):iu cf ρ (.attr (.nm x) n) st=kAt st n (lk x ρ):=rfl
noncomputable def ajl(b:qp)(k:V)(st:Store):R V:=m5 (Pu b k st) st
theorem al0(b:qp)(k:V):ajl b k st=m5 (Pu b k st) st:=rfl
noncomputable def ax1(i:Ex)(b:qp)(st:Store):R V:=kb (ajl b) (iu cf ρ i st)
theorem asd(i:Ex)(b:qp):ax1 cf ρ i b st=kb (ajl b) (iu cf ρ i st):=rfl
theorem axh(a i:Ex):iu cf ρ (.idx a i) st=kb (ax1 cf ρ i) (ko cf ρ st a):=rfl
noncomputable def aqd(x:V)(l h:Option V)(st:Store):R V:=m5 (wk x l h) st
theorem asu(x:V)(l h:Option V):aqd x l h st=m5 (wk x l h) st:=rfl
noncomputable def ati(hi:Ii)(x:V)(l:Option V)(st:Store):R V:=kb (aqd x l) (evO cf ρ hi st)
theorem ar3(hi:Ii)(x:V)(l:Option V):ati cf ρ hi x l st=kb (aqd x l) (evO cf ρ hi st):=rfl
noncomputable def kSl(lo hi:Ii)(x:V)(st:Store):R V:=kb (ati cf ρ hi x) (evO cf ρ lo st)
theorem axg(lo hi:Ii)(x:V):kSl cf ρ lo hi x st=kb (ati cf ρ hi x) (evO cf ρ lo st):=rfl
theorem auy(a:Ex)(lo hi:Ii):iu cf ρ (.slc a lo hi) st=kb (kSl cf ρ lo hi) (iu cf ρ a st):=rfl
noncomputable def kSm(v:V)(st:Store):R (Option V):=.ok (some v) st
theorem x_s(e:Ex):evO cf ρ (.some e) st=kb kSm (iu cf ρ e st):=rfl
noncomputable def avd(x:V)(st:Store):R V:=match x with|.list l=>if l.length<=lim then .ok (.list l.reverse) st else .bad | _=>.bad
theorem ar4(l:List V):avd (.list l) st=if l.length<=lim then .ok (.list l.reverse) st else .bad:=rfl
theorem aya(a:Ex):iu cf ρ (.rev a) st=kb avd (iu cf ρ a st):=rfl
noncomputable def av5(l:List V)(st:Store):R V:=if l.length<=lim then .ok (.tuple l) st else .bad
theorem ath(l:List V):av5 l st=if l.length<=lim then .ok (.tuple l) st else .bad:=rfl
theorem an8(es:Aq):iu cf ρ (.tup es) st=kb av5 (Bl cf ρ es st):=rfl
noncomputable def ajw(l:List V)(st:Store):R V:=if l.length<=lim then .ok (.list l) st else .bad
theorem ah3(l:List V):ajw l st=if l.length<=lim then .ok (.list l) st else .bad:=rfl
theorem aox(es:Aq):iu cf ρ (.lst es) st=kb ajw (Bl cf ρ es st):=rfl
noncomputable def aus(ks:List String)(l:List V)(st:Store):R V:=if l.length=ks.length/\ks.Nodup/\ks.length<=15 then .ok (.dict (ks.zip l)) st else .bad
theorem aq9(ks:List String)(l:List V):aus ks l st=if l.length=ks.length/\ks.Nodup/\ks.length<=15 then .ok (.dict (ks.zip l)) st else .bad:=rfl
theorem auq(ks:List String)(es:Aq):iu cf ρ (.dct ks es) st=kb (aus ks) (Bl cf ρ es st):=rfl
noncomputable def ae7(v:V)(l:List V)(st:Store):R (List V):=.ok (v::l) st
noncomputable def kEs(es:Aq)(v:V)(st:Store):R (List V):=kb (ae7 v) (Bl cf ρ es st)
theorem ao9(es:Aq)(v:V):kEs cf ρ es v st=kb (ae7 v) (Bl cf ρ es st):=rfl
theorem s_c(e:Ex)(es:Aq):Bl cf ρ (.cons e es) st=kb (kEs cf ρ es) (iu cf ρ e st):=rfl
noncomputable def avo(b:qp)(l:List qp)(st:Store):R (List qp):=.ok (b::l) st
noncomputable def kBs(es:Aq)(b:qp)(st:Store):R (List qp):=kb (avo b) (Jx cf ρ es st)
theorem am9(es:Aq)(b:qp):kBs cf ρ es b st=kb (avo b) (Jx cf ρ es st):=rfl
theorem b_c(e:Ex)(es:Aq):Jx cf ρ (.cons e es) st=kb (kBs cf ρ es) (ko cf ρ st e):=rfl
noncomputable def kLen(b:qp)(st:Store):R V:=m5 (Nq b st) st
theorem apc(b:qp):kLen b st=m5 (Nq b st) st:=rfl
theorem av0(a:Ex):iu cf ρ (.len a) st=kb kLen (ko cf ρ st a):=rfl
noncomputable def anv(x:V)(st:Store):R Bool:=m5 (z6 x) st
theorem amf(x:V):anv x st=m5 (z6 x) st:=rfl
theorem au4(a:Ex):ug cf ρ (.isl a) st=kb anv (iu cf ρ a st):=rfl
noncomputable def awv(x:V)(st:Store):R V:=m5 (Bq x) st
theorem ard(x:V):awv x st=m5 (Bq x) st:=rfl
theorem avx(a:Ex):iu cf ρ (.mkb a) st=kb awv (iu cf ρ a st):=rfl
noncomputable def axt(x:V)(st:Store):R V:=match x with|.dict l=>if l.length<=1000 then .ok (.dict l) st else .bad | _=>.bad
theorem aq7(l:List (String×V)):axt (.dict l) st=if l.length<=1000 then .ok (.dict l) st else .bad:=rfl
theorem ayg(a:Ex):iu cf ρ (.mkd a) st=kb axt (iu cf ρ a st):=rfl
noncomputable def auc(x:V)(st:Store):R V:=match x with
 |.list l=>(match boolsOf l with|some bs=>if l.length<=lim then .ok (.bool (bs.all id)) st else .bad|Option.none=>.bad)
 | _=>.bad
theorem aqn(l:List V):auc (.list l) st=(match boolsOf l with|some bs=>if l.length<=lim then .ok (.bool (bs.all id)) st else .bad|Option.none=>.bad):=rfl
theorem axe(a:Ex):iu cf ρ (.all a) st=kb auc (iu cf ρ a st):=rfl
noncomputable def axr(x:V)(st:Store):R V:=m5 (Kv x) st
theorem aqz(x:V):axr x st=m5 (Kv x) st:=rfl
theorem axz(a:Ex):iu cf ρ (.rng a) st=kb axr (iu cf ρ a st):=rfl
noncomputable def ayt(x:V)(st:Store):R V:=match x with|.int i=>if 0<=i then .ok (.int (yj i.toNat)) st else .bad | _=>.bad
theorem aqh(i:Int):ayt (.int i) st=if 0<=i then .ok (.int (yj i.toNat)) st else .bad:=rfl
theorem avf(a:Ex):iu cf ρ (.bitlen a) st=kb ayt (iu cf ρ a st):=rfl
noncomputable def aw4(x:V)(st:Store):R V:=match x with|.bytes b=>if b.length<=1000 then .ok (.int (p7 b)) st else .bad | _=>.bad
theorem atv(b:List UInt8):aw4 (.bytes b) st=if b.length<=1000 then .ok (.int (p7 b)) st else .bad:=rfl
theorem ayh(a:Ex):iu cf ρ (.frombytes a) st=kb aw4 (iu cf ρ a st):=rfl
noncomputable def aqi(x y:V)(st:Store):R V:=m5 (Um x y) st
theorem aph(x y:V):aqi x y st=m5 (Um x y) st:=rfl
noncomputable def kJn(a:Ex)(x:V)(st:Store):R V:=match x with|.bytes b=>kb (aqi (.bytes b)) (iu cf ρ a st) | _=>.bad
theorem ax3(a:Ex)(b:List UInt8):kJn cf ρ a (.bytes b) st=kb (aqi (.bytes b)) (iu cf ρ a st):=rfl
theorem ap8(s a:Ex):iu cf ρ (.join s a) st=kb (kJn cf ρ a) (iu cf ρ s st):=rfl
noncomputable def toB(x y:V)(st:Store):R V:=match x,y with
 |.int i,.int k=>if 0<=i/\0<=k/\k<=1000/\i<256^k.toNat then .ok (.bytes (yh k.toNat i.toNat)) st else .bad
 | _,_=>.bad
noncomputable def kTb(x:V):R V->R V
 |.ok y st=>toB x y st
 |.exc c st=>.exc c st
 |.bad=>.bad
theorem ax0(x y:V):kTb x (.ok y st)=toB x y st:=by unfold kTb;rfl
noncomputable def aso(n:Ex)(x:V)(st:Store):R V:=match x with|.int i=>kTb (.int i) (iu cf ρ n st) | _=>.bad
theorem ari(n:Ex)(i:Int):aso cf ρ n (.int i) st=kTb (.int i) (iu cf ρ n st):=rfl
theorem avn(a n:Ex):iu cf ρ (.tobytes a n) st=kb (aso cf ρ n) (iu cf ρ a st):=by
 show R.bind (iu cf ρ a st) _ = _;unfold kb;cases iu cf ρ a st with
 |ok x st=>cases x<;>first|rfl|(simp only[R.bind,aso];cases iu cf ρ n st with|ok y st=>cases y<;>rfl | _=>rfl)
 | _=>rfl
noncomputable def cmp(elt:Ex)(x:String)(cond:Ii)(ρ:Loc)(l:List V)(st:Store):R (List V):=
 mapR (λ v st=>match cond with
  |.none=>(iu cf ((x,.val v)::ρ) elt st).bind λ y st=>.ok (some y) st
  |.some c=>(ug cf ((x,.val v)::ρ) c st).bind λ b st=>match b with
   |true=>(iu cf ((x,.val v)::ρ) elt st).bind λ y st=>.ok (some y) st
   |false=>.ok Option.none st) l st
noncomputable def akx(elt:Ex)(x:String)(cond:Ii)(l:List V)(st:Store):R V:=kb ajw (cmp cf elt x cond ρ l st)
theorem agz(elt:Ex)(x:String)(cond:Ii)(l:List V):akx cf ρ elt x cond l st=kb ajw (cmp cf elt x cond ρ l st):=by unfold akx;rfl
noncomputable def kCo(elt:Ex)(x:String)(cond:Ii)(s:V)(st:Store):R V:=kb (akx cf ρ elt x cond) (m5 (itemsOf s) st)
theorem aoc(elt:Ex)(x:String)(cond:Ii)(s:V):kCo cf ρ elt x cond s st=kb (akx cf ρ elt x cond) (m5 (itemsOf s) st):=by unfold kCo;rfl
theorem agn(elt:Ex)(x:String)(it:Ex)(cond:Ii)(caps:List String):iu cf ρ (.comp elt x it cond caps) st=kb (kCo cf (Bp caps ρ) elt x cond) (iu cf ρ it st):=by
 cases cond<;>(show R.bind (iu cf ρ it st) _ = _;unfold kb;rfl)
noncomputable def kCm(elt:Ex)(x:String)(cond:Ii)(r:List V)(y:V)(st:Store):R (List V):=kb (ae7 y) (cmp cf elt x cond ρ r st)
theorem ac7(elt:Ex)(x:String)(cond:Ii)(r:List V)(y:V):kCm cf ρ elt x cond r y st=kb (ae7 y) (cmp cf elt x cond ρ r st):=by unfold kCm;rfl
theorem Y0(elt:Ex)(x:String)(v:V)(r:List V):cmp cf elt x .none ρ (v::r) st=kb (kCm cf ρ elt x .none r) (iu cf ((x,.val v)::ρ) elt st):=by
 unfold cmp;show R.bind (R.bind (iu cf ((x,.val v)::ρ) elt st) _) _ = _;unfold kb kCm kb ae7 cmp;cases iu cf ((x,.val v)::ρ) elt st<;>rfl
noncomputable def kCc(elt:Ex)(x:String)(c:Ex)(v:V)(r:List V)(b:Bool)(st:Store):R (List V):=match b with
 |true=>kb (kCm cf ρ elt x (.some c) r) (iu cf ((x,.val v)::ρ) elt st)
 |false=>cmp cf elt x (.some c) ρ r st
theorem aw8(elt:Ex)(x:String)(c:Ex)(v:V)(r:List V):kCc cf ρ elt x c v r false st=cmp cf elt x (.some c) ρ r st:=rfl
theorem ajm(elt:Ex)(x:String)(c:Ex)(v:V)(r:List V):cmp cf elt x (.some c) ρ (v::r) st=kb (kCc cf ρ elt x c v r) (ug cf ((x,.val v)::ρ) c st):=by
 unfold cmp;unfold kb;show R.bind (R.bind (ug cf ((x,.val v)::ρ) c st) _) _ = _;cases ug cf ((x,.val v)::ρ) c st with
 |ok b st=>
  cases b
  ·exact ayq (cmp cf elt x (.some c) ρ r st)
  ·simp only[R.bind,kCc,kb];cases iu cf ((x,.val v)::ρ) elt st<;>rfl
 | _=>rfl
noncomputable def kNx(ρ:Loc)(st:Store):R Fl:=.ok (.next ρ) st
theorem awt:kNx ρ st=.ok (.next ρ) st:=rfl
theorem au2(t:Tg)(e:Ex):exS cf can (.asg t e) ρ st=kb kNx (assign cf t e ρ st):=by show R.bind (assign cf t e ρ st) _ = _;unfold kb;rfl
noncomputable def ax6(x:String):Option CD->R Loc
 |some d=>.ok (put x (.cell st.length) ρ) (st++[⟨true,d⟩])
 |Option.none=>.bad
noncomputable def kAd(x:String)(v:V)(st:Store):R Loc:=ax6 ρ st x (cellOf v)
theorem axa(x:String)(v:V):kAd ρ x v st=ax6 ρ st x (cellOf v):=rfl
noncomputable def kAn(x:String)(v:V)(st:Store):R Loc:=.ok (put x (.val v) ρ) st
theorem axx(x:String)(v:V):kAn ρ x v st=.ok (put x (.val v) ρ) st:=rfl
noncomputable def kAs(x:String)(e:Ex):Bool->R Loc
 |true=>kb (kAd ρ x) (iu cf ρ e st)
 |false=>kb (kAn ρ x) (iu cf ρ e st)
theorem aw3(x:String)(e:Ex):kAs cf ρ st x e true=kb (kAd ρ x) (iu cf ρ e st):=rfl
theorem anm(x:String)(e:Ex):kAs cf ρ st x e false=kb (kAn ρ x) (iu cf ρ e st):=rfl
theorem arp(x:String)(e:Ex):assign cf (.nm x) e ρ st=kAs cf ρ st x e (Ba e):=by
 unfold assign;cases Ba e
 ·show R.bind _ _ = R.bind _ _
  congr 1
 ·show R.bind _ _ = R.bind _ _
  congr 1<;>(funext v st;unfold kAd;cases cellOf v<;>rfl)
noncomputable def kSt(t:Tg)(v:V)(st:Store):R Loc:=qe cf t v ρ st
theorem ags(t:Tg)(v:V):kSt cf ρ t v st=qe cf t v ρ st:=rfl
theorem aoe(ts:Uu)(e:Ex):assign cf (.tup ts) e ρ st=kb (kSt cf ρ (.tup ts)) (iu cf ρ e st):=by
 unfold assign;rfl
theorem aym(x n:String)(e:Ex):assign cf (.attr x n) e ρ st=kb (kSt cf ρ (.attr x n)) (iu cf ρ e st):=by
 unfold assign;rfl
noncomputable def kS2:Option Store->R Loc
 |some st=>.ok ρ st
 |Option.none=>.bad
theorem ah5:kS2 ρ (some st)=.ok ρ st:=rfl
noncomputable def agl(en:Ent)(b:qp)(i:V)(st:Store):R Loc:=kS2 ρ (setB b i en st)
theorem Qw(en:Ent)(b:qp)(i:V):agl ρ en b i st=kS2 ρ (setB b i en st):=rfl
noncomputable def kSi(en:Ent)(k:Ex):Option qp->R Loc
 |some b=>kb (agl ρ en b) (iu cf ρ k st)
 |Option.none=>.bad
theorem Ys(en:Ent)(k:Ex)(b:qp):kSi cf ρ st en k (some b)=kb (agl ρ en b) (iu cf ρ k st):=rfl
theorem awi(x:String)(k e:Ex)(h:Ba e=false):assign cf (.idx x k) e ρ st=kb (kSt cf ρ (.idx x k)) (iu cf ρ e st):=by
 unfold assign;rw[h];rfl
theorem auv(x:String)(k:Ex):assign cf (.idx x k) (.lst .nil) ρ st=kSi cf ρ st (.own []) k (lk x ρ):=by
 unfold assign;simp only[Ba];cases lk x ρ with
 |none=>rfl
 |some b=>show R.bind _ _ = R.bind _ _;congr 1<;>(funext i st;unfold agl;cases setB b i (.own []) st<;>rfl)
theorem Wg(x:String)(v:V):qe cf (.nm x) v ρ st=.ok (put x (.val v) ρ) st:=(axx ρ st x v).symm.trans rfl
noncomputable def kSa(n:String)(v:V):Option qp->R Loc
 |some b=>kS2 ρ (Bh b n v st)
 |Option.none=>.bad
theorem aw6(n:String)(v:V)(b:qp):kSa ρ st n v (some b)=kS2 ρ (Bh b n v st):=rfl
theorem axw(x n:String)(v:V):qe cf (.attr x n) v ρ st=kSa ρ st n v (lk x ρ):=by
 show(match lk x ρ with|some b=>_|Option.none=>_)=_;cases lk x ρ with
 |none=>rfl
 |some b=>simp only[kSa];cases Bh b n v st<;>rfl
theorem acv(x:String)(k:Ex)(v:V):qe cf (.idx x k) v ρ st=kSi cf ρ st (.val v) k (lk x ρ):=by
 show(match lk x ρ with|some b=>_|Option.none=>_)=_;cases lk x ρ with
 |none=>rfl
 |some b=>show R.bind _ _ = R.bind _ _;congr 1<;>(funext i st;unfold agl;cases setB b i (.val v) st<;>rfl)
theorem ant(ts:Uu)(l:List V):qe cf (.tup ts) (.tuple l) ρ st=if l.length<=lim/\l.length=Kf ts then Gg cf ts l ρ st else .bad:=rfl
noncomputable def kSn(ts:Uu)(l:List V)(ρ:Loc)(st:Store):R Loc:=Gg cf ts l ρ st
theorem Yp(ts:Uu)(l:List V):kSn cf ts l ρ st=Gg cf ts l ρ st:=rfl
theorem aw7:Gg cf .nil [] ρ st=.ok ρ st:=rfl
theorem aga(t:Tg)(ts:Uu)(v:V)(l:List V):Gg cf (.cons t ts) (v::l) ρ st=kb (kSn cf ts l) (qe cf t v ρ st):=by show R.bind (qe cf t v ρ st) _ = _;unfold kb;rfl
noncomputable def kP4:Option Store->R Fl
 |some st=>.ok (.next ρ) st
 |Option.none=>.bad
noncomputable def kP3(i:Nat)(v:V)(st:Store):R Fl:=kP4 ρ (Gd (.cell i) Option.none v st)
theorem ays(i:Nat)(v:V):kP3 ρ i v st=kP4 ρ (Gd (.cell i) Option.none v st):=rfl
noncomputable def kP2(e:Ex)(i:Nat):Option Cell->R Fl
 |some ⟨_,.list _⟩=>kb (kP3 ρ i) (iu cf ρ e st)
 | _=>.bad
theorem an3(e:Ex)(i:Nat)(b:Bool)(l:List V):kP2 cf ρ st e i (some ⟨b,.list l⟩)=kb (kP3 ρ i) (iu cf ρ e st):=rfl
noncomputable def kP1(e:Ex):Option qp->R Fl
 |some (.cell i)=>kP2 cf ρ st e i st[i]?
 | _=>.bad
theorem anq(e:Ex)(i:Nat):kP1 cf ρ st e (some (.cell i))=kP2 cf ρ st e i st[i]?:=rfl
theorem aop(x:String)(e:Ex):exS cf can (.app x Option.none e) ρ st=kP1 cf ρ st e (lk x ρ):=by
 show(match lk x ρ with|some (.cell i)=>_ | _=> _)=_
 generalize lk x ρ=q
 cases q with
 |none=>rfl
 |some b=>
  cases b with
  |val v=>rfl
  |cell i=>
   simp only[kP1]
   generalize st[i]? = q
   cases q with
   |none=>rfl
   |some c=>
    obtain⟨b,d⟩:=c;cases d<;>first|rfl|(show R.bind _ _ = R.bind _ _;congr 1<;>(funext v st;unfold kP3;cases Gd (.cell i) Option.none v st<;>rfl))
noncomputable def avy(a b:u9):R Bool->R Fl
 |.ok true st=>dw cf can a ρ st
 |.ok false st=>dw cf can b ρ st
 |.exc c st=>.exc c st
 |.bad=>.bad
theorem anl(t:Ex)(a b:u9):exS cf can (.ifs t a b) ρ st=avy cf can ρ a b (ug cf ρ t st):=by
 show R.bind (ug cf ρ t st) _ = _;cases ug cf ρ t st with
 |ok c st=>cases c<;>rfl
 | _=>rfl
noncomputable def avt(v:V)(st:Store):R Fl:=.ok (.ret v) st
theorem av1(e:Ex):exS cf can (.ret e) ρ st=kb avt (iu cf ρ e st):=by show R.bind (iu cf ρ e st) _ = _;unfold kb;rfl
noncomputable def aqr(h:u9):R Fl->R Fl
 |.ok fl st=>.ok fl st
 |.exc _ st=>dw cf can h ρ st
 |.bad=>.bad
theorem asl(h:u9)(c:Exc):aqr cf can ρ h (.exc c st)=dw cf can h ρ st:=by unfold aqr;rfl
theorem aof(b h:u9):exS cf can (.tryx b h) ρ st=aqr cf can ρ h (dw cf can b ρ st):=by show(match dw cf can b ρ st with|.ok fl st=>_|.exc _ st=>_|.bad=>_)=_;cases dw cf can b ρ st<;>rfl
noncomputable def azk(v:V)(st:Store):R Fl:=.ok (.next ρ) st
theorem an1(e:Ex):exS cf can (.exp e) ρ st=kb (azk ρ) (iu cf ρ e st):=by show R.bind (iu cf ρ e st) _ = _;unfold kb;rfl
noncomputable def Qc(ss:u9):R Fl->R Fl
 |.ok (.next ρ) st=>dw cf can ss ρ st
 |.ok (.ret v) st=>.ok (.ret v) st
 |.exc c st=>.exc c st
 |.bad=>.bad
theorem w_n:dw cf can .nil ρ st=.ok (.next ρ) st:=(awt ρ st).symm.trans rfl
theorem w_c(s:St)(ss:u9):dw cf can (.cons s ss) ρ st=Qc cf can ss (exS cf can s ρ st):=by
 show R.bind (exS cf can s ρ st) _ = _;cases exS cf can s ρ st with
 |ok c st=>cases c<;>rfl
 | _=>rfl
noncomputable def kQ(ss:u9):R Loc->R Fl
 |.ok ρ st=>dw cf can ss ρ st
 |.exc c st=>.exc c st
 |.bad=>.bad
theorem Pg(t:Tg)(e:Ex)(ss:u9):dw cf can (.cons (.asg t e) ss) ρ st=kQ cf can ss (assign cf t e ρ st):=by
 rw[w_c,au2];cases assign cf t e ρ st<;>rfl
noncomputable def kI1(ss a:u9):R Bool->R Fl
 |.ok true st=>Qc cf can ss (dw cf can a ρ st)
 |.ok false st=>dw cf can ss ρ st
 |.exc c st=>.exc c st
 |.bad=>.bad
theorem aoi(ss a:u9):kI1 cf can ρ ss a (.ok true st)=Qc cf can ss (dw cf can a ρ st):=by unfold kI1;rfl
theorem aoh(ss a:u9):kI1 cf can ρ ss a (.ok false st)=dw cf can ss ρ st:=by unfold kI1;rfl
theorem ac8(t:Ex)(a ss:u9):dw cf can (.cons (.ifs t a .nil) ss) ρ st=kI1 cf can ρ ss a (ug cf ρ t st):=by
 rw[w_c,anl];cases ug cf ρ t st with
 |ok b st=>
  cases b
  ·show Qc cf can ss (dw cf can .nil ρ st)=_;rw[w_n];rfl
  ·rfl
 | _=>rfl
theorem awe(t:Ex)(a ss:u9)(s:St)(b:u9):dw cf can (.cons (.ifs t a (.cons s b)) ss) ρ st=Qc cf can ss (avy cf can ρ a (.cons s b) (ug cf ρ t st)):=by
 rw[w_c,anl]
theorem ao8(e:Ex)(ss:u9):dw cf can (.cons (.ret e) ss) ρ st=kb avt (iu cf ρ e st):=by
 rw[w_c,av1];cases iu cf ρ e st<;>rfl
theorem ao3(x:String)(k:Option String)(e:Ex)(ss:u9):dw cf can (.cons (.app x k e) ss) ρ st=Qc cf can ss (exS cf can (.app x k e) ρ st):=w_c ..
theorem aud(t:Ex)(b ss:u9):dw cf can (.cons (.whl t b) ss) ρ st=Qc cf can ss (exS cf can (.whl t b) ρ st):=w_c ..
theorem agy(t:Tg)(it:Ex)(b ss:u9):dw cf can (.cons (.for t it b) ss) ρ st=Qc cf can ss (exS cf can (.for t it b) ρ st):=w_c ..
theorem au7(c:Exc)(ss:u9):dw cf can (.cons (.rai c) ss) ρ st=Qc cf can ss (exS cf can (.rai c) ρ st):=w_c ..
theorem anj(b h ss:u9):dw cf can (.cons (.tryx b h) ss) ρ st=Qc cf can ss (exS cf can (.tryx b h) ρ st):=w_c ..
theorem aow(e:Ex)(ss:u9):dw cf can (.cons (.exp e) ss) ρ st=Qc cf can ss (exS cf can (.exp e) ρ st):=w_c ..
noncomputable def whl(t:Ex)(b:u9)(n:Nat)(ρ:Loc)(st:Store):R Fl:=Jh (λ ρ st=>ug cf ρ t st) (dw cf can b) n ρ st
theorem auu(t:Ex)(b:u9):exS cf can (.whl t b) ρ st=whl cf can t b 100000 ρ st:=by unfold whl;rfl
noncomputable def kW2(t:Ex)(b:u9)(n:Nat):R Fl->R Fl
 |.ok (.next ρ) st=>whl cf can t b n ρ st
 |.ok (.ret x) st=>.ok (.ret x) st
 |.exc c st=>.exc c st
 |.bad=>.bad
noncomputable def kW(t:Ex)(b:u9)(n:Nat):R Bool->R Fl
 |.ok true st=>kW2 cf can t b n (dw cf can b ρ st)
 |.ok false st=>.ok (.next ρ) st
 |.exc c st=>.exc c st
 |.bad=>.bad
theorem ane(t:Ex)(b:u9)(n:Nat):whl cf can t b (n+1) ρ st=kW cf can ρ t b n (ug cf ρ t st):=by
 unfold whl;show R.bind (ug cf ρ t st) _ = _;cases ug cf ρ t st with
 |ok c st=>
  cases c
  ·rfl
  ·simp only[R.bind,kW];cases dw cf can b ρ st with
   |ok fl st=>cases fl<;>rfl
   | _=>rfl
 | _=>rfl
noncomputable def kEx(b:u9):R Loc->R Fl
 |.ok ρ st=>dw cf can b ρ st
 |.exc c st=>.exc c st
 |.bad=>.bad
theorem av7(b:u9):kEx cf can b (.ok ρ st)=dw cf can b ρ st:=by unfold kEx;rfl
noncomputable def N6(t:Tg)(b:u9)(l:List V)(ρ:Loc)(st:Store):R Fl:=
 forR (λ v ρ st=>(qe cf t v ρ st).bind λ ρ st=>dw cf can b ρ st) l ρ st
noncomputable def kF2(t:Tg)(b:u9):R (List V)->R Fl
 |.ok l st=>N6 cf can t b l ρ st
 |.exc c st=>.exc c st
 |.bad=>.bad
theorem aik(t:Tg)(b:u9)(l:List V):kF2 cf can ρ t b (.ok l st)=N6 cf can t b l ρ st:=by unfold kF2;rfl
noncomputable def kF1(s:V)(st:Store):R (List V):=m5 (itemsOf s) st
theorem ago(s:V):kF1 s st=m5 (itemsOf s) st:=rfl
theorem ahe(t:Tg)(it:Ex)(b:u9):exS cf can (.for t it b) ρ st=kF2 cf can ρ t b (kb kF1 (iu cf ρ it st)):=by
 show R.bind (iu cf ρ it st) _ = _;cases iu cf ρ it st with
 |ok v st=>simp only[R.bind,kb,kF1];cases itemsOf v<;>rfl
 | _=>rfl
noncomputable def kFr(t:Tg)(b:u9)(r:List V):R Fl->R Fl
 |.ok (.next ρ) st=>N6 cf can t b r ρ st
 |.ok (.ret x) st=>.ok (.ret x) st
 |.exc c st=>.exc c st
 |.bad=>.bad
theorem awc(t:Tg)(b:u9)(r:List V):kFr cf can t b r (.ok (.next ρ) st)=N6 cf can t b r ρ st:=by unfold kFr;rfl
theorem anr(t:Tg)(b:u9)(v:V)(r:List V):N6 cf can t b (v::r) ρ st=kFr cf can t b r (kEx cf can b (qe cf t v ρ st)):=by
 unfold N6;show R.bind (R.bind (qe cf t v ρ st) _) _ = _;cases qe cf t v ρ st with
 |ok ρ st=>
  simp only[R.bind,kEx];cases dw cf can b ρ st with
  |ok fl st=>cases fl<;>rfl
  | _=>rfl
 | _=>rfl
noncomputable def Ay(fl:Fl)(st:Store):R V:=match fl with
 |.ret v=>.ok v st
 |.next _=>.ok .none st
theorem vo(fd:Fn)(args:List qp):Lb cf can fd args st=if args.length=fd.ps.length then back st.length (kb Ay (dw cf can fd.body (fd.ps.zip args) st))else .bad:=by
 unfold Lb kb;congr 2<;>(congr 1<;>(funext c st;cases c<;>rfl))
theorem Qh{α : Type}(a : α)(st:Store):m5 (some a) st=.ok a st:=rfl
theorem Vd{α : Type}(n:Nat)(a : α)(st:Store):back n (R.ok a st)=.ok a (st.take n):=rfl
theorem Xy{α : Type}(n:Nat)(c:Exc)(st:Store):back n (R.exc c st:R α)=.exc c (st.take n):=rfl
theorem av8(n:Nat)(a0:qp)(st:Store):CT (n+1) "led" [a0] st=back st.length (kb Ay (dw (CT n) (decide (4<=n)) ado.body [("n",a0)] st)):=(vo (CT n) (decide (4<=n)) st ado [a0]).trans (bf rfl)
theorem S7(n:Nat)(a0:qp)(st:Store):CT (n+1) "word_octets" [a0] st=back st.length (kb Ay (dw (CT n) (decide (4<=n)) Cw.body [("w",a0)] st)):=(vo (CT n) (decide (4<=n)) st Cw [a0]).trans (bf rfl)
theorem Tj(n:Nat)(a0:qp)(st:Store):CT (n+1) "octets_word" [a0] st=back st.length (kb Ay (dw (CT n) (decide (4<=n)) Cr.body [("octets",a0)] st)):=(vo (CT n) (decide (4<=n)) st Cr [a0]).trans (bf rfl)
theorem Nv(n:Nat)(a0:qp)(st:Store):CT (n+1) "address_octets" [a0] st=back st.length (kb Ay (dw (CT n) (decide (4<=n)) Af.body [("address",a0)] st)):=(vo (CT n) (decide (4<=n)) st Af [a0]).trans (bf rfl)
theorem P0(n:Nat)(a0:qp)(st:Store):CT (n+1) "number_octets" [a0] st=back st.length (kb Ay (dw (CT n) (decide (4<=n)) Ax.body [("n",a0)] st)):=(vo (CT n) (decide (4<=n)) st Ax [a0]).trans (bf rfl)
theorem Ig(n:Nat)(a0:qp)(st:Store):CT (n+1) "octets_number" [a0] st=back st.length (kb Ay (dw (CT n) (decide (4<=n)) zq.body [("octets",a0)] st)):=(vo (CT n) (decide (4<=n)) st zq [a0]).trans (bf rfl)
theorem ar7(n:Nat)(a0 a1:qp)(st:Store):CT (n+1) "head" [a0,a1] st=back st.length (kb Ay (dw (CT n) (decide (4<=n)) Wi.body [("low",a0),("size",a1)] st)):=(vo (CT n) (decide (4<=n)) st Wi [a0,a1]).trans (bf rfl)
theorem Hl(n:Nat)(a0 a1:qp)(st:Store):CT (n+1) "encoded_at" [a0,a1] st=back st.length (kb Ay (dw (CT n) (decide (4<=n)) Bw.body [("item",a0),("depth",a1)] st)):=(vo (CT n) (decide (4<=n)) st Bw [a0,a1]).trans (bf rfl)
theorem U4(n:Nat)(a0:qp)(st:Store):CT (n+1) "encoded" [a0] st=back st.length (kb Ay (dw (CT n) (decide (4<=n)) Gz.body [("item",a0)] st)):=(vo (CT n) (decide (4<=n)) st Gz [a0]).trans (bf rfl)
theorem Xw(n:Nat)(a0 a1 a2:qp)(st:Store):CT (n+1) "read_size" [a0,a1,a2] st=back st.length (kb Ay (dw (CT n) (decide (4<=n)) Ga.body [("octets",a0),("place",a1),("many",a2)] st)):=(vo (CT n) (decide (4<=n)) st Ga [a0,a1,a2]).trans (bf rfl)
theorem Xq(n:Nat)(a0 a1:qp)(st:Store):CT (n+1) "read_head" [a0,a1] st=back st.length (kb Ay (dw (CT n) (decide (4<=n)) Fj.body [("octets",a0),("place",a1)] st)):=(vo (CT n) (decide (4<=n)) st Fj [a0,a1]).trans (bf rfl)
theorem Oq(n:Nat)(a0 a1 a2:qp)(st:Store):CT (n+1) "read_item" [a0,a1,a2] st=back st.length (kb Ay (dw (CT n) (decide (4<=n)) Fv.body [("octets",a0),("place",a1),("depth",a2)] st)):=(vo (CT n) (decide (4<=n)) st Fv [a0,a1,a2]).trans (bf rfl)
theorem aex(n:Nat)(a0:qp)(st:Store):CT (n+1) "decoded" [a0] st=back st.length (kb Ay (dw (CT n) (decide (4<=n)) N8.body [("octets",a0)] st)):=(vo (CT n) (decide (4<=n)) st N8 [a0]).trans (bf rfl)
theorem Zv(n:Nat)(a0:qp)(st:Store):CT (n+1) "need_form" [a0] st=back st.length (kb Ay (dw (CT n) (decide (4<=n)) Jb.body [("tx",a0)] st)):=(vo (CT n) (decide (4<=n)) st Jb [a0]).trans (bf rfl)
theorem Gm(n:Nat)(a0:qp)(st:Store):CT (n+1) "access_item" [a0] st=back st.length (kb Ay (dw (CT n) (decide (4<=n)) zy.body [("access",a0)] st)):=(vo (CT n) (decide (4<=n)) st zy [a0]).trans (bf rfl)
theorem U0(n:Nat)(a0:qp)(st:Store):CT (n+1) "item_of" [a0] st=back st.length (kb Ay (dw (CT n) (decide (4<=n)) G6.body [("tx",a0)] st)):=(vo (CT n) (decide (4<=n)) st G6 [a0]).trans (bf rfl)
theorem S8(n:Nat)(a0:qp)(st:Store):CT (n+1) "kind_octets" [a0] st=back st.length (kb Ay (dw (CT n) (decide (4<=n)) Cv.body [("tx",a0)] st)):=(vo (CT n) (decide (4<=n)) st Cv [a0]).trans (bf rfl)
theorem Ob(n:Nat)(a0:qp)(st:Store):CT (n+1) "signing_octets" [a0] st=back st.length (kb Ay (dw (CT n) (decide (4<=n)) Ai.body [("tx",a0)] st)):=(vo (CT n) (decide (4<=n)) st Ai [a0]).trans (bf rfl)
theorem Tn(n:Nat)(a0:qp)(st:Store):CT (n+1) "told_parity" [a0] st=back st.length (kb Ay (dw (CT n) (decide (4<=n)) Dc.body [("tx",a0)] st)):=(vo (CT n) (decide (4<=n)) st Dc [a0]).trans (bf rfl)
theorem Jq(n:Nat)(a0:qp)(st:Store):CT (n+1) "written" [a0] st=back st.length (kb Ay (dw (CT n) (decide (4<=n)) Gu.body [("tx",a0)] st)):=(vo (CT n) (decide (4<=n)) st Gu [a0]).trans (bf rfl)
theorem T4(n:Nat)(a0 a1:qp)(st:Store):CT (n+1) "read_number" [a0,a1] st=back st.length (kb Ay (dw (CT n) (decide (4<=n)) Cq.body [("item",a0),("bound",a1)] st)):=(vo (CT n) (decide (4<=n)) st Cq [a0,a1]).trans (bf rfl)
theorem Wc(n:Nat)(a0 a1:qp)(st:Store):CT (n+1) "read_fixed" [a0,a1] st=back st.length (kb Ay (dw (CT n) (decide (4<=n)) Dy.body [("item",a0),("size",a1)] st)):=(vo (CT n) (decide (4<=n)) st Dy [a0,a1]).trans (bf rfl)
theorem Tp(n:Nat)(a0:qp)(st:Store):CT (n+1) "read_access" [a0] st=back st.length (kb Ay (dw (CT n) (decide (4<=n)) Ge.body [("item",a0)] st)):=(vo (CT n) (decide (4<=n)) st Ge [a0]).trans (bf rfl)
theorem X4(n:Nat)(a0 a1 a2 a3 a4:qp)(st:Store):CT (n+1) "read_rest" [a0,a1,a2,a3,a4] st=back st.length (kb Ay (dw (CT n) (decide (4<=n)) I4.body [("kind",a0),("chain",a1),("rows",a2),("access",a3),("told",a4)] st)):=(vo (CT n) (decide (4<=n)) st I4 [a0,a1,a2,a3,a4]).trans (bf rfl)
theorem Oe(n:Nat)(a0 a1:qp)(st:Store):CT (n+1) "read_signature" [a0,a1] st=back st.length (kb Ay (dw (CT n) (decide (4<=n)) Ah.body [("rows",a0),("bound",a1)] st)):=(vo (CT n) (decide (4<=n)) st Ah [a0,a1]).trans (bf rfl)
theorem abt(n:Nat)(a0:qp)(st:Store):CT (n+1) "read_old" [a0] st=back st.length (kb Ay (dw (CT n) (decide (4<=n)) Kh.body [("item",a0)] st)):=(vo (CT n) (decide (4<=n)) st Kh [a0]).trans (bf rfl)
theorem agg(n:Nat)(a0:qp)(st:Store):CT (n+1) "read" [a0] st=back st.length (kb Ay (dw (CT n) (decide (4<=n)) Vz.body [("octets",a0)] st)):=(vo (CT n) (decide (4<=n)) st Vz [a0]).trans (bf rfl)
theorem Wr(n:Nat)(st:Store):CT (n+1) "_law_chains" [] st=back st.length (kb Ay (dw (CT n) (decide (4<=n)) Dq.body [] st)):=(vo (CT n) (decide (4<=n)) st Dq []).trans (bf rfl)
theorem Xl(n:Nat)(st:Store):CT (n+1) "_law_short" [] st=back st.length (kb Ay (dw (CT n) (decide (4<=n)) Fd.body [] st)):=(vo (CT n) (decide (4<=n)) st Fd []).trans (bf rfl)
theorem aac(n:Nat)(st:Store):CT (n+1) "_law_wide" [] st=back st.length (kb Ay (dw (CT n) (decide (4<=n)) Hr.body [] st)):=(vo (CT n) (decide (4<=n)) st Hr []).trans (bf rfl)
theorem Xe(n:Nat)(st:Store):CT (n+1) "_law_goals" [] st=back st.length (kb Ay (dw (CT n) (decide (4<=n)) Fp.body [] st)):=(vo (CT n) (decide (4<=n)) st Fp []).trans (bf rfl)
theorem S6(n:Nat)(a0 a1:qp)(st:Store):CT (n+1) "_law_draw" [a0,a1] st=back st.length (kb Ay (dw (CT n) (decide (4<=n)) Es.body [("well",a0),("law_size",a1)] st)):=(vo (CT n) (decide (4<=n)) st Es [a0,a1]).trans (bf rfl)
theorem aah(n:Nat)(a0 a1:qp)(st:Store):CT (n+1) "_law_pick" [a0,a1] st=back st.length (kb Ay (dw (CT n) (decide (4<=n)) H6.body [("well",a0),("some",a1)] st)):=(vo (CT n) (decide (4<=n)) st H6 [a0,a1]).trans (bf rfl)
theorem W9(n:Nat)(a0:qp)(st:Store):CT (n+1) "_law_drawn" [a0] st=back st.length (kb Ay (dw (CT n) (decide (4<=n)) Il.body [("well",a0)] st)):=(vo (CT n) (decide (4<=n)) st Il [a0]).trans (bf rfl)
theorem aad(n:Nat)(a0:qp)(st:Store):CT (n+1) "_law_made" [a0] st=back st.length (kb Ay (dw (CT n) (decide (4<=n)) G7.body [("law_tx",a0)] st)):=(vo (CT n) (decide (4<=n)) st G7 [a0]).trans (bf rfl)
theorem Vy(n:Nat)(a0:qp)(st:Store):CT (n+1) "_law_fields" [a0] st=back st.length (kb Ay (dw (CT n) (decide (4<=n)) Ho.body [("law_one",a0)] st)):=(vo (CT n) (decide (4<=n)) st Ho [a0]).trans (bf rfl)
theorem J1(n:Nat)(a0 a1:qp)(st:Store):CT (n+1) "_law_figures" [a0,a1] st=back st.length (kb Ay (dw (CT n) (decide (4<=n)) Av.body [("law_number",a0),("law_many",a1)] st)):=(vo (CT n) (decide (4<=n)) st Av [a0,a1]).trans (bf rfl)
theorem abe(n:Nat)(a0:qp)(st:Store):CT (n+1) "_law_laid" [a0] st=back st.length (kb Ay (dw (CT n) (decide (4<=n)) Hh.body [("law_item",a0)] st)):=(vo (CT n) (decide (4<=n)) st Hh [a0]).trans (bf rfl)
theorem aa6(n:Nat)(a0:qp)(st:Store):CT (n+1) "_law_rows" [a0] st=back st.length (kb Ay (dw (CT n) (decide (4<=n)) Hf.body [("law_tx",a0)] st)):=(vo (CT n) (decide (4<=n)) st Hf [a0]).trans (bf rfl)
theorem K3(n:Nat)(a0 a1:qp)(st:Store):CT (n+1) "_law_octets" [a0,a1] st=back st.length (kb Ay (dw (CT n) (decide (4<=n)) Bj.body [("law_tx",a0),("is_signed",a1)] st)):=(vo (CT n) (decide (4<=n)) st Bj [a0,a1]).trans (bf rfl)
theorem M9(n:Nat)(a0 a1:qp)(st:Store):CT (n+1) "_law_number" [a0,a1] st=back st.length (kb Ay (dw (CT n) (decide (4<=n)) Dv.body [("law_item",a0),("law_bound",a1)] st)):=(vo (CT n) (decide (4<=n)) st Dv [a0,a1]).trans (bf rfl)
theorem Yy(n:Nat)(a0 a1:qp)(st:Store):CT (n+1) "_law_fixed" [a0,a1] st=back st.length (kb Ay (dw (CT n) (decide (4<=n)) Fe.body [("law_item",a0),("law_size",a1)] st)):=(vo (CT n) (decide (4<=n)) st Fe [a0,a1]).trans (bf rfl)
theorem aaw(n:Nat)(a0 a1:qp)(st:Store):CT (n+1) "_law_item" [a0,a1] st=back st.length (kb Ay (dw (CT n) (decide (4<=n)) Hs.body [("octets",a0),("at",a1)] st)):=(vo (CT n) (decide (4<=n)) st Hs [a0,a1]).trans (bf rfl)
theorem Vu(n:Nat)(a0:qp)(st:Store):CT (n+1) "_law_access" [a0] st=back st.length (kb Ay (dw (CT n) (decide (4<=n)) Hu.body [("law_item",a0)] st)):=(vo (CT n) (decide (4<=n)) st Hu [a0]).trans (bf rfl)
theorem Xu(n:Nat)(a0:qp)(st:Store):CT (n+1) "_law_heard" [a0] st=back st.length (kb Ay (dw (CT n) (decide (4<=n)) Fi.body [("octets",a0)] st)):=(vo (CT n) (decide (4<=n)) st Fi [a0]).trans (bf rfl)
theorem aa5(n:Nat)(a0:qp)(st:Store):CT (n+1) "_law_told" [a0] st=back st.length (kb Ay (dw (CT n) (decide (4<=n)) H8.body [("octets",a0)] st)):=(vo (CT n) (decide (4<=n)) st H8 [a0]).trans (bf rfl)
theorem abq(n:Nat)(a0 a1:qp)(st:Store):CT (n+1) "_law_bent" [a0,a1] st=back st.length (kb Ay (dw (CT n) (decide (4<=n)) Ht.body [("well",a0),("octets",a1)] st)):=(vo (CT n) (decide (4<=n)) st Ht [a0,a1]).trans (bf rfl)
theorem Og(n:Nat)(a0:qp)(st:Store):CT (n+1) "_law_is_refused" [a0] st=back st.length (kb Ay (dw (CT n) (decide (4<=n)) Aj.body [("law_tx",a0)] st)):=(vo (CT n) (decide (4<=n)) st Aj [a0]).trans (bf rfl)
theorem Tr(n:Nat)(a0:qp)(st:Store):CT (n+1) "_law_spoiled" [a0] st=back st.length (kb Ay (dw (CT n) (decide (4<=n)) Cu.body [("law_tx",a0)] st)):=(vo (CT n) (decide (4<=n)) st Cu [a0]).trans (bf rfl)
theorem ax5(n:Nat)(a0:qp)(st:Store):CT (n+1) "law" [a0] st=back st.length (kb Ay (dw (CT n) (decide (4<=n)) Qz.body [("script",a0)] st)):=(vo (CT n) (decide (4<=n)) st Qz [a0]).trans (bf rfl)
theorem Xc(st:Store):st.take st.length=st:=List.take_length
theorem Kw(st:Store)(r:Store):(st++r).take st.length=st:=List.take_left
theorem tu(st:Store)(c:Cell)(r:Store):(st++c::r)[st.length]? = some c:=(List.getElem?_append_right (jf _)).trans (by rw[Nat.sub_self];rfl)
theorem Je(st:Store)(c d:Cell)(r:Store):(st++c::r).set st.length d=st++d::r:=(List.set_append_right _ _ (jf _)).trans (by rw[Nat.sub_self];rfl)
noncomputable def P2(k:Nat):Int:=((2^k:Nat):Int)
theorem Yo{k:Nat}{a:Nat}:(a:Int)<P2 k↔a<2^k:=by unfold P2;exact jw
theorem aqk(k:Nat):0<P2 k:=by unfold P2;exact Int.natCast_pos.2 (Nat.pow_pos (by decide))
theorem Az:J3 "WORD" = some (.int (P2 256)):=by unfold P2;rfl
theorem Lp:J3 "MOST" = some (.int (P2 160)):=by unfold P2;rfl
theorem Qi:J3 "LONG" = some (.int (P2 64)):=by unfold P2;rfl
theorem aar(a b:Int):Cd .pow (.int a) (.int b)=if 0<=a/\a<1000/\0<=b/\b<1000 then some (.int (a^b.toNat))else none:=rfl
theorem pw(k:Nat)(h:k<1000):Cd .pow (.int 2) (.int (k:Int))=some (.int (P2 k)):=by
 rw[aar,bf ⟨by decide,by decide,jy k,(jw.2 h:(k:Int)<1000)⟩,Int.toNat_natCast,P2,Int.natCast_pow];rfl
theorem S5:Cd .pow (.int 2) (.int 64)=some (.int (P2 64)):=pw 64 (by decide)
theorem aa3:Cd .pow (.int 2) (.int 160)=some (.int (P2 160)):=pw 160 (by decide)
theorem aqm:Cd .pow (.int 2) (.int 255)=some (.int (P2 255)):=pw 255 (by decide)
theorem Dm:Cd .pow (.int 2) (.int 256)=some (.int (P2 256)):=pw 256 (by decide)
theorem apw:Cd .pow (.int 2) (.int 257)=some (.int (P2 257)):=pw 257 (by decide)
theorem ate:Cd .pow (.int 2) (.int 320)=some (.int (P2 320)):=pw 320 (by decide)
theorem arl:Cd .pow (.int 2) (.int 400)=some (.int (P2 400)):=pw 400 (by decide)
theorem as7:Cd .pow (.int 10) (.int 9)=some (.int 1000000000):=rfl
theorem ajy:Cd .pow (.int 256) (.int 20)=some (.int (P2 160)):=by
 rw[aar,bf (by decide)];unfold P2;exact au (λ x=>some (V.int x)) (by decide +kernel)
theorem aki:Cd .pow (.int 256) (.int 32)=some (.int (P2 256)):=by
 rw[aar,bf (by decide)];unfold P2;exact au (λ x=>some (V.int x)) (by decide +kernel)
theorem Z8:(2:Nat)^256=256^32:=by decide +kernel
theorem Ve:(2:Nat)^160=256^20:=by decide +kernel
theorem ajb(x y:Int):Cd .mul (.int x) (.int y)=if x.natAbs<4294967296\/y.natAbs<4294967296 then some (.int (x*y))else none:=rfl
theorem anc(x y:Int):Cd .mod (.int x) (.int y)=if 0<y then some (.int (x%y))else none:=rfl
theorem bq(a b:List UInt8):(a==b)=decide (a=b):=Bool.eq_iff_iff.mpr (beq_iff_eq.trans decide_eq_true_iff.symm)
theorem au5(a b:List UInt8):ahs (.bytes a) (.bytes b)=some (decide (a=b)):=au some (bq a b)
theorem au8(a b:List UInt8):Qo (.bytes a) (.bytes b)=some (!decide (a=b)):=au (λ c=>some !c) (bq a b)
theorem aod(a b:List (String×V)):Qo (.dict a) (.dict b)=if a.length=b.length then(Zy a b).map not else none:=rfl
theorem mk1{a:Nat}(h:a<256):Bq (.list [.int a])=some (.bytes [a.toUInt8]):=by
 have e:(decide (0<=(a:Int))&&decide ((a:Int)<256))=true:=by
  rw[fu (jy a),show decide ((a:Int)<256)=true from fu (jw.2 h)];rfl
 show(if((decide (0<=(a:Int))&&decide ((a:Int)<256))&&true)=true/\1<=lim then some (V.bytes [a.toUInt8])else none)=_
 rw[e];rfl
theorem az8(v:V)(st:Store):freeze (.val v) st=.ok v st:=rfl
theorem ab7(a k:Nat)(h:a<256^k)(hk:k<=1000)(st:Store):toB (.int a) (.int k) st=.ok (.bytes (yh k a)) st:=by
 unfold toB;have:(a:Int)<256^(k:Int).toNat:=by
  rw[Int.toNat_natCast];have:=jw.2 h
  rwa [Int.natCast_pow]at this
 simp only[];rw[bf ⟨by lia,by lia,by lia,this⟩];simp
theorem arx(a:Nat)(h:a<2^256)(st:Store):toB (.int a) (.int 32) st=.ok (.bytes (yh 32 a)) st:=ab7 a 32 (Z8▸h) (by decide) st
theorem Rg{a k:Nat}(h:a<256^k)(hk:k<=1000):(yj a+7)/8<=1000:=ak (bits_le a k h) hk
theorem La(n s:Nat):clip n (s:Int)=min s n:=by
 unfold clip;rw[bx (Int.not_lt.2 (jy s))];rcases Nat.le_total s n with h|h
 ·rw[Int.min_eq_left (Int.ofNat_le.2 h),Nat.min_eq_left h,Int.max_eq_right (jy _)];rfl
 ·rw[Int.min_eq_right (Int.ofNat_le.2 h),Nat.min_eq_right h,Int.max_eq_right (jy _)];rfl
theorem Xn{α : Type}(l:List α)(s:Nat):l.drop (min s l.length)=l.drop s:=by
 by_cases h:s<=l.length
 ·rw[Nat.min_eq_left h]
 ·rw[Nat.min_eq_right (Nat.le_of_not_le h),List.drop_length,List.drop_of_length_le (Nat.le_of_not_le h)]
theorem apr{α : Type}(l:List α)(s e:Nat):cut l (some (s:Int)) (some (e:Int))=(l.drop s).take (e-s):=by
 show(l.drop (clip l.length s)).take (clip l.length e-clip l.length s)=_;rw[La,La,Xn]
 by_cases h:s<=l.length
 ·rw[Nat.min_eq_left h,List.take_eq_take_iff,nq,<-Nat.sub_min_sub_right,Nat.min_assoc,Nat.min_self]
 ·rw[List.drop_of_length_le (Nat.le_of_not_le h),List.take_nil,List.take_nil]
theorem atw{α : Type}(l:List α)(s:Nat):cut l (some (s:Int)) none=l.drop s:=by
 show(l.drop (clip l.length s)).take (l.length-clip l.length s)=_;rw[qg (by rw[nq];exact jf _),La,Xn]
theorem ah6{α : Type}(l:List α)(e:Nat):cut l none (some (e:Int))=l.take e:=by
 show(l.drop 0).take (clip l.length e-0)=_;rw[La,List.drop_zero,Nat.sub_zero,<-List.take_eq_take_min]
theorem aj5{α : Type}(l:List α):cut l none (some 60)=l.take 60:=ah6 l 60
theorem akt{α : Type}(l:List α)(h:l.length<=32):cut l (some (-32)) none=l:=by
 have h0:(-32:Int)+l.length<=0:=by lia
 have e:clip l.length (-32)=0:=by
  unfold clip;rw[bf (by decide),Int.max_eq_left (Int.le_trans (Int.min_le_left ..) h0)];rfl
 show(l.drop (clip l.length (-32))).take (l.length-clip l.length (-32))=l;rw[e,List.drop_zero,Nat.sub_zero,List.take_length]
theorem ak1(b:List UInt8)(lo hi:Option V):wk (.bytes b) lo hi=(Ui lo).bind λ l=>(Ui hi).bind λ h=>if b.length<=lim then some (.bytes (cut b l h))else none:=rfl
theorem ai4(i:Int):Ui (some (.int i))=if i.natAbs<1000000000000 then some (some i)else none:=rfl
theorem take1(l:List UInt8):(l.take 1=[0])=(l.head? = some 0):=by
 cases l with
 |nil=>exact propext ⟨λ h=>(nomatch h),λ h=>(nomatch h)⟩
 |cons c r=>exact propext ⟨λ h=>au some (List.cons.inj h).1,λ h=>au (λ c=>[c]) (ao h)⟩
theorem ad4(cf:CF)(elt:Ex)(x:String)(ρ:Loc)(st:Store)(f:V->V):∀l:List V,(∀v∈l,iu cf ((x,.val v)::ρ) elt st=.ok (f v) st)->
 cmp cf elt x .none ρ l st=.ok (l.map f) st
 |[],_=>rfl
 |v::r,h=>by
  rw[Y0,h v f9,mq,ac7,ad4 cf elt x ρ st f r (λ w hw=>h w (bk _ hw))];rfl
theorem lkp{β : Type}(x y:String)(b : β):∀ρ:List (String×β),lk x (put y b ρ)=if x=y then some b else lk x ρ
 |[]=>Al ..
 |(z,c)::r=>by
  rw[Cm]
  by_cases h:y=z
  ·subst h;rw[bf rfl,Al,Al]
   by_cases h2:x=y
   ·rw[bf h2,bf h2]
   ·rw[bx h2,bx h2,bx h2]
  ·rw[bx h,Al,Al,lkp x y b r]
   by_cases h2:x=z
   ·subst h2;rw[bf rfl,bf rfl,bx λ h3=>h h3.symm]
   ·rw[bx h2,bx h2]
theorem aza(st:Store)(l:List V)(r:Store)(v:V):Gd (.cell st.length) none v (st++⟨true,.list l⟩::r)=if l.length<=lim then some (st++⟨true,.list (l++[v])⟩::r)else none:=by
 unfold Gd;dsimp only;rw[tu];exact au (λ s=>if l.length<=lim then some s else none) (Je ..)
theorem aa4(st:Store)(b:Bool)(l:List V)(r:Store):freeze (.cell st.length) (st++⟨b,.list l⟩::r)=.ok (.list l) (st++⟨false,.list l⟩::r):=by
 unfold freeze;dsimp only;rw[tu];exact au (R.ok _) (Je ..)
theorem azv(st:Store)(b:Bool)(l:List V)(r:Store):Nq (.cell st.length) (st++⟨b,.list l⟩::r)=if l.length<=lim then some (.int l.length)else none:=by
 unfold Nq;dsimp only;rw[tu];rfl
theorem ay5(st:Store)(b:Bool)(l:List V)(r:Store)(k:V):Pu (.cell st.length) k (st++⟨b,.list l⟩::r)=zp (.list l) k:=by
 unfold Pu;dsimp only;rw[tu]
theorem ints_map:∀l:List UInt8,intsOf (l.map λ c=>V.int (c.toNat:Int))=some (l.map λ c=>(c.toNat:Int))
 |[]=>rfl
 |c::r=>au (Option.map (List.cons (c.toNat:Int))) (ints_map r)
theorem ace(l:List UInt8)(h:l.length<=1000000):Bq (.list (l.map λ c=>.int c.toNat))=some (.bytes l):=by
 show(match intsOf (l.map λ c=>V.int (c.toNat:Int))with
  |some ns=>if(ns.all λ (n:Int)=>decide (0<=n)&&decide (n<256))=true/\ns.length<=lim then some (V.bytes (ns.map λ (n:Int)=>n.toNat.toUInt8))else none
  |none=>none)=_
 rw[ints_map];refine(bf ⟨List.all_eq_true.mpr λ x hx=>?_,by rw[bw];exact h⟩).trans (au (λ l=>some (V.bytes l)) ?_)
 ·rw[List.map_map];exact(List.map_congr_left λ c _=>UInt8.ofNat_toNat).trans (List.map_id l)
 ·obtain⟨c,_,rfl⟩:=kj.mp hx;rw[fu (jy c.toNat),show decide ((c.toNat:Int)<256)=true from fu (jw.2 c.toNat_lt)];rfl
noncomputable def Fin(n:Nat)(w:R V)(r:R Fl):Prop:=back n (kb Ay r)=w
noncomputable def Is(q r:R Fl):Prop:=r=q
noncomputable def Sq(W:R Fl->Prop)(cf:CF)(can:Bool)(ss:u9)(r:R Fl):Prop:=W (Qc cf can ss r)
noncomputable def Wh(q:R Fl)(cf:CF)(can:Bool)(t:Ex)(b:u9)(n:Nat)(r:R Fl):Prop:=kW2 cf can t b n r=q
noncomputable def Fr(q:R Fl)(cf:CF)(can:Bool)(tg:Tg)(b:u9)(l:List V)(r:R Fl):Prop:=kFr cf can tg b l r=q
section
variable{cf:CF}{can:Bool}{ρ ρ':Loc}{st st' st'' st3:Store}{ss a b:u9}{W:R Fl->Prop}{x n:String}{e g t:Ex}{v u:V}{c d:Bool}{B:qp}{r q:R Fl}{w:R V}
theorem qb(hd:Ba e=false)(h:iu cf ρ e st=.ok v st')(k:W (dw cf can ss (put x (.val v) ρ) st')):W (dw cf can (.cons (.asg (.nm x) e) ss) ρ st):=by
 rw[Pg,arp,hd,anm,h];exact k
theorem Di{D:CD}(hd:Ba e=true)(h:iu cf ρ e st=.ok v st')(hc:cellOf v=some D)(k:W (dw cf can ss (put x (.cell st'.length) ρ) (st'++[⟨true,D⟩]))):W (dw cf can (.cons (.asg (.nm x) e) ss) ρ st):=by
 rw[Pg,arp,hd,aw3,h,mq,axa,hc];exact k
theorem Ih{i:V}(hd:Ba e=false)(h:iu cf ρ e st=.ok v st')(hx:lk x ρ=some B)(hk:iu cf ρ g st'=.ok i st'')(hs:setB B i (.val v) st''=some st3)(k:W (dw cf can ss ρ st3)):
 W (dw cf can (.cons (.asg (.idx x g) e) ss) ρ st):=by
 rw[Pg,awi _ _ _ _ _ _ hd,h,mq,ags,acv,hx,Ys,hk,mq,Qw,hs];exact k
theorem avr{i:V}(hx:lk x ρ=some B)(hk:iu cf ρ g st=.ok i st')(hs:setB B i (.own []) st'=some st'')(k:W (dw cf can ss ρ st'')):W (dw cf can (.cons (.asg (.idx x g) (.lst .nil)) ss) ρ st):=by
 rw[Pg,auv,hx,Ys,hk,mq,Qw,hs];exact k
theorem z7{ts:Uu}(h:iu cf ρ e st=.ok v st')(hs:qe cf (.tup ts) v ρ st'=.ok ρ' st'')(k:W (dw cf can ss ρ' st'')):W (dw cf can (.cons (.asg (.tup ts) e) ss) ρ st):=by
 rw[Pg,aoe,h,mq,ags,hs];exact k
theorem v9(h:ug cf ρ t st=.ok true st')(k:Sq W cf can ss (dw cf can a ρ st')):W (dw cf can (.cons (.ifs t a .nil) ss) ρ st):=by
 rw[ac8,h];exact k
theorem su(h:ug cf ρ t st=.ok false st')(k:W (dw cf can ss ρ st')):W (dw cf can (.cons (.ifs t a .nil) ss) ρ st):=by
 rw[ac8,h];exact k
theorem uz(h:ug cf ρ t st=.ok c st')(ht:c=true->Sq W cf can ss (dw cf can a ρ st'))(hf:c=false->W (dw cf can ss ρ st')):W (dw cf can (.cons (.ifs t a .nil) ss) ρ st):=by
 cases c
 ·exact su h (hf rfl)
 ·exact v9 h (ht rfl)
theorem R0{s:St}(h:ug cf ρ t st=.ok c st')(ht:c=true->Sq W cf can ss (dw cf can a ρ st'))(hf:c=false->Sq W cf can ss (dw cf can (.cons s b) ρ st')):W (dw cf can (.cons (.ifs t a (.cons s b)) ss) ρ st):=by
 rw[awe,h];cases c
 ·exact hf rfl
 ·exact ht rfl
theorem jr(h:iu cf ρ e st=.ok v st')(k:W (.ok (.ret v) st')):W (dw cf can (.cons (.ret e) ss) ρ st):=by
 rw[ao8,h];exact k
theorem za{x:Exc}(k:W (.exc x st)):W (dw cf true (.cons (.rai x) ss) ρ st):=by
 rw[au7];exact k
theorem yd(k:W (.ok (.next ρ) st)):W (dw cf can .nil ρ st):=by rw[w_n];exact k
theorem Bu(k:W (dw cf can ss ρ st)):Sq W cf can ss (.ok (.next ρ) st):=k
theorem zc(k:W (.ok (.ret v) st)):Sq W cf can ss (.ok (.ret v) st):=k
theorem z8{x:Exc}(k:W (.exc x st)):Sq W cf can ss (.exc x st):=k
theorem K6{i:Nat}{l:List V}(hx:lk x ρ=some (.cell i))(hi:st[i]? = some ⟨c,.list l⟩)(h:iu cf ρ e st=.ok v st')(hs:Gd (.cell i) none v st'=some st'')(k:W (dw cf can ss ρ st'')):W (dw cf can (.cons (.app x none e) ss) ρ st):=by
 rw[ao3,aop,hx,anq,hi,an3,h,mq,ays,hs];exact k
theorem Dg{tg:Tg}{it:Ex}{l:List V}(h:iu cf ρ it st=.ok v st')(hi:itemsOf v=some l)(hf:N6 cf can tg b l ρ st'=r)(k:Sq W cf can ss r):W (dw cf can (.cons (.for tg it b) ss) ρ st):=by
 rw[agy,ahe,h,mq,ago,hi,Qh,aik,hf];exact k
theorem Qt(hf:whl cf can t b 100000 ρ st=r)(k:Sq W cf can ss r):W (dw cf can (.cons (.whl t b) ss) ρ st):=by
 rw[aud,auu,hf];exact k
theorem auo(h:iu cf ρ e st=.ok v st')(k:W (dw cf can ss ρ st')):W (dw cf can (.cons (.exp e) ss) ρ st):=by
 rw[aow,an1,h];exact k
theorem aha{x':Exc}(h:iu cf ρ e st=.exc x' st')(k:W (.exc x' st')):W (dw cf can (.cons (.exp e) ss) ρ st):=by
 rw[aow,an1,h];exact k
theorem ase{h:u9}{fl:Fl}(e:dw cf can a ρ st=.ok fl st')(k:Sq W cf can ss (.ok fl st')):W (dw cf can (.cons (.tryx a h) ss) ρ st):=by
 rw[anj,aof,e];exact k
theorem ahl{h:u9}{x':Exc}(e:dw cf can a ρ st=.exc x' st')(k:Sq W cf can ss (dw cf can h ρ st')):W (dw cf can (.cons (.tryx a h) ss) ρ st):=by
 rw[anj,aof,e,asl];exact k
theorem mz:Fin st.length (.ok v st) (.ok (.ret v) st):=(Vd _ _ _).trans (by rw[Xc])
theorem Bo{s:Store}:Fin st.length (.ok v st) (.ok (.ret v) (st++s)):=(Vd _ _ _).trans (by rw[Kw])
theorem uy{x:Exc}:Fin st.length (.exc x st) (.exc x st):=(Xy _ _ _).trans (by rw[Xc])
theorem Od{x:Exc}{s:Store}:Fin st.length (.exc x st) (.exc x (st++s)):=(Xy _ _ _).trans (by rw[Kw])
theorem J9(h:r=q):Is q r:=h
theorem Dh{tg:Tg}{l:List V}(h:qe cf tg v ρ st=.ok ρ' st')(k:Fr q cf can tg b l (dw cf can b ρ' st')):N6 cf can tg b (v::l) ρ st=q:=by
 rw[anr,h];exact k
theorem Nu{tg:Tg}{l:List V}(k:N6 cf can tg b l ρ st=q):Fr q cf can tg b l (.ok (.next ρ) st):=k
theorem asw{tg:Tg}{l:List V}:Fr (.ok (.ret v) st) cf can tg b l (.ok (.ret v) st):=rfl
theorem am2{tg:Tg}{l:List V}{x':Exc}:Fr (.exc x' st) cf can tg b l (.exc x' st):=rfl
theorem ae8{n:Nat}(h:ug cf ρ t st=.ok true st')(k:Wh q cf can t b n (dw cf can b ρ st')):whl cf can t b (n+1) ρ st=q:=by rw[ane,h];exact k
theorem akr{n:Nat}(h:ug cf ρ t st=.ok false st'):whl cf can t b (n+1) ρ st=.ok (.next ρ) st':=by rw[ane,h];rfl
theorem al4{n:Nat}(k:whl cf can t b n ρ st=q):Wh q cf can t b n (.ok (.next ρ) st):=k
theorem azl{n:Nat}:Wh (.ok (.ret v) st) cf can t b n (.ok (.ret v) st):=rfl
theorem auz{n:Nat}{x':Exc}:Wh (.exc x' st) cf can t b n (.exc x' st):=rfl
theorem dj(h:lk x ρ=some (.val v)):iu cf ρ (.nm x) st=.ok v st:=by rw[akk,h];rfl
theorem Nk{i:Nat}(h:lk x ρ=some (.cell i))(k:freeze (.cell i) st=w):iu cf ρ (.nm x) st=w:=by rw[akk,h];exact k
theorem Cp(h:J3 x=some v):iu cf ρ (.gl x) st=.ok v st:=by show m5 _ _ = _;rw[h];rfl
theorem gj{f:String}{es:Aq}{l:List qp}(h:Jx cf ρ es st=.ok l st')(k:cf f l st'=w):iu cf ρ (.call f es) st=w:=by
 show R.bind _ _ = _;rw[h];exact k
theorem anp{es:Aq}{l:List qp}(h:Jx cf ρ es st=.ok l st')(k:cf "Transaction" l st'=w):iu cf ρ (.new es) st=w:=by
 show R.bind _ _ = _;rw[h];exact k
theorem gk{o:BOp}{y:V}(h:iu cf ρ e st=.ok u st')(k:iu cf ρ g st'=.ok y st'')(z:Cd o u y=some v):iu cf ρ (.bin o e g) st=.ok v st'':=by
 rw[am8,h,mq,aix,k,mq,amk,z];rfl
theorem jz{y:V}(h:ko cf ρ st e=.ok B st')(k:iu cf ρ g st'=.ok y st'')(z:Pu B y st''=some v):iu cf ρ (.idx e g) st=.ok v st'':=by
 rw[axh,h,mq,asd,k,mq,al0,z];rfl
theorem Kz{l:List (String×V)}(h:lk x ρ=some (.val (.obj l)))(k:lk n l=some v):iu cf ρ (.attr (.nm x) n) st=.ok v st:=by
 rw[ano,h,aov,k];rfl
theorem gw(h:lk x ρ=some B):ko cf ρ st (.nm x)=.ok B st:=by rw[av3,h];rfl
theorem v7(hn:Vj e=none)(h:iu cf ρ e st=.ok v st'):ko cf ρ st e=.ok (.val v) st':=by rw[awf _ _ _ _ hn,h];rfl
theorem zj(h:iu cf ρ e st=.ok v st'):evO cf ρ (.some e) st=.ok (some v) st':=by rw[x_s,h];rfl
theorem vf{lo hi:Ii}{l h:Option V}(h1:iu cf ρ e st=.ok u st)(h2:evO cf ρ lo st=.ok l st)(h3:evO cf ρ hi st=.ok h st)(z:wk u l h=some v):iu cf ρ (.slc e lo hi) st=.ok v st:=by
 rw[auy,h1,mq,axg,h2,mq,ar3,h3,mq,asu,z];rfl
theorem ux(h:ko cf ρ st e=.ok B st')(z:Nq B st'=some v):iu cf ρ (.len e) st=.ok v st':=by
 rw[av0,h,mq,apc,z];rfl
theorem yu{y:Ex}(h:ug cf ρ t st=.ok true st')(k:iu cf ρ e st'=w):iu cf ρ (.ife t e y) st=w:=by
 rw[aoo,h,mq,aq5,k]
theorem wg{y:Ex}(h:ug cf ρ t st=.ok false st')(k:iu cf ρ y st'=w):iu cf ρ (.ife t e y) st=w:=by
 rw[aoo,h,mq,aqy,k]
theorem q8{es:Aq}{l:List V}(h:Bl cf ρ es st=.ok l st')(z:l.length<=lim):iu cf ρ (.tup es) st=.ok (.tuple l) st':=by
 rw[an8,h,mq,ath,bf z]
theorem qt{es:Aq}{l:List V}(h:Bl cf ρ es st=.ok l st')(z:l.length<=lim):iu cf ρ (.lst es) st=.ok (.list l) st':=by
 rw[aox,h,mq,ah3,bf z]
theorem s_1{es:Aq}{l:List V}(h:iu cf ρ e st=.ok v st')(k:Bl cf ρ es st'=.ok l st''):Bl cf ρ (.cons e es) st=.ok (v::l) st'':=by
 rw[s_c,h,mq,ao9,k];rfl
theorem b_1{es:Aq}{l:List qp}(h:ko cf ρ st e=.ok B st')(k:Jx cf ρ es st'=.ok l st''):Jx cf ρ (.cons e es) st=.ok (B::l) st'':=by
 rw[b_c,h,mq,am9,k];rfl
theorem jk{o:J8}{y:V}(h:iu cf ρ e st=.ok u st')(k:iu cf ρ g st'=.ok y st'')(z:xg o u y=some c):ug cf ρ (.cmp o e g) st=.ok c st'':=by
 rw[aou,h,mq,adv,k,mq,Rk,z];rfl
theorem J6(h:lk x ρ=some (.val (.bool c))):ug cf ρ (.nm x) st=.ok c st:=by rw[a0f,h];rfl
theorem auh{es:Aq}(h:ug cf ρ (.andE es) st=.ok c st'):iu cf ρ (.andE es) st=.ok (.bool c) st':=by
 rw[axk,<-anh,h];rfl
theorem Ci(h:iu cf ρ e st=.ok v st')(z:z6 v=some c):ug cf ρ (.isl e) st=.ok c st':=by
 rw[au4,h,mq,amf,z];rfl
theorem s7(h:ug cf ρ e st=.ok c st'):ug cf ρ (.notE e) st=.ok (!c) st':=by
 show R.bind (ug cf ρ e st) _ = _;rw[h];rfl
theorem Ks(h:ug cf ρ e st=.ok c st'):ug cf ρ (.andE (.cons e .nil)) st=.ok c st':=by
 show R.bind (ug cf ρ e st) _ = _;rw[h];cases c<;>rfl
theorem Dl{es:Aq}(h:ug cf ρ e st=.ok c st)(k:c=true->ug cf ρ (.andE es) st=.ok d st):ug cf ρ (.andE (.cons e es)) st=.ok (c&&d) st:=by
 show R.bind (ug cf ρ e st) _ = _;rw[h];cases c
 ·rfl
 ·exact k rfl
theorem Km(h:ug cf ρ e st=.ok c st)(k:ug cf ρ g st=.ok d st):ug cf ρ (.andE (.cons e (.cons g .nil))) st=.ok (c&&d) st:=Dl h λ _=>Ks k
theorem Zj(h:ug cf ρ e st=.ok c st'):ug cf ρ (.orE (.cons e .nil)) st=.ok c st':=by
 show R.bind (ug cf ρ e st) _ = _;rw[h];cases c<;>rfl
theorem Aw{es:Aq}(h:ug cf ρ e st=.ok c st)(k:c=false->ug cf ρ (.orE es) st=.ok d st):ug cf ρ (.orE (.cons e es)) st=.ok (c||d) st:=by
 show R.bind (ug cf ρ e st) _ = _;rw[h];cases c
 ·exact k rfl
 ·rfl
theorem Dn(h:ug cf ρ e st=.ok c st)(k:ug cf ρ g st=.ok d st):ug cf ρ (.orE (.cons e (.cons g .nil))) st=.ok (c||d) st:=Aw h λ _=>Zj k
theorem a0u{o p:J8}{y z:V}{f:Ex}(h:iu cf ρ e st=.ok u st)(k:iu cf ρ g st=.ok y st)(z1:xg o u y=some c)(l:iu cf ρ f st=.ok z st)(z2:xg p y z=some d):ug cf ρ (.cmp2 o p e g f) st=.ok (c&&d) st:=by
 rw[apl,h,mq,ayb,k,mq,axn,z1];cases c
 ·rfl
 ·rw[aw9,l,mq,Rk,z2];rfl
theorem Lw{a b:Int}(h:iu cf ρ e st=.ok (.int a) st)(k:iu cf ρ g st=.ok (.int b) st):ug cf ρ (.cmp2 .le .lt (.int 0) e g) st=.ok (decide (0<=a)&&decide (a<b)) st:=
 a0u (u:=.int 0) rfl h rfl k rfl
theorem K1{x':Exc}(hd:Ba e=false)(h:iu cf ρ e st=.exc x' st')(k:W (.exc x' st')):W (dw cf can (.cons (.asg (.nm x) e) ss) ρ st):=by
 rw[Pg,arp,hd,anm,h];exact k
theorem Gi{x':Exc}{ts:Uu}(h:iu cf ρ e st=.exc x' st')(k:W (.exc x' st')):W (dw cf can (.cons (.asg (.tup ts) e) ss) ρ st):=by
 rw[Pg,aoe,h];exact k
theorem Bv{x':Exc}(h:iu cf ρ e st=.exc x' st')(k:W (.exc x' st')):W (dw cf can (.cons (.ret e) ss) ρ st):=by
 rw[ao8,h];exact k
theorem Te{x':Exc}{es:Aq}(h:iu cf ρ e st=.exc x' st'):Bl cf ρ (.cons e es) st=.exc x' st':=by rw[s_c,h];rfl
theorem afq{x':Exc}{es:Aq}(h:iu cf ρ e st=.ok v st')(k:Bl cf ρ es st'=.exc x' st''):Bl cf ρ (.cons e es) st=.exc x' st'':=by rw[s_c,h,mq,ao9,k];rfl
theorem H7{x':Exc}{es:Aq}(h:Bl cf ρ es st=.exc x' st'):iu cf ρ (.tup es) st=.exc x' st':=by rw[an8,h];rfl
theorem Dp{it:Ex}{cd:Ii}{cs:List String}{l m:List V}(h:iu cf ρ it st=.ok v st')(hi:itemsOf v=some l)(k:cmp cf e x cd (Bp cs ρ) l st'=.ok m st'')(z:m.length<=lim):iu cf ρ (.comp e x it cd cs) st=.ok (.list m) st'':=by
 rw[agn,h,mq,aoc,hi,Qh,mq,agz,k,mq,ah3,bf z]
theorem ahi{x':Exc}{it:Ex}{cd:Ii}{cs:List String}{l:List V}(h:iu cf ρ it st=.ok v st')(hi:itemsOf v=some l)(k:cmp cf e x cd (Bp cs ρ) l st'=.exc x' st''):iu cf ρ (.comp e x it cd cs) st=.exc x' st'':=by
 rw[agn,h,mq,aoc,hi,Qh,mq,agz,k];rfl
theorem agj{x':Exc}{es:Aq}(hn:Vj e=none)(h:iu cf ρ e st=.exc x' st'):Jx cf ρ (.cons e es) st=.exc x' st':=by rw[b_c,awf _ _ _ _ hn,h];rfl
theorem akb{x':Exc}{es:Aq}(h:ko cf ρ st e=.ok B st')(k:Jx cf ρ es st'=.exc x' st''):Jx cf ρ (.cons e es) st=.exc x' st'':=by rw[b_c,h,mq,am9,k];rfl
theorem K4{x':Exc}{f:String}{es:Aq}(h:Jx cf ρ es st=.exc x' st'):iu cf ρ (.call f es) st=.exc x' st':=by
 show R.bind _ _ = _;rw[h];rfl
theorem aob{ks:List String}{es:Aq}{l:List V}(h:Bl cf ρ es st=.ok l st')(z:l.length=ks.length/\ks.Nodup/\ks.length<=15):iu cf ρ (.dct ks es) st=.ok (.dict (ks.zip l)) st':=by
 rw[auq,h,mq,aq9,bf z]
theorem aas{g':Ex}{i j:V}(hx:lk x ρ=some B)(k1:iu cf ρ g st=.ok i st)(s1:setB B i (.val u) st=some st')(k2:iu cf ρ g' st'=.ok j st')(s2:setB B j (.val v) st'=some st''):
 qe cf (.tup (.cons (.idx x g) (.cons (.idx x g') .nil))) (.tuple [u,v]) ρ st=.ok ρ st'':=by
 rw[ant,bf ⟨aj rfl,rfl⟩,aga,acv,hx,Ys,k1,mq,Qw,s1,ah5,mq,Yp,aga,acv,hx,Ys,k2,mq,Qw,s2,ah5,mq,Yp,aw7]
theorem amn{o:J8}{y:V}(h:iu cf ρ e st=.ok u st')(k:iu cf ρ g st'=.ok y st'')(z:xg o u y=some c):iu cf ρ (.cmp o e g) st=.ok (.bool c) st'':=by
 rw[awa,h,mq,ars,k,mq,aj0,z];rfl
theorem Ed{l:List V}(h:l.length<=1000000):itemsOf (.list l)=some l:=bf h
theorem Ow{s:Store}{l:List V}{r:Store}(h:l.length<=1000000):Gd (.cell s.length) none v (s++⟨true,.list l⟩::r)=some (s++⟨true,.list (l++[v])⟩::r):=(aza _ _ _ _).trans (bf h)
theorem Vo{l m:List V}(h:l.length+m.length<=1000000):Cd .add (.list l) (.list m)=some (.list (l++m)):=bf h
theorem Pr{l m:List UInt8}(h:l.length+m.length<=1000000):Cd .add (.bytes l) (.bytes m)=some (.bytes (l++m)):=bf h
theorem Ip(h:iu cf ρ e st=.ok v st')(z:Bq v=some u):iu cf ρ (.mkb e) st=.ok u st':=by rw[avx,h,mq,ard,z];rfl
theorem atl{y:V}{i:List UInt8}(h:iu cf ρ e st=.ok (.bytes i) st')(k:iu cf ρ g st'=.ok y st'')(z:Um (.bytes i) y=some v):iu cf ρ (.join e g) st=.ok v st'':=by
 rw[ap8,h,mq,ax3,k,mq,aph,z];rfl
theorem Zh(h:iu cf ρ e st=.ok v st')(z:Kv v=some u):iu cf ρ (.rng e) st=.ok u st':=by rw[axz,h,mq,aqz,z];rfl
theorem awn{y z:String}{i w':V}(hx:lk x ρ=some B)(k1:iu cf ρ g st=.ok i st)(s1:setB B i (.val u) st=some st'):
 qe cf (.tup (.cons (.idx x g) (.cons (.nm y) (.cons (.nm z) .nil)))) (.tuple [u,v,w']) ρ st=.ok (put z (.val w') (put y (.val v) ρ)) st':=by
 rw[ant,bf ⟨aj rfl,rfl⟩,aga,acv,hx,Ys,k1,mq,Qw,s1,ah5,mq,Yp,aga,Wg,mq,Yp,aga,Wg,mq,Yp,aw7]
theorem ao1{tg:Tg}{l:List V}(h:iu cf ρ e st=.ok v st')(hi:itemsOf v=some l)(hf:N6 cf can tg b l ρ st'=r):kF2 cf can ρ tg b (kb kF1 (iu cf ρ e st))=r:=by
 rw[h,mq,ago,hi,Qh,aik,hf]
theorem arf{tg:Tg}(h:kF2 cf can ρ tg b (kb kF1 (iu cf ρ e st))=r)(k:Sq W cf can ss r):W (dw cf can (.cons (.for tg e b) ss) ρ st):=by
 rw[agy,ahe,h];exact k
theorem aby{x':Exc}{o:BOp}(h:iu cf ρ e st=.ok u st')(k:iu cf ρ g st'=.exc x' st''):iu cf ρ (.bin o e g) st=.exc x' st'':=by
 rw[am8,h,mq,aix,k];rfl
theorem aqx{x':Exc}{es:Aq}(h:Bl cf ρ es st=.exc x' st'):iu cf ρ (.lst es) st=.exc x' st':=by rw[aox,h];rfl
theorem ag5{x':Exc}{i:Nat}{l:List V}(hx:lk x ρ=some (.cell i))(hi:st[i]? = some ⟨c,.list l⟩)(h:iu cf ρ e st=.exc x' st')(k:W (.exc x' st')):W (dw cf can (.cons (.app x none e) ss) ρ st):=by
 rw[ao3,aop,hx,anq,hi,an3,h];exact k
theorem aoq{l:List (String×V)}(h:iu cf ρ e st=.ok (.dict l) st')(z:l.length<=1000):iu cf ρ (.mkd e) st=.ok (.dict l) st':=by rw[ayg,h,mq,aq7,bf z]
theorem Td{y:String}:qe cf (.tup (.cons (.nm x) (.cons (.nm y) .nil))) (.tuple [u,v]) ρ st=.ok (put y (.val v) (put x (.val u) ρ)) st:=rfl
theorem lB(o:List UInt8)(h:o.length<=1000000):Nq (.val (.bytes o)) st=some (.int o.length):=bf h
theorem lL(l:List V)(h:l.length<=1000000):Nq (.val (.list l)) st=some (.int l.length):=bf h
theorem m6{β : Type}{ρ:List (String×β)}{B u : β}{x y:String}(h:¬x=y)(k:lk x ρ=some B):lk x (put y u ρ)=some B:=by rw[lkp,bx h];exact k
theorem Ce{β : Type}{ρ:List (String×β)}{u : β}{x:String}:lk x (put x u ρ)=some u:=by rw[lkp,bf rfl]
theorem Qe{a k:Nat}(h:iu cf ρ e st=.ok (.int a) st)(q:iu cf ρ g st=.ok (.int (P2 k)) st)(hk:a<2^k):ug cf ρ (.notE (.cmp2 .le .lt (.int 0) e g)) st=.ok false st:=by
 rw[s7 (Lw h q),fu (jy a),fu (Yo.2 hk)];rfl
theorem le_app{a b k:Nat}(h:a+b<=k):b<=k:=ak (iy _ _) h
theorem Vt{a b:Nat}(h:a<b):xg .lt (.int a) (.int b)=some true:=au some (fu (jw.2 h))
theorem I9{a b:Nat}(h:¬a<b):xg .lt (.int a) (.int b)=some false:=au some (ig λ q=>h (jw.1 q))
theorem amg{a b:Nat}(h:¬a=b):xg .eq (.int a) (.int b)=some false:=au some (ig λ q=>h (ju q))
theorem aae{a b:Nat}(h:¬a=b):xg .ne (.int a) (.int b)=some true:=au (λ c=>some !c) (ig λ q=>h (ju q):decide ((a:Int)=b)=false)
theorem ayr{a:Int}:xg .eq (.int a) (.int a)=some true:=au some (fu rfl)
theorem axd{a:Int}:xg .ne (.int a) (.int a)=some false:=au (λ c=>some !c) (fu rfl:decide (a=a)=true)
theorem am5{i:Int}{y:V}{st4:Store}(h:iu cf ρ e st=.ok (.int i) st')(k:iu cf ρ g st'=.ok y st'')(z:toB (.int i) y st''=.ok v st4):iu cf ρ (.tobytes e g) st=.ok v st4:=by
 rw[avn,h,mq,ari,k,ax0,z]
theorem an9{l:List UInt8}(h:iu cf ρ e st=.ok (.bytes l) st')(z:l.length<=1000):iu cf ρ (.frombytes e) st=.ok (.int (p7 l)) st':=by
 rw[ayh,h,mq,atv,bf z]
theorem awp{a:Nat}(h:iu cf ρ e st=.ok (.int a) st'):iu cf ρ (.bitlen e) st=.ok (.int (yj a)) st':=by
 rw[avf,h,mq,aqh,bf (jy a)];rfl
theorem awj{l:List V}(h:iu cf ρ e st=.ok (.list l) st')(z:l.length<=1000000):iu cf ρ (.rev e) st=.ok (.list l.reverse) st':=by
 rw[aya,h,mq,ar4];exact bf z
theorem avw{y:Ex}{o:R Bool}(h:ug cf ρ t st=.ok false st')(k:ug cf ρ y st'=o):ug cf ρ (.ife t e y) st=o:=by
 rw[ayo,h,mq,asj,k]
theorem aqw{l:List UInt8}(k:Nat)(h:l.length<=1000000)(hk:k<1000000000000):wk (.bytes l) none (some (.int k))=some (.bytes (l.take k)):=by
 rw[ak1,ai4,bf (show(k:Int).natAbs<1000000000000 from hk),<-ah6];exact bf h
theorem aut{l:List UInt8}(k:Nat)(h:l.length<=1000000)(hk:k<1000000000000):wk (.bytes l) (some (.int k)) none=some (.bytes (l.drop k)):=by
 rw[ak1,ai4,bf (show(k:Int).natAbs<1000000000000 from hk),<-atw];exact bf h
theorem of_lt{a b:Nat}(c:decide ((a:Int)<b)=true):a<b:=jw.1 (dh c)
theorem Br{a b:Nat}(c:decide ((a:Int)<b)=false):b<=a:=nj λ h=>mj c (jw.2 h)
theorem of_le{a b:Nat}(c:decide ((a:Int)<=b)=true):a<=b:=Int.ofNat_le.1 (dh c)
theorem aa0{a b:Nat}(c:decide ((a:Int)<=b)=false):b<a:=ur λ h=>mj c (Int.ofNat_le.2 h)
theorem t_z{l:List UInt8}(h:l.length<=1000000)(hx:lk x ρ=some (.val (.bytes l))):ug cf ρ (.cmp .eq (.slc (.nm x) .none (.some (.int 1))) (.byt [0])) st=.ok (decide (l.head? = some 0)) st:=
 jk (vf (dj hx) rfl rfl (aqw 1 h (by decide))) rfl ((au5 _ _).trans (au some (decide_eq_decide.mpr (iff_of_eq (take1 l)))))
end
theorem apo(n:Nat)(i:Int)(st:Store):CT (n+1) "led" [.val (.int i)] st=.ok (.int (i%P2 256)) st:=by
 rw[av8];refine(?_:Fin _ _ (dw _ _ ado.body _ _));exact jr (gk (dj rfl) (Cp Az) ((anc _ _).trans (bf (aqk 256)))) mz
theorem Iw(n:Nat)(a:Nat)(h:a<2^256)(st:Store):CT (n+2) "word_octets" [.val (.int a)] st=.ok (.bytes (yh 32 a)) st:=by
 rw[S7];refine(?_:Fin _ _ (dw _ _ Cw.body _ _));have h1:=apo n a st;rw[Int.emod_eq_of_lt (jy a) (Yo.2 h)]at h1;exact jr (am5 (gj (b_1 (gw rfl) rfl) h1) rfl (arx a h st)) mz
theorem Ae(n:Nat)(a:Nat)(hb:(yj a+7)/8<=1000)(st:Store):CT (n+1) "number_octets" [.val (.int a)] st=.ok (.bytes (nb a)) st:=by
 rw[P0];refine(?_:Fin _ _ (dw _ _ Ax.body _ _));refine su (jk (dj rfl) rfl (I9 (b:=0) (Nat.not_lt_zero a))) ?_;rw[<-Wn];exact jr (am5 (dj rfl) (gk (gk (awp (dj rfl)) rfl rfl) rfl rfl) (ab7 a _ (ak8 a) hb st)) mz
theorem Gs(n:Nat)(l:List UInt8)(hl:l.length<=1000)(h:l.head?≠some 0)(st:Store):CT (n+1) "octets_number" [.val (.bytes l)] st=.ok (.int (p7 l)) st:=by
 rw[Ig];refine(?_:Fin _ _ (dw _ _ zq.body _ _));exact uz (t_z (ak hl (by decide)) rfl) (λ c=>absurd (dh c) h) λ _=>jr (an9 (dj rfl) hl) mz
theorem Eh(n:Nat)(l:List UInt8)(hl:l.length<=1000)(h:l.head? = some 0)(st:Store):CT (n+5) "octets_number" [.val (.bytes l)] st=.exc .rlp st:=by
 rw[Ig];refine(?_:Fin _ _ (dw _ _ zq.body _ _));exact uz (t_z (ak hl (by decide)) rfl) (λ _=>za (z8 uy)) λ c=>absurd h (mj c)
theorem Rf(n:Nat)(l:List UInt8)(hl:l.length<=32)(st:Store):CT (n+1) "octets_word" [.val (.bytes l)] st=.ok (.int (p7 l)) st:=by
 rw[Tj];refine(?_:Fin _ _ (dw _ _ Cr.body _ _));have z:wk (.bytes l) (some (.int (-32))) none=some (.bytes l):=by
  rw[ak1,ai4,bf (by decide)]
  exact(bf (ak hl (by decide))).trans (au (λ l=>some (V.bytes l)) (akt l hl))
 exact jr (an9 (vf (dj rfl) rfl rfl z) (ak hl (by decide))) mz
theorem ae9(a:Nat):(yh 32 a).drop 12=yh 20 a:=by
 have gen:∀k j a,(yh (k+j) a).drop k=yh j a:=by
  intro k j
  induction j with
  |zero=>intro a;simp[yh,Ar]
  |succ j ih=>
   intro a;rw[<-jt,yh,yh,List.drop_append_of_le_length (by rw[Ar];lia),ih]
 exact gen 12 20 a
theorem Fg(n:Nat)(a:Nat)(h:a<2^160)(st:Store):CT (n+3) "address_octets" [.val (.int a)] st=.ok (.bytes (yh 20 a)) st:=by
 rw[Nv];refine(?_:Fin _ _ (dw _ _ Af.body _ _));have z:=aut (l:=yh 32 a) 12 (by rw[Ar];decide) (by decide)
 rw[ae9]at z;exact su (Qe (dj rfl) (Cp Lp) h) (jr (vf (gj (b_1 (gw rfl) rfl) (Iw n a (cu h (u6 (by decide) (by decide))) st)) rfl rfl z) mz)
theorem Ep(low size:Nat)(h:size<=55):hd low size=[(low+size).toUInt8]:=bf h
theorem Fb(low size:Nat)(h:¬size<=55):hd low size=(low+55+(nb size).length).toUInt8::nb size:=bx h
theorem Ej(size:Nat)(h:size<=1000000):(nb size).length<=3:=Vv size 3 (fj h (by decide))
theorem acf(n:Nat)(low size:Nat)(hl:low<=192)(h:size<=1000000)(st:Store):CT (n+2) "head" [.val (.int low),.val (.int size)] st=.ok (.bytes (hd low size)) st:=by
 rw[ar7];refine(?_:Fin _ _ (dw _ _ Wi.body _ _));refine uz (jk (dj rfl) rfl rfl) (λ c=>?_) λ c=>?_
 ·have q:size<=55:=Int.ofNat_le.1 (dh c);rw[Ep _ _ q];exact jr (Ip (qt (s_1 (gk (dj rfl) (dj rfl) rfl) rfl) (aj rfl)) (mk1 (fj (j7 hl q) (by decide)))) (zc mz)
 ·have q:¬size<=55:=λ q=>mj c (Int.ofNat_le.2 q);have h3:=Ej size h;have h4:=ak h3 (by decide : 3<=1000000)
  rw[Fb _ _ q];refine qb rfl (gj (b_1 (gw rfl) rfl) (Ae n size (Rg (k:=3) (fj h (by decide)) (by decide)) st)) ?_
  exact jr (gk (Ip (qt (s_1 (gk (gk (dj rfl) rfl rfl) (ux (gw rfl) (lB _ h4)) rfl) rfl) (aj rfl)) (mk1 (fj (j7 (jg hl 55) h3) (by decide)))) (dj rfl) (Pr (ak (jh h3 1) (by decide)))) mz
noncomputable def ad5:Ex:=.ife (.cmp .lt (.nm "law_many") (.int 0)) (.cmp .gt (.nm "law_number") (.int 0)) (.cmp .lt (.len (.nm "law_gained")) (.nm "law_many"))
noncomputable def ao7:u9:=(.cons (.app "law_gained" none (.bin .mod (.nm "law_number") (.int 256)))
 (.cons (.asg (.nm "law_number") (.bin .fdiv (.nm "law_number") (.int 256)))
 .nil))
theorem ah2{α : Type}{g:List α}{n k:Nat}{x : α}(h:g.length+(n+1)<=k):(g++[x]).length+n<=k:=by
 rw[cg,jt,j6 _ n];exact h
theorem ax7(a:Nat):V.int (((a%256).toUInt8.toNat:Nat):Int)=.int ((a%256:Nat):Int):=au (λ k:Nat=>V.int k) (Nat.mod_mod a 256)
theorem ang(g:List V)(a:Nat)(l:List UInt8):g++[V.int ((a%256:Nat):Int)]++l.reverse.map (λ c=>V.int c.toNat)=g++(l++[(a%256).toUInt8]).reverse.map (λ c=>V.int c.toNat):=by
 rw[List.reverse_append,jc,<-ax7];rfl
theorem K7(cf:CF)(can:Bool)(st:Store):∀(n a:Nat)(g:List V),a<256^n->g.length+n<=1000->∀m,n<m->
 whl cf can ad5 ao7 m [("law_number",.val (.int a)),("law_many",.val (.int (-1))),("law_gained",.cell st.length)] (st++[⟨true,.list g⟩])
 = .ok (.next [("law_number",.val (.int 0)),("law_many",.val (.int (-1))),("law_gained",.cell st.length)]) (st++[⟨true,.list (g++(nb a).reverse.map λ c=>.int c.toNat)⟩])
 |n,a,g,ha,hg,0,hm=>nomatch hm
 |n,a,g,ha,hg,m+1,hm=>by
  by_cases h0:a=0
  ·subst h0;rw[Dw];exact(akr rfl).trans (au (λ l=>R.ok _ (st++[⟨true,.list l⟩])) (jo g).symm)
  ·cases n with
   |zero=>exact absurd (Nat.lt_one_iff.mp ha) h0
   |succ n=>
    have h3:=K7 cf can st n (a/256) (g++[.int (a%256:Nat)]) (Nat.div_lt_of_lt_mul (by rw[Nat.mul_comm];exact ha)) (ah2 hg) m (Nat.lt_of_succ_lt_succ hm)
    rw[ang,<-Ji h0]at h3;have ht:ug cf [("law_number",.val (.int a)),("law_many",.val (.int (-1))),("law_gained",.cell st.length)] ad5 (st++[⟨true,.list g⟩])=.ok (decide ((0:Int)<a)) (st++[⟨true,.list g⟩]):=rfl;rw[fu (Int.natCast_pos.2 (Nat.pos_of_ne_zero h0))]at ht;exact ae8 ht (K6 rfl (tu _ _ _) (gk (dj rfl) rfl rfl) (Ow (ak (dz _ _) (ak hg (by decide)))) (qb rfl (gk (dj rfl) rfl rfl) (yd (al4 h3))))
theorem adn{cf:CF}{st:Store}{ρ:Loc}{l:List UInt8}{can:Bool}(h:lk "law_gained" ρ=some (.cell st.length))(hl:l.length<=1000000):
 Fin st.length (.ok (.bytes l) st) (dw cf can (.cons (.ret (.mkb (.rev (.nm "law_gained")))) .nil) ρ (st++[⟨true,.list (l.reverse.map λ c=>.int c.toNat)⟩])):=by
 refine jr (Ip (awj (Nk h (aa4 _ _ _ _)) (by rw[bw,List.length_reverse];exact hl)) ?_) Bo
 rw[<-List.map_reverse,List.reverse_reverse];exact ace l hl
theorem Jd(n:Nat)(a k:Nat)(h:a<256^k)(hk:k<=1000)(st:Store):CT (n+1) "_law_figures" [.val (.int a),.val (.int (-1))] st=.ok (.bytes (nb a)) st:=by
 rw[J1];refine(?_:Fin _ _ (dw _ _ Av.body _ _));exact Di rfl rfl rfl (Qt (K7 (CT n) _ st k a [] h (by rw[List.length_nil,lg];exact hk) 100000 (fj hk (by decide))) (Bu (adn rfl (ak (Vv a k h) (ak hk (by decide))))))
theorem Mq(cf:CF)(can:Bool)(st:Store)(k:Nat)(hk:k<=1000):∀(j:Nat)(a:Nat)(g:List V),g.length+j=k->∀m,j<m->
 ∃b:Int,whl cf can ad5 ao7 m [("law_number",.val (.int a)),("law_many",.val (.int k)),("law_gained",.cell st.length)] (st++[⟨true,.list g⟩])
 = .ok (.next [("law_number",.val (.int b)),("law_many",.val (.int k)),("law_gained",.cell st.length)]) (st++[⟨true,.list (g++(yh j a).reverse.map λ c=>.int c.toNat)⟩])
 |j,a,g,hg,0,hm=>nomatch hm
 |j,a,g,hg,m+1,hm=>by
  have h1:g.length<=1000000:=ak (dz _ j) (ak (Nat.le_of_eq hg) (ak hk (by decide)))
  have ht:∀{a:Int}{c:Bool},xg .lt (.int g.length) (.int k)=some c->ug cf [("law_number",.val (.int a)),("law_many",.val (.int k)),("law_gained",.cell st.length)] ad5 (st++[⟨true,.list g⟩])=.ok c (st++[⟨true,.list g⟩]):=λ h=>
   avw (jk (dj rfl) rfl (I9 (b:=0) (Nat.not_lt_zero k))) (jk (ux (gw rfl) ((azv st true g []).trans (bf h1))) (dj rfl) h)
  cases j with
  |zero=>exact⟨a,(akr (ht (I9 (jx.2 (Nat.le_of_eq hg.symm))))).trans (au (λ l=>R.ok _ (st++[⟨true,.list l⟩])) (jo g).symm)⟩
  |succ j=>
   obtain⟨b,h3⟩:=Mq cf can st k hk j (a/256) (g++[.int (a%256:Nat)]) (by rw[cg,jt,j6 _ j];exact hg) m (Nat.lt_of_succ_lt_succ hm)
   rw[ang]at h3;exact⟨b,ae8 (ht (Vt (hg▸Nat.lt_add_of_pos_right (Nat.succ_pos j)))) (K6 rfl (tu _ _ _) (gk (dj rfl) rfl rfl) (Ow h1) (qb rfl (gk (dj rfl) rfl rfl) (yd (al4 h3))))⟩
theorem Em(n:Nat)(a k:Nat)(hk:k<=1000)(st:Store):CT (n+1) "_law_figures" [.val (.int a),.val (.int k)] st=.ok (.bytes (yh k a)) st:=by
 rw[J1];refine(?_:Fin _ _ (dw _ _ Av.body _ _));obtain⟨b,h1⟩:=Mq (CT n) (decide (4<=n)) st k hk k a [] (lg k) 100000 (fj hk (by decide))
 exact Di rfl rfl rfl (Qt h1 (Bu (adn rfl (by rw[Ar];exact ak hk (by decide)))))
noncomputable def aep(l:List UInt8)(bound:Nat):Option Nat:=if l.head? = some 0 then none else if p7 l<bound then some (p7 l)else none
noncomputable def yp(x:It)(bound:Nat):Option Nat:=match x with
 |.b l=>aep l bound
 |.l _=>none
noncomputable def Ey(x:It)(size:Nat):Option Nat:=match x with
 |.b l=>if l.length=size then some (p7 l)else none
 |.l _=>none
noncomputable def oV(o:Option Nat):V:=match o with
 |some a=>.int a
 |none=>.none
noncomputable def avh:u9:=(.cons (.asg (.nm "law_number") (.bin .add (.bin .mul (.nm "law_number") (.int 256)) (.nm "law_figure"))) .nil)
theorem Yu(cf:CF)(can:Bool)(st:Store):∀(l:List UInt8)(a:Nat)(ρ:Loc),lk "law_number" ρ=some (.val (.int a))->
 ∃ρ',N6 cf can (.nm "law_figure") avh (l.map λ c=>.int c.toNat) ρ st=.ok (.next ρ') st/\lk "law_number" ρ'=some (.val (.int (a*256^l.length+p7 l:Nat)))/\lk "law_bound" ρ'=lk "law_bound" ρ
 |[],a,ρ,h=>⟨ρ,rfl,h.trans (au (λ k:Nat=>some (qp.val (.int k))) (Nat.mul_one a).symm),rfl⟩
 |b::r,a,ρ,h=>by
  obtain⟨ρ',h1,h2,h3⟩:=Yu cf can st r (a*256+b.toNat) (put "law_number" (.val (.int (a*256+b.toNat:Nat))) (put "law_figure" (.val (.int b.toNat)) ρ)) Ce;refine⟨ρ',Dh rfl (qb rfl (gk (gk (dj (m6 (by decide) h)) rfl ((ajb _ _).trans (bf (.inr (by decide))))) (dj Ce) rfl) (yd (Nu h1))),?_,h3.trans ((lkp ..).trans ((bx (by decide)).trans ((lkp ..).trans (bx (by decide)))))⟩
  rw[h2,Kg,pq,Nat.pow_succ,Nat.add_mul,Nat.mul_assoc,Nat.mul_comm 256,jt]
theorem Ja(n:Nat)(l:List UInt8)(hl:l.length<=1000000)(bound:Nat)(st:Store):CT (n+1) "_law_number" [.val (.bytes l),.val (.int bound)] st
 = .ok (oV (if l.head? = some 0 then none else if p7 (l.take 40)<bound then some (p7 (l.take 40))else none)) st:=by
 rw[M9];refine(?_:Fin _ _ (dw _ _ Dv.body _ _));refine uz (Aw (c:=false) rfl λ _=>Aw (c:=false) rfl λ _=>Zj (t_z hl rfl)) (λ c=>?_) λ c=>?_
 ·rw[bf (dh c)];exact jr rfl (zc mz)
 ·rw[bx (mj c)];obtain⟨ρ,h1,h2,h3⟩:=Yu (CT n) (decide (4<=n)) st (l.take 40) 0 [("law_item",.val (.bytes l)),("law_bound",.val (.int bound)),("law_number",.val (.int 0))] rfl;rw[Nat.zero_mul,lg]at h2;refine qb rfl rfl (Dg (vf (dj rfl) rfl rfl (aqw 40 hl (by decide))) (bf (ak (List.length_take_le _ _) (by decide))) h1 (Bu ?_))
  by_cases q:p7 (l.take 40)<bound
  ·rw[bf q];exact jr (yu (jk (dj h2) (dj h3) (Vt q)) (dj h2)) mz
  ·rw[bx q];exact jr (wg (jk (dj h2) (dj h3) (I9 q)) rfl) mz
theorem X3(n:Nat)(l:List V)(b:V)(st:Store):CT (n+1) "_law_number" [.val (.list l),.val b] st=.ok .none st:=by
 rw[M9];exact mz
theorem big{l:List UInt8}{k bound:Nat}(h:l.head?≠some 0)(hl:k+1<=l.length)(hb:bound<=256^k):¬p7 l<bound:=by
 cases l with
 |nil=>exact nomatch hl
 |cons c r=>exact jx.2 (ak hb (ak (u6 (by decide) (o8 hl)) (Zr c r λ e=>h (au some e))))
theorem ar6(l:List UInt8)(h:l.head?≠some 0)(bound:Nat)(hb:bound<=256^39):(if p7 (l.take 40)<bound then some (p7 (l.take 40))else none)=(if p7 l<bound then some (p7 l)else none):=by
 by_cases hl:l.length<=40
 ·rw[qg hl]
 ·have hl : 40<=l.length:=Nat.le_of_not_le hl;rw[bx (big h hl hb),bx (big (by rw[List.head?_take];exact h) (by rw[List.length_take];exact Nat.le_min.2 ⟨jf _,hl⟩) hb)]
theorem afn(n:Nat)(x:It)(hx:∀l,x=.b l->l.length<=1000000)(bound:Nat)(hb:bound<=256^39)(st:Store):CT (n+1) "_law_number" [.val x.v,.val (.int bound)] st=.ok (oV (yp x bound)) st:=by
 cases x with
 |b l=>
  rw[Ox,Ja _ _ (hx l rfl),yp,aep]
  by_cases h:l.head? = some 0
  ·rw[bf h,bf h]
  ·rw[bx h,bx h,ar6 l h bound hb]
 |l xs=>rw[Nj,X3];rfl
theorem alo(q u:Nat):((q+u:Nat):Int)-(q:Nat)=u:=by rw[Int.natCast_add,Int.add_comm,Int.add_sub_cancel]
theorem Ml(n:Nat)(x:It)(hx:∀l,x=.b l->l.length<=1000000)(size:Nat)(hs:size=20\/size=32)(st:Store):CT (n+2) "_law_fixed" [.val x.v,.val (.int size)] st=.ok (oV (Ey x size)) st:=by
 rw[Yy];refine(?_:Fin _ _ (dw _ _ Fe.body _ _));cases x with
 |l xs=>rw[Nj];exact mz
 |b l=>
  rw[Ox,Ey];have h:=hx l rfl
  by_cases h1:l.length=size
  ·rw[bf h1];subst h1;have hk:l.length<=32:=by rcases hs with e|e<;>rw[e]<;>decide
   have h3:=Ja n (1::l) (ak (qj hk) (by decide)) (2^400) st
   have h6 : 256^l.length+p7 l<2^400:=cu (Nat.add_lt_add_of_le_of_lt (u6 (by decide) hk) (cu (Jm l) (u6 (by decide) hk))) (by decide)
   rw[qg (ak (qj hk) (by decide)),Kg,show(1:UInt8).toNat=1 from rfl,Nat.one_mul,bx (λ h=>nomatch h),bf h6]at h3
   have hp:Cd .pow (.int 256) (.int l.length)=some (.int ((256^l.length:Nat):Int)):=by
    rcases hs with e|e<;>rw[e]
    ·exact ajy
    ·exact aki
   exact su (Dn (c:=false) (d:=false) rfl (jk (ux (gw rfl) (lB _ h)) (dj rfl) axd)) (jr (gk (gj (b_1 (v7 rfl (gk rfl (dj rfl) (Pr (ak (jh hk 1) (by decide))))) (b_1 (v7 rfl (gk rfl rfl arl)) rfl)) h3) (gk rfl (dj rfl) hp) (au (λ i=>some (V.int i)) (alo _ _))) mz)
  ·rw[bx h1];exact v9 (Dn (c:=false) (d:=true) rfl (jk (ux (gw rfl) (lB _ h)) (dj rfl) (aae h1))) (jr rfl (zc mz))
theorem Rv(n:Nat)(x:It)(hx:∀l,x=.b l->l.length<=1000000)(bound:Nat)(hb:bound<=256^34)(st:Store):CT (n+6) "read_number" [.val x.v,.val (.int bound)] st =
 match yp x bound with|some a=>.ok (.int a) st|none=>.exc .rlp st:=by
 rw[T4];refine(?_:Fin _ _ (dw _ _ Cq.body _ _));cases x with
 |l xs=>rw[Nj];exact uy
 |b l=>
  rw[Ox,yp,aep];have h:=hx l rfl;refine su (st':=st) rfl ?_
  by_cases h0:l.head? = some 0
  ·rw[bf h0];exact uz (jk (ux (gw rfl) (lB _ h)) rfl rfl) (λ _=>za (z8 uy)) λ c=>K1 rfl (gj (b_1 (gw rfl) rfl) (Eh n l (ak (nj λ q=>mj c (jw.2 q)) (by decide : 34<=1000)) h0 st)) uy
  ·rw[bx h0];refine uz (jk (ux (gw rfl) (lB _ h)) rfl rfl) (λ c=>?_) λ c=>?_
   ·rw[bx (big h0 (jw.1 (dh c):34<l.length) hb)];exact za (z8 uy)
   ·refine qb rfl (gj (b_1 (gw rfl) rfl) (Gs (n+4) l (ak (nj λ q=>mj c (jw.2 q)) (by decide : 34<=1000)) h0 st)) ?_
    refine uz (jk (dj rfl) (dj rfl) rfl) (λ c=>?_) λ c=>?_
    ·rw[bx (jx.2 (Int.ofNat_le.1 (dh c)))];exact za (z8 uy)
    ·rw[bf (ur λ q=>mj c (Int.ofNat_le.2 q))];exact jr (dj rfl) mz
theorem Gh(n:Nat)(x:It)(hx:∀l,x=.b l->l.length<=1000000)(size:Nat)(hs:size<=32)(st:Store):CT (n+5) "read_fixed" [.val x.v,.val (.int size)] st =
 match Ey x size with|some a=>.ok (.int a) st|none=>.exc .rlp st:=by
 rw[Wc];refine(?_:Fin _ _ (dw _ _ Dy.body _ _));cases x with
 |l xs=>rw[Nj];exact uy
 |b l=>
  rw[Ox,Ey];have h:=hx l rfl
  by_cases h1:l.length=size
  ·rw[bf h1];subst h1;exact su (Dn (c:=false) (d:=false) rfl (jk (ux (gw rfl) (lB _ h)) (dj rfl) axd)) (jr (gj (b_1 (gw rfl) rfl) (Rf (n+3) l hs st)) mz)
  ·rw[bx h1];exact v9 (Dn (c:=false) (d:=true) rfl (jk (ux (gw rfl) (lB _ h)) (dj rfl) (aae h1))) (za (z8 uy))
noncomputable def Zx(o:List UInt8)(p m:Nat):Option Nat:=
 if o.length<p+m then none else
 if((o.drop p).take m).head? = some 0 then none else
 if p7 ((o.drop p).take m)<=55 then none else some (p7 ((o.drop p).take m))
noncomputable def hdr(o:List UInt8)(at_:Nat):Option (Bool×Nat×Nat):=
 match o[at_]? with
 |none=>none
 |some c=>
  if c.toNat<128 then some (false,at_,at_ + 1)else
  let z:=c.toNat-(if 192<=c.toNat then 192 else 128)
  if z<=55 then
   if o.length<at_ + 1+z then none else
   if c.toNat<192/\z=1/\(o[at_ + 1]?.getD 0).toNat<128 then none else some (decide (192<=c.toNat),at_ + 1,at_ + 1+z)
  else match Zx o (at_ + 1) (z-55)with
   |none=>none
   |some w=>if o.length<at_ + 1+(z-55)+w then none else some (decide (192<=c.toNat),at_ + 1+(z-55),at_ + 1+(z-55)+w)
noncomputable def DL(f:Nat->Option (It×Nat)):Nat->Nat->Nat->List It->Option (List It)
 |0,_,_,_=>none
 |k+1,s,e,acc=>if s<e then(match f s with
  |none=>none
  |some (x,s')=>DL f k s' e (acc++[x]))else if s=e then some acc else none
noncomputable def D:Nat->List UInt8->Nat->Option (It×Nat)
 |0,_,_=>none
 |n+1,o,at_=>match hdr o at_ with
  |none=>none
  |some (false,s,e)=>some (.b ((o.drop s).take (e-s)),e)
  |some (true,s,e)=>(DL (D n o) (e-s+1) s e []).map λ xs=>(.l xs,e)
theorem amv(f:Nat->Option (It×Nat))(k s e:Nat)(acc:List It):DL f (k+1) s e acc=if s<e then(match f s with
 |none=>none
 |some (x,s')=>DL f k s' e (acc++[x]))else if s=e then some acc else none:=rfl
theorem D_1(n:Nat)(o:List UInt8)(p:Nat):D (n+1) o p=match hdr o p with
 |none=>none
 |some (false,s,e)=>some (.b ((o.drop s).take (e-s)),e)
 |some (true,s,e)=>(DL (D n o) (e-s+1) s e []).map λ xs=>(.l xs,e):=rfl
theorem aal{f:Nat->Option (It×Nat)}{k s e:Nat}{acc xs:List It}(h:DL f (k+1) s e acc=some xs):(∃x s',f s=some (x,s')/\DL f k s' e (acc++[x])=some xs)\/(s=e/\acc=xs):=by
 rw[amv]at h
 by_cases q:s<e
 ·rw[bf q]at h;cases hf:f s with
  |none=>rw[hf]at h;exact nomatch h
  |some a=>rw[hf]at h;exact .inl ⟨a.1,a.2,rfl,h⟩
 ·rw[bx q]at h
  by_cases r:s=e
  ·rw[bf r]at h;exact .inr ⟨r,ao h⟩
  ·rw[bx r]at h;exact nomatch h
theorem aiy{m:Nat}{o:List UInt8}{p e:Nat}{x:It}(h:D (m+1) o p=some (x,e)):∃s,(hdr o p=some (false,s,e)/\x=.b ((o.drop s).take (e-s)))\/∃xs,hdr o p=some (true,s,e)/\x=.l xs/\DL (D m o) (e-s+1) s e []=some xs:=by
 rw[D_1]at h;cases hh:hdr o p with
 |none=>rw[hh]at h;exact nomatch h
 |some q=>
  obtain⟨b,s,e'⟩:=q;rw[hh]at h;cases b with
  |false=>obtain⟨rfl,rfl⟩:=Prod.mk.inj (ao h);exact⟨s,.inl ⟨rfl,rfl⟩⟩
  |true=>
   obtain⟨xs,h1,h2⟩:=uc.mp h;obtain⟨rfl,rfl⟩:=Prod.mk.inj h2;exact⟨s,.inr ⟨xs,rfl,rfl,h1⟩⟩
theorem azs(o:List UInt8)(i:Nat)(h:o.length<=1000000):zp (.bytes o) (.int i)=(o[i]?).map λ c=>.int c.toNat:=by
 exact bf ⟨jy i,h⟩
theorem J7(o:List UInt8)(i:Nat)(c:UInt8)(h:o.length<=1000000)(hc:o[i]? = some c):zp (.bytes o) (.int i)=some (.int c.toNat):=by
 rw[azs o i h,hc];rfl
theorem Xb(o:List UInt8)(s e:Nat)(i j:Int)(hi:i=s)(hj:j=e)(ho:o.length<=1000000)(hs:s<=1000000)(he:e<=1000000):
 wk (.bytes o) (some (.int i)) (some (.int j))=some (.bytes ((o.drop s).take (e-s))):=by
 subst hi hj;rw[ak1,ai4,ai4,bf (show(s:Int).natAbs<1000000000000 from fj hs (by decide)),bf (show(e:Int).natAbs<1000000000000 from fj he (by decide))]
 exact(bf ho).trans (au (λ l=>some (V.bytes l)) (apr ..))
theorem adx(o:List UInt8)(s:Nat)(i:Int)(hi:i=s)(ho:o.length<=1000000)(hs:s<=1000000):
 wk (.bytes o) (some (.int i)) none=some (.bytes (o.drop s)):=by
 subst hi;exact aut s ho (fj hs (by decide))
theorem ac9(o:List UInt8)(e:Nat)(i:Int)(hi:i=e)(ho:o.length<=1000000)(he:e<=1000000):
 wk (.bytes o) none (some (.int i))=some (.bytes (o.take e)):=by
 subst hi;exact aqw e ho (fj he (by decide))
theorem Vl(n:Nat)(o:List UInt8)(p m:Nat)(ho:o.length<=1000000)(hm:m<=8)(st:Store):
 CT (n+6) "read_size" [.val (.bytes o),.val (.int p),.val (.int m)] st=match Zx o p m with|some w=>.ok (.int w) st|none=>.exc .rlp st:=by
 rw[Xw];refine(?_:Fin _ _ (dw _ _ Ga.body _ _));unfold Zx;refine uz (jk (gk (dj rfl) (dj rfl) (show _ = some (V.int ((p+m:Nat):Int)) from rfl)) (ux (gw rfl) (lB o ho)) rfl) (λ c=>?_) λ c=>?_
 ·rw[bf (of_lt c)];exact za (z8 uy)
 ·have h1:=ak (Br c) ho;rw[bx (jx.2 (Br c))];have h3:=Xb o p (p+m) p (p+m:Nat) rfl rfl ho (ak (dz _ _) h1) h1;rw[jm]at h3;have ht:((o.drop p).take m).length<=1000:=ak (List.length_take_le _ _) (ak hm (by decide))
  by_cases h4:((o.drop p).take m).head? = some 0
  ·rw[bf h4];exact K1 rfl (gj (b_1 (v7 rfl (vf (dj rfl) (zj (dj rfl)) (zj (gk (dj rfl) (dj rfl) rfl)) h3)) rfl) (Eh n _ ht h4 st)) uy
  ·rw[bx h4];refine qb rfl (gj (b_1 (v7 rfl (vf (dj rfl) (zj (dj rfl)) (zj (gk (dj rfl) (dj rfl) rfl)) h3)) rfl) (Gs (n+4) _ ht h4 st)) ?_;refine uz (jk (dj rfl) rfl rfl) (λ c=>?_) λ c=>?_
   ·rw[bf (of_le (b:=55) c)];exact za (z8 uy)
   ·rw[bx (Nat.not_le.2 (aa0 (b:=55) c))];exact jr (dj rfl) mz
noncomputable def hV(o:Option (Bool×Nat×Nat))(st:Store):R V:=match o with
 |some (b,s,e)=>.ok (.tuple [.bool b,.int s,.int e]) st
 |none=>.exc .rlp st
theorem nf{α : Type}{c:Prop}[Decidable c]{x:Option α}{y : α}(h:(if c then none else x)=some y):¬c/\x=some y:=by
 by_cases q:c
 ·rw[bf q]at h;exact nomatch h
 ·rw[bx q]at h;exact⟨q,h⟩
theorem aaj{o:List UInt8}{p m w:Nat}(h:Zx o p m=some w):55<w/\p+m<=o.length:=by
 obtain⟨h1,h⟩:=nf h;obtain⟨h2,h⟩:=nf h;obtain⟨h3,h⟩:=nf h;exact⟨ao h▸ur h3,nj h1⟩
theorem aqt{o:List UInt8}{p m w:Nat}(h:Zx o p m=some w):nb w=(o.drop p).take m/\(nb w).length=m:=by
 obtain⟨h1,h⟩:=nf h;obtain⟨h2,h⟩:=nf h;obtain⟨_,h⟩:=nf h;have e:nb w=(o.drop p).take m:=ao h▸Yb _ h2;exact⟨e,by rw[e,List.length_take_of_le (by rw[nq];exact Nat.le_sub_of_add_le' (nj h1))]⟩
theorem X5{o:List UInt8}{p:Nat}{c:UInt8}(hc:o[p]? = some c)(h:c.toNat<128):hdr o p=some (false,p,p+1):=by
 unfold hdr;rw[hc];exact bf h
theorem adg{o:List UInt8}{p:Nat}(hc:o[p]? = none):hdr o p=none:=by
 unfold hdr;rw[hc]
theorem z63{b:UInt8}{z:Nat}(hz:b.toNat-(if 192<=b.toNat then 192 else 128)=z):z<=63:=by
 rw[<-hz]
 by_cases q : 192<=b.toNat
 ·rw[bf q];exact Nat.sub_le_of_le_add (m7 (cu b.toNat_lt (by decide)))
 ·rw[bx q];exact Nat.sub_le_of_le_add (m7 (ur q:b.toNat<191+1))
theorem Uh{o:List UInt8}{p z:Nat}{c:UInt8}(hc:o[p]? = some c)(h:¬c.toNat<128)(hz:c.toNat-(if 192<=c.toNat then 192 else 128)=z)(h5:¬z<=55):hdr o p=match Zx o (p+1) (z-55)with
 |none=>none
 |some w=>if o.length<p+1+(z-55)+w then none else some (decide (192<=c.toNat),p+1+(z-55),p+1+(z-55)+w):=by
 subst hz;unfold hdr;rw[hc];exact(bx h).trans (bx h5)
theorem Zq{o:List UInt8}{p z:Nat}{c:UInt8}(hc:o[p]? = some c)(h:¬c.toNat<128)(hz:c.toNat-(if 192<=c.toNat then 192 else 128)=z)(h5:z<=55):hdr o p=if o.length<p+1+z then none else if c.toNat<192/\z=1/\(o[p+1]?.getD 0).toNat<128 then none else some (decide (192<=c.toNat),p+1,p+1+z):=by
 subst hz;unfold hdr;rw[hc];exact(bx h).trans (bf h5)
noncomputable def aul:u9:=(.cons (.ifs (.cmp .gt (.bin .add (.nm "start") (.nm "size")) (.len (.nm "octets"))) (.cons (.rai .rlp)
 .nil) .nil)
 (.cons (.ifs (.andE (.cons (.notE (.nm "is_list")) (.cons (.cmp .eq (.nm "size") (.int 1)) (.cons (.cmp .eq (.nm "start") (.bin .add (.nm "place") (.int 1))) (.cons (.cmp .lt (.idx (.nm "octets") (.nm "start")) (.gl "OCTETS_rlp")) .nil))))) (.cons (.rai .rlp)
  .nil) .nil)
 (.cons (.ret (.tup (.cons (.nm "is_list") (.cons (.nm "start") (.cons (.bin .add (.nm "start") (.nm "size")) .nil)))))
 .nil)))
theorem al5:Fj.body=(.cons (.ifs (.cmp .ge (.nm "place") (.len (.nm "octets"))) (.cons (.rai .rlp)
 .nil) .nil)
 (.cons (.asg (.nm "first") (.idx (.nm "octets") (.nm "place")))
 (.cons (.ifs (.cmp .lt (.nm "first") (.gl "OCTETS_rlp")) (.cons (.ret (.tup (.cons (.boo false) (.cons (.nm "place") (.cons (.bin .add (.nm "place") (.int 1)) .nil)))))
  .nil) .nil)
 (.cons (.asg (.nm "is_list") (.cmp .ge (.nm "first") (.gl "LIST")))
 (.cons (.asg (.tup (.cons (.nm "size") (.cons (.nm "start") .nil))) (.tup (.cons (.bin .sub (.nm "first") (.ife (.nm "is_list") (.gl "LIST") (.gl "OCTETS_rlp"))) (.cons (.bin .add (.nm "place") (.int 1)) .nil))))
 (.cons (.ifs (.cmp .gt (.nm "size") (.gl "SHORT")) (.cons (.asg (.nm "many") (.bin .sub (.nm "size") (.gl "SHORT")))
  (.cons (.asg (.tup (.cons (.nm "size") (.cons (.nm "start") .nil))) (.tup (.cons (.call "read_size" (.cons (.nm "octets") (.cons (.nm "start") (.cons (.nm "many") .nil)))) (.cons (.bin .add (.nm "start") (.nm "many")) .nil))))
  .nil)) .nil) aul)))))):=rfl
theorem ahv(n:Nat)(o:List UInt8)(ho:o.length<=1000000)(p s w:Nat)(bl:Bool)(ρ:Loc)(st:Store)(g1:lk "octets" ρ=some (.val (.bytes o)))(g2:lk "place" ρ=some (.val (.int p)))(g3:lk "is_list" ρ=some (.val (.bool bl)))
 (g4:lk "start" ρ=some (.val (.int s))) (g5:lk "size" ρ=some (.val (.int w))):
 Fin st.length (hV (if o.length<s+w then none else if bl=false/\w=1/\s=p+1/\(o[s]?.getD 0).toNat<128 then none else some (bl,s,s+w)) st) (dw (CT n) true aul ρ st):=by
 have es:iu (CT n) ρ (.bin .add (.nm "start") (.nm "size")) st=.ok (.int ((s+w:Nat):Int)) st:=gk (dj g4) (dj g5) rfl;refine uz (jk es (ux (gw g1) (lB o ho)) rfl) (λ c=>?_) λ c=>?_
 ·rw[bf (of_lt c)];exact za (z8 uy)
 have hsw:=Br c;rw[bx (jx.2 hsw)];refine uz (Dl (s7 (J6 g3)) λ _=>Dl (jk (dj g5) rfl rfl) (d:=(s:Int)==(p+1:Int)&&decide (((o[s]?.getD 0).toNat:Int)<128)) λ c1=>Dl (jk (dj g4) (gk (dj g2) rfl rfl) rfl) λ _=>Ks (jk (u:=.int (o[s]?.getD 0).toNat) (jz (gw g1) (dj g4) ?_) (Cp rfl) rfl)) (λ c=>?_) λ c=>?_
 ·have hb:s<o.length:=cu (by rw[show w=1 from ju (beq_iff_eq.mp c1)];exact m9 s) hsw
  exact J7 o s _ ho (by rw[gq hb];rfl)
 ·obtain⟨q1,c⟩:=jd.mp c;obtain⟨q2,c⟩:=jd.mp c;obtain⟨q3,q4⟩:=jd.mp c;rw[bf ⟨(Bool.not_eq_true' bl).mp q1,ju (beq_iff_eq.mp q2),ju (beq_iff_eq.mp q3),of_lt (b:=128) q4⟩];exact za (z8 uy)
 ·rw[bx (by rintro⟨rfl,rfl,rfl,h4⟩;rw[show(((p+1:Nat):Int)==(p:Int)+1)=true from beq_iff_eq.mpr rfl,show decide (((o[p+1]?.getD 0).toNat:Int)<128)=true from fu (jw.2 h4)]at c;exact nomatch c)]
  exact jr (q8 (s_1 (dj g3) (s_1 (dj g4) (s_1 es rfl))) (aj rfl)) mz
theorem V7(n:Nat)(o:List UInt8)(p:Nat)(ho:o.length<=5000)(st:Store):
 CT (n+7) "read_head" [.val (.bytes o),.val (.int p)] st=hV (hdr o p) st:=by
 rw[Xq,show decide (4<=n+6)=true from fu (ak (by decide) (iy 6 n))]
 have ho':o.length<=1000000:=ak ho (by decide)
 refine(?_:Fin _ _ (dw _ _ _ _ _));rw[al5];refine uz (jk (dj rfl) (ux (gw rfl) (lB o ho')) rfl) (λ c=>?_) λ c=>?_
 ·rw[adg (List.getElem?_eq_none (of_le c))];exact za (z8 uy)
 have hp:p<o.length:=aa0 c;have hc:o[p]? = some o[p]:=gq hp
 generalize o[p]=b at hc
 refine qb rfl (jz (gw rfl) (dj rfl) (J7 o p _ ho' hc)) ?_;refine uz (jk (dj rfl) (Cp rfl) rfl) (λ c=>?_) λ c=>?_
 ·rw[X5 hc (of_lt (b:=128) c)];exact jr (q8 (s_1 rfl (s_1 (dj rfl) (s_1 (gk (dj rfl) rfl rfl) rfl))) (aj rfl)) mz
 have h128 : 128<=b.toNat:=Br (b:=128) c;obtain⟨z,hz⟩:∃z,b.toNat-(if 192<=b.toNat then 192 else 128)=z:=⟨_,rfl⟩
 obtain⟨bl,hbl⟩:∃bl,decide (192<=b.toNat)=bl:=⟨_,rfl⟩;refine qb rfl (amn (dj rfl) (Cp rfl) (au some (show decide ((192:Int)<=b.toNat)=bl by rw[<-hbl];exact decide_eq_decide.mpr (Int.ofNat_le (m:=192))))) ?_
 have ez:iu (CT (n+6)) [("octets",.val (.bytes o)),("place",.val (.int p)),("first",.val (.int b.toNat)),("is_list",.val (.bool bl))] (.bin .sub (.nm "first") (.ife (.nm "is_list") (.gl "LIST") (.gl "OCTETS_rlp"))) st=.ok (.int z) st:=by
  cases bl with
  |true=>rw[bf (dh hbl)]at hz;exact gk (dj rfl) (yu (J6 rfl) (Cp rfl)) (au (λ i=>some (V.int i)) (by rw[<-hz];exact(Int.ofNat_sub (dh hbl)).symm))
  |false=>rw[bx (mj hbl)]at hz;exact gk (dj rfl) (wg (J6 rfl) (Cp rfl)) (au (λ i=>some (V.int i)) (by rw[<-hz];exact(Int.ofNat_sub h128).symm))
 refine z7 (q8 (s_1 ez (s_1 (gk (dj rfl) rfl (show _ = some (V.int ((p+1:Nat):Int)) from rfl)) rfl)) (aj rfl)) rfl ?_;have hz8:z-55<=8:=Nat.sub_le_of_le_add (z63 hz);refine uz (jk (dj rfl) (Cp rfl) rfl) (λ c=>?_) λ c=>?_
 ·have h5 : 55<z:=of_lt (a:=55) c;rw[Uh hc (jx.2 h128) hz (Nat.not_le.2 h5),hbl];refine qb rfl (gk (dj rfl) (Cp rfl) (au (λ i=>some (V.int i)) (Int.ofNat_sub (ql h5)).symm)) ?_;have er:=Vl n o (p+1) (z-55) ho' hz8 st;have ec:=gj (cf:=CT (n+6)) (ρ:=[("octets",.val (.bytes o)),("place",.val (.int p)),("first",.val (.int b.toNat)),("is_list",.val (.bool bl)),("size",.val (.int z)),("start",.val (.int ((p+1:Nat):Int))),("many",.val (.int ((z-55:Nat):Int)))]) (es:=.cons (.nm "octets") (.cons (.nm "start") (.cons (.nm "many") .nil))) (b_1 (gw rfl) (b_1 (gw rfl) (b_1 (gw rfl) rfl))) er;cases h7:Zx o (p+1) (z-55)with
  |none=>rw[h7]at ec;exact Gi (H7 (Te ec)) (z8 uy)
  |some w=>
   rw[h7]at ec;have hw:=aaj h7;refine z7 (q8 (s_1 ec (s_1 (gk (dj rfl) (dj rfl) (show _ = some (V.int ((p+1+(z-55):Nat):Int)) from rfl)) rfl)) (aj rfl)) rfl (yd (Bu ?_));have e:(if o.length<p+1+(z-55)+w then none else if bl=false/\w=1/\p+1+(z-55)=p+1/\(o[p+1+(z-55)]?.getD 0).toNat<128 then none else some (bl,p+1+(z-55),p+1+(z-55)+w):Option (Bool×Nat×Nat)) =
    if o.length<p+1+(z-55)+w then none else some (bl,p+1+(z-55),p+1+(z-55)+w):=by rw[bx (c:=bl=false/\_) λ h=>absurd hw.1 (by rw[h.2.1];decide)]
   show Fin _ (hV (if _ then _ else _) _) _
   rw[<-e];exact ahv (n+6) o ho' p (p+1+(z-55)) w bl _ st rfl rfl rfl rfl rfl
 ·have h5:z<=55:=Br (a:=55) c;rw[Zq hc (jx.2 h128) hz h5,hbl];have e:(if o.length<p+1+z then none else if bl=false/\z=1/\p+1=p+1/\(o[p+1]?.getD 0).toNat<128 then none else some (bl,p+1,p+1+z):Option (Bool×Nat×Nat)) =
   if o.length<p+1+z then none else if b.toNat<192/\z=1/\(o[p+1]?.getD 0).toNat<128 then none else some (bl,p+1,p+1+z):=by
   rw[<-hbl];exact au (ite _ _) (ite_congr (propext ⟨λ h=>⟨ur (mj h.1),h.2.1,h.2.2.2⟩,λ h=>⟨ig (Nat.not_le.2 h.1),h.2.1,rfl,h.2.2⟩⟩) (λ _=>rfl) λ _=>rfl)
  rw[<-e];exact ahv (n+6) o ho' p (p+1) z bl _ st rfl rfl rfl rfl rfl
noncomputable def cnt(l:List UInt8):Nat:=l.countP λ c=>decide (192<=c.toNat)
theorem aej{α β γ : Type}{a a' : α}{b b' : β}{c c' : γ}(h:some (a,b,c)=some (a',b',c')):a=a'/\b=b'/\c=c':=
 have h1:=Prod.mk.inj (ao h)
 ⟨h1.1,Prod.mk.inj h1.2⟩
theorem Du{o:List UInt8}{p:Nat}{b:Bool}{s e:Nat}(h:hdr o p=some (b,s,e)):
 p<=s/\p<e/\s<=e/\e<=o.length/\(b=true->p<s/\∃c,o[p]? = some c/\192<=c.toNat):=by
 cases hc:o[p]? with
 |none=>exact nomatch (adg hc).symm.trans h
 |some c=>
  by_cases h1:c.toNat<128
  ·obtain⟨rfl,rfl,rfl⟩:=aej ((X5 hc h1).symm.trans h);exact⟨jf _,m9 _,Nat.le_succ _,(iw.mp hc).1,λ h=>nomatch h⟩
  ·have fin:∀{q w},p<q->¬o.length<q+w->b=decide (192<=c.toNat)->p<=q/\p<q+w/\q<=q+w/\q+w<=o.length/\(b=true->p<q/\∃d,some c=some d/\192<=d.toNat):=λ h1 h2 h3=>
    ⟨ql h1,cu h1 (dz _ _),dz _ _,nj h2,λ hb=>⟨h1,c,rfl,dh (h3.symm.trans hb)⟩⟩
   obtain⟨z,hz⟩:∃z,c.toNat-(if 192<=c.toNat then 192 else 128)=z:=⟨_,rfl⟩
   by_cases h5:z<=55
   ·obtain⟨h2,h⟩:=nf ((Zq hc h1 hz h5).symm.trans h);obtain⟨e1,rfl,rfl⟩:=aej (nf h).2;exact fin (m9 _) h2 e1.symm
   ·have h:=(Uh hc h1 hz h5).symm.trans h;cases hw:Zx o (p+1) (z-55)with
    |none=>rw[hw]at h;exact nomatch h
    |some w=>
     rw[hw]at h;obtain⟨h2,h⟩:=nf h;obtain⟨e1,rfl,rfl⟩:=aej h;exact fin (dz (p+1) _) h2 e1.symm
theorem I6(o:List UInt8){p s:Nat}(h:p<=s):cnt (o.drop s)<=cnt (o.drop p):=by
 have:o.drop s=(o.drop p).drop (s-p):=by rw[List.drop_drop,Nat.add_sub_of_le h]
 rw[this];exact(List.drop_sublist _ _).countP_le
theorem drop_cons{o:List UInt8}{p:Nat}{c:UInt8}(hc:o[p]? = some c):o.drop p=c::o.drop (p+1):=by
 obtain⟨hp,rfl⟩:=iw.mp hc;exact List.drop_eq_getElem_cons hp
theorem ag1{o:List UInt8}{p s:Nat}{c:UInt8}(hc:o[p]? = some c)(hq : 192<=c.toNat)(h:p<s):cnt (o.drop s)<cnt (o.drop p):=by
 refine fj (I6 o h) ?_;rw[drop_cons hc,cnt,cnt,List.countP_cons_of_pos (p:=λ c:UInt8=>decide (192<=c.toNat)) (fu hq)];exact m9 _
theorem aj7{o:List UInt8}{p:Nat}{s e:Nat}(h:hdr o p=some (true,s,e)):cnt (o.drop s)<cnt (o.drop p):=by
 obtain⟨_,_,_,_,h5⟩:=Du h;obtain⟨h6,c,hc,hq⟩:=h5 rfl;exact ag1 hc hq h6
theorem Ld{m:Nat}{o:List UInt8}{p:Nat}{x:It}{e:Nat}(h:D m o p=some (x,e)):p<e/\e<=o.length:=by
 cases m with
 |zero=>exact nomatch h
 |succ m=>
  obtain⟨s,⟨hh,_⟩|⟨_,hh,_⟩⟩:=aiy h
  ·exact⟨(Du hh).2.1,(Du hh).2.2.2.1⟩
  ·exact⟨(Du hh).2.1,(Du hh).2.2.2.1⟩
noncomputable def dV(o:Option (It×Nat)):V:=match o with
 |some (x,e)=>.tuple [x.v,.int e]
 |none=>.none
noncomputable def Zo:Ex:=.cmp .lt (.nm "law_begin") (.nm "law_end")
noncomputable def Yz:u9:=(.cons (.asg (.nm "law_told") (.call "_law_item" (.cons (.nm "octets") (.cons (.nm "law_begin") .nil))))
 (.cons (.ifs (.cmp .iss (.nm "law_told") .non) (.cons (.ret .non)
  .nil) .nil)
 (.cons (.app "law_gained" none (.idx (.nm "law_told") (.int 0)))
 (.cons (.asg (.nm "law_begin") (.idx (.nm "law_told") (.int 1)))
 .nil))))
theorem al8(cf:CF)(can:Bool)(st:Store)(o:List UInt8)(e s0:Nat)(f:Nat->Option (It×Nat))
 (hf:∀s st',s0<=s->cf "_law_item" [.val (.bytes o),.val (.int s)] st'=.ok (dV (f s)) st') (hm:∀s x s',f s=some (x,s')->s<s'):
 ∀(k s:Nat) (acc:List It) (ρ:Loc) (j:Nat),s0<=s->e-s<k->e-s<j->acc.length+(e-s)<=100000->
 lk "octets" ρ=some (.val (.bytes o))->lk "law_begin" ρ=some (.val (.int s))->lk "law_end" ρ=some (.val (.int e))->lk "law_gained" ρ=some (.cell st.length)->
 (∃g,whl cf can Zo Yz j ρ (st++[⟨true,.list (acc.map It.v)⟩])=.ok (.ret .none) (st++[⟨true,.list g⟩])/\DL f k s e acc=none)\/
 (∃(ρ':Loc) (s':Nat) (xs:List It),whl cf can Zo Yz j ρ (st++[⟨true,.list (acc.map It.v)⟩])=.ok (.next ρ') (st++[⟨true,.list (xs.map It.v)⟩])/\
  lk "law_begin" ρ'=some (.val (.int s'))/\lk "law_end" ρ'=some (.val (.int e))/\lk "law_gained" ρ'=some (.cell st.length)/\
  DL f k s e acc=if s'=e then some xs else none):=by
 intro k
 induction k with
 |zero=>intro s acc ρ j _ h;exact absurd h (Nat.not_lt_zero _)
 |succ k ih=>
  intro s acc ρ j hs0 hk hj hacc h1 h2 h3 h4;cases j with
  |zero=>exact absurd hj (Nat.not_lt_zero _)
  |succ j=>
  rw[amv]
  by_cases hse:s<e
  ·rw[bf hse];have hacc':acc.length<=1000000:=ak (dz _ _) (ak hacc (by decide))
   have hcall:=hf s;have go:∀{X:R Fl}{v:V},cf "_law_item" [.val (.bytes o),.val (.int s)] (st++[⟨true,.list (acc.map It.v)⟩])=.ok v (st++[⟨true,.list (acc.map It.v)⟩])->Wh X cf can Zo Yz j (dw cf can (.cons (.ifs (.cmp .iss (.nm "law_told") .non) (.cons (.ret .non)
    .nil) .nil)
   (.cons (.app "law_gained" none (.idx (.nm "law_told") (.int 0)))
   (.cons (.asg (.nm "law_begin") (.idx (.nm "law_told") (.int 1)))
   .nil))) (put "law_told" (.val v) ρ) (st++[⟨true,.list (acc.map It.v)⟩]))->whl cf can Zo Yz (j+1) ρ (st++[⟨true,.list (acc.map It.v)⟩])=X:=λ hc hX=>
    ae8 (jk (dj h2) (dj h3) (Vt hse)) (qb rfl (gj (b_1 (gw h1) (b_1 (gw h2) rfl)) hc) hX)
   cases hfs:f s with
   |none=>
    rw[hfs]at hcall;exact .inl ⟨_,go (hcall _ hs0) (v9 (jk (dj Ce) rfl rfl) (jr rfl (zc azl))),rfl⟩
   |some q=>
    obtain⟨x,s'⟩:=q;rw[hfs]at hcall;have hlt:=hm s x s' hfs;have hd:=Nat.sub_lt_sub_left hse hlt;have:=ih s' (acc++[x]) (put "law_begin" (.val (.int s')) (put "law_told" (.val (.tuple [x.v,.int s'])) ρ)) j (ak hs0 (ql hlt)) (cu hd (m7 hk)) (cu hd (m7 hj)) (by rw[cg,jt,j6 [x].length];exact ak (jh hd _) hacc)
     (m6 (by decide) (m6 (by decide) h1)) Ce (m6 (by decide) (m6 (by decide) h3)) (m6 (by decide) (m6 (by decide) h4))
    rw[nu]at this;have e1:∀{X:R Fl},(whl cf can Zo Yz j (put "law_begin" (.val (.int s')) (put "law_told" (.val (.tuple [x.v,.int s'])) ρ)) (st++[⟨true,.list (acc.map It.v++[x.v])⟩])=X->
     whl cf can Zo Yz (j+1) ρ (st++[⟨true,.list (acc.map It.v)⟩])=X):=λ hX=>
     go (hcall _ hs0) (su (jk (dj Ce) rfl rfl) (K6 (m6 (by decide) h4) (tu _ _ _) (jz (gw Ce) rfl rfl) (Ow (by rw[bw];exact hacc')) (qb rfl (jz (gw Ce) rfl rfl) (yd (al4 hX)))))
    rcases this with⟨g,hw,hd⟩|⟨ρ',s'',xs,hw,ha,hb,hc,hd⟩
    ·exact .inl ⟨g,e1 hw,hd⟩
    ·exact .inr ⟨ρ',s'',xs,e1 hw,ha,hb,hc,hd⟩
  ·rw[bx hse];exact .inr ⟨ρ,s,acc,akr (jk (dj h2) (dj h3) (I9 hse)),h2,h3,h4,rfl⟩
theorem ale(M m:Nat)(can:Bool)(st:Store)(o:List UInt8)(s e:Nat)(ho:o.length<=5000)(he:e<=o.length)(ρ:Loc)
 (hf:∀s' st',s<=s'->CT (M+1) "_law_item" [.val (.bytes o),.val (.int s')] st'=.ok (dV (D m o s')) st')
 (h1:lk "octets" ρ=some (.val (.bytes o))) (h2:lk "law_begin" ρ=some (.val (.int s))) (h3:lk "law_end" ρ=some (.val (.int e))) (h4:lk "law_gained" ρ=some (.cell st.length)):
 ∃(a:Bool) (g:List V),dw (CT (M+1)) can (.cons (.whl Zo Yz) (.cons (.ret (.ife (.cmp .eq (.nm "law_begin") (.nm "law_end")) (.tup (.cons (.nm "law_gained") (.cons (.nm "law_end") .nil))) .non)) .nil)) ρ (st++[⟨true,.list []⟩])
  = .ok (.ret (dV ((DL (D m o) (e-s+1) s e []).map λ xs=>(.l xs,e)))) (st++[⟨a,.list g⟩]):=by
 have hes:e-s<=5000:=ak (Nat.sub_le _ _) (ak he ho);rcases al8 (CT (M+1)) can st o e s (D m o) hf (λ s x s' h=>(Ld h).1) (e-s+1) s [] ρ 100000 (jf _) (m9 _) (fj hes (by decide)) (by rw[List.length_nil,lg];exact ak hes (by decide)) h1 h2 h3 h4 with
  ⟨g,hw,hd⟩|⟨ρ',s',xs,hw,ha,hb,hc,hd⟩<;>rw[hd]
 ·exact⟨true,g,(Qt hw (zc (J9 rfl)):Is _ _)⟩
 ·by_cases h:s'=e
  ·subst h;rw[bf rfl];refine⟨false,xs.map It.v,(Qt hw (Bu (jr (v:=.tuple [.list (xs.map It.v),.int s']) (yu (jk (dj ha) (dj hb) ayr) (q8 (s_1 (Nk hc (aa4 _ _ _ _)) (s_1 (dj hb) rfl)) (aj rfl))) (J9 ?_))):Is _ _)⟩;rw[<-Nj];rfl
  ·rw[bx h];exact⟨true,xs.map It.v,(Qt hw (Bu (jr (wg (jk (dj ha) (dj hb) (amg h)) rfl) (J9 rfl))):Is _ _)⟩
noncomputable def awk:u9:=(.cons (.asg (.nm "law_end") (.bin .add (.nm "law_begin") (.nm "law_size")))
 (.cons (.ifs (.cmp .gt (.nm "law_end") (.len (.nm "octets"))) (.cons (.ret .non)
  .nil) .nil)
 (.cons (.ifs (.cmp .lt (.nm "law_first") (.int 192)) (.cons (.asg (.nm "is_bare") (.andE (.cons (.cmp .eq (.nm "law_size") (.int 1)) (.cons (.cmp .lt (.idx (.nm "octets") (.nm "law_begin")) (.int 128)) .nil))))
  (.cons (.ret (.ife (.nm "is_bare") .non (.tup (.cons (.slc (.nm "octets") (.some (.nm "law_begin")) (.some (.nm "law_end"))) (.cons (.nm "law_end") .nil)))))
  .nil)) .nil)
 (.cons (.asg (.nm "law_gained") (.lst .nil))
 (.cons (.whl Zo Yz) (.cons (.ret (.ife (.cmp .eq (.nm "law_begin") (.nm "law_end")) (.tup (.cons (.nm "law_gained") (.cons (.nm "law_end") .nil))) .non)) .nil))))))
noncomputable def tlD(m:Nat)(o:List UInt8)(q b w:Nat):Option (It×Nat):=
 if o.length<b+w then none else
 if q<192 then(if w=1/\(o[b]?.getD 0).toNat<128 then none else some (.b ((o.drop b).take (b+w-b)),b+w))
 else(DL (D m o) (b+w-b+1) b (b+w) []).map λ xs=>(.l xs,b+w)
theorem av9(m:Nat)(o:List UInt8)(q b w:Nat):(match(if o.length<b+w then none else if q<192/\w=1/\(o[b]?.getD 0).toNat<128 then none else some (decide (192<=q),b,b+w):Option (Bool×Nat×Nat))with
 |none=>none
 |some (false,s,e)=>some (.b ((o.drop s).take (e-s)),e)
 |some (true,s,e)=>(DL (D m o) (e-s+1) s e []).map λ xs=>(.l xs,e))=tlD m o q b w:=by
 unfold tlD
 by_cases h:o.length<b+w
 ·rw[bf h,bf h]
 ·rw[bx h,bx h]
  by_cases h2:q<192
  ·rw[bf h2]
   by_cases h3:w=1/\(o[b]?.getD 0).toNat<128
   ·rw[bf ⟨h2,h3⟩,bf h3]
   ·rw[bx (λ k=>h3 k.2),bx h3,ig (Nat.not_le.mpr h2)]
  ·rw[bx h2,bx (λ k=>h2 k.1),fu (jx.mp h2)]
theorem D_s{m:Nat}{o:List UInt8}{p z:Nat}{c:UInt8}(hc:o[p]? = some c)(h:¬c.toNat<128)(hz:c.toNat-(if 192<=c.toNat then 192 else 128)=z)(h5:z<=55):D (m+1) o p=tlD m o c.toNat (p+1) z:=by
 have e:=Zq hc h hz h5;rw[D_1,e];exact av9 m o c.toNat (p+1) z
theorem D_n{m:Nat}{o:List UInt8}{p z:Nat}{c:UInt8}(hc:o[p]? = some c)(h:¬c.toNat<128)(hz:c.toNat-(if 192<=c.toNat then 192 else 128)=z)(h5:¬z<=55)(hr:Zx o (p+1) (z-55)=none):D (m+1) o p=none:=by
 rw[D_1,Uh hc h hz h5,hr]
theorem D_l{m:Nat}{o:List UInt8}{p z w:Nat}{c:UInt8}(hc:o[p]? = some c)(h:¬c.toNat<128)(hz:c.toNat-(if 192<=c.toNat then 192 else 128)=z)(h5:¬z<=55)(hr:Zx o (p+1) (z-55)=some w):D (m+1) o p=tlD m o c.toNat (p+1+(z-55)) w:=by
 have hw:=(aaj hr).1;have e:=av9 m o c.toNat (p+1+(z-55)) w;rw[bx (c:=c.toNat<192/\w=1/\_) (λ k=>absurd hw (by rw[k.2.1];decide))]at e
 rw[D_1,Uh hc h hz h5,hr];exact e
theorem af7(M m:Nat)(can:Bool)(st:Store)(o:List UInt8)(q b w:Nat)(ho:o.length<=5000)(ρ:Loc)(hf:b+w<=o.length->192<=q->∀s' st',b<=s'->CT (M+1) "_law_item" [.val (.bytes o),.val (.int s')] st'=.ok (dV (D m o s')) st')
 (h1:lk "octets" ρ=some (.val (.bytes o))) (h2:lk "law_begin" ρ=some (.val (.int b))) (h3:lk "law_size" ρ=some (.val (.int w))) (h4:lk "law_first" ρ=some (.val (.int q))):
 Fin st.length (.ok (dV (tlD m o q b w)) st) (dw (CT (M+1)) can awk ρ st):=by
 have ho':o.length<=1000000:=ak ho (by decide)
 refine qb rfl (gk (dj h2) (dj h3) (show _ = some (.int ((b+w:Nat):Int)) from rfl)) ?_;refine uz (jk (dj Ce) (ux (gw (m6 (by decide) h1)) (lB o ho')) rfl) (λ c=>?_) λ c=>?_
 ·rw[show tlD m o q b w=none from bf (of_lt c)];exact jr rfl mz
 have he:=Br c;have hb1:=ak he ho';refine uz (jk (dj (m6 (by decide) h4)) rfl rfl) (λ c=>?_) λ c=>?_
 ·have hd:tlD m o q b w=if w=1/\(o[b]?.getD 0).toNat<128 then none else some (.b ((o.drop b).take (b+w-b)),b+w):=(bx (jx.2 he)).trans (bf (of_lt (b:=192) c))
  refine qb rfl (auh (Dl (jk (dj (m6 (by decide) h3)) rfl rfl) (d:=decide (((o[b]?.getD 0).toNat:Int)<128)) λ c=>Ks (jk (u:=.int (o[b]?.getD 0).toNat) (jz (gw (m6 (by decide) h1)) (dj (m6 (by decide) h2)) ?_) rfl rfl))) ?_
  ·have hb:b<o.length:=cu (by rw[show w=1 from ju (beq_iff_eq.mp c)];exact m9 b) he
   exact J7 o b _ ho' (by rw[gq hb];rfl)
  ·refine jr (v:=dV (tlD m o q b w)) (st':=st) ?_ mz;cases c2:((w:Int)==1&&decide (((o[b]?.getD 0).toNat:Int)<128))with
   |true=>
    have c2:=jd.mp c2;rw[hd,bf ⟨ju (beq_iff_eq.mp c2.1),of_lt (b:=128) c2.2⟩];exact yu (J6 Ce) rfl
   |false=>
    rw[hd,bx λ k=>nomatch (jd.mpr ⟨beq_iff_eq.mpr (au Int.ofNat k.1),fu (jw.2 k.2)⟩).symm.trans c2];have g2:=dj (cf:=CT (M+1)) (st:=st) (m6 (u:=.val (.bool false)) (show ¬"law_begin" = "is_bare" by decide) (m6 (u:=.val (.int ((b+w:Nat):Int))) (show ¬"law_begin" = "law_end" by decide) h2))
    have g3:=dj (cf:=CT (M+1)) (st:=st) (m6 (u:=.val (.bool false)) (show ¬"law_end" = "is_bare" by decide) (Ce (u:=.val (.int ((b+w:Nat):Int))) (ρ:=ρ)))
    exact wg (J6 Ce) (q8 (s_1 (vf (dj (m6 (show ¬"octets" = "is_bare" by decide) (m6 (show ¬"octets" = "law_end" by decide) h1))) (zj g2) (zj g3) ((Xb o b (b+w) b ((b+w:Nat):Int) rfl rfl ho' (ak (dz _ _) hb1) hb1).trans (au some (Ox _).symm))) (s_1 g3 rfl)) (aj rfl))
 ·have hq:=Br (b:=192) c;rw[show tlD m o q b w=(DL (D m o) (b+w-b+1) b (b+w) []).map λ xs=>(.l xs,b+w) from(bx (jx.2 he)).trans (bx (jx.2 hq))];refine Di rfl rfl rfl ?_;obtain⟨a,g,hw⟩:=ale M m can st o b (b+w) ho he (put "law_gained" (.cell st.length) (put "law_end" (.val (.int ((b+w:Nat):Int))) ρ)) (hf he hq) (m6 (by decide) (m6 (by decide) h1)) (m6 (by decide) (m6 (by decide) h2)) (m6 (by decide) Ce) Ce
  rw[hw];exact Bo
noncomputable def ayd:u9:=(.cons (.asg (.nm "law_told") (.slc (.nm "octets") (.some (.nm "law_begin")) (.some (.bin .sub (.bin .add (.nm "law_begin") (.nm "law_size")) (.int 55)))))
 (.cons (.ifs (.orE (.cons (.cmp .lt (.len (.nm "law_told")) (.bin .sub (.nm "law_size") (.int 55))) (.cons (.cmp .iss (.call "_law_number" (.cons (.nm "law_told") (.cons (.bin .pow (.int 2) (.int 320)) .nil))) .non) .nil))) (.cons (.ret .non)
  .nil) .nil)
 (.cons (.asg (.tup (.cons (.nm "law_begin") (.cons (.nm "law_size") .nil))) (.tup (.cons (.bin .add (.nm "law_begin") (.len (.nm "law_told"))) (.cons (.call "_law_number" (.cons (.nm "law_told") (.cons (.bin .pow (.int 2) (.int 320)) .nil))) .nil))))
 (.cons (.ifs (.cmp .lt (.nm "law_size") (.int 56)) (.cons (.ret .non)
  .nil) .nil)
 .nil))))
theorem akc(M:Nat)(can:Bool)(st:Store)(o:List UInt8)(q p z:Nat)(hz : 55<z)(hz':z<=63)(hp:p<=o.length)(ho:o.length<=5000) (A F:qp){W:R Fl->Prop}
 (h0:Zx o p (z-55)=none->W (.ok (.ret .none) st))
 (h1:∀w ρ,Zx o p (z-55)=some w->lk "octets" ρ=some (.val (.bytes o))->lk "law_begin" ρ=some (.val (.int ((p+(z-55):Nat):Int)))->lk "law_size" ρ=some (.val (.int w))->lk "law_first" ρ=some F->W (.ok (.next ρ) st)):
 W (dw (CT (M+1)) can ayd [("octets",.val (.bytes o)),("at",A),("law_first",F),("law_begin",.val (.int p)),("law_size",.val (.int z))] st):=by
 have ho':o.length<=1000000:=ak ho (by decide)
 have hz8:z-55<=8:=Nat.sub_le_of_le_add hz';have zi:(z:Int)-55=((z-55:Nat):Int):=(Int.ofNat_sub (ql hz)).symm;have hsl:=Xb o p (p+(z-55)) p ((p:Int)+z-55) rfl ((Int.add_sub_assoc ..).trans (au ((p:Int) + ·) zi)) ho' (ak hp ho') (ak (j7 (ak hp ho) hz8) (by decide))
 rw[jm]at hsl;have hlen:((o.drop p).take (z-55)).length=min (z-55) (o.length-p):=by rw[List.length_take,nq]
 have hl8:((o.drop p).take (z-55)).length<=8:=ak (List.length_take_le _ _) hz8;refine qb rfl (vf (dj rfl) (zj (dj rfl)) (zj (gk (gk (dj rfl) (dj rfl) rfl) rfl rfl)) hsl) ?_;have hnum:=Ja M ((o.drop p).take (z-55)) (ak hl8 (by decide)) (2^320) st
 rw[qg (ak hl8 (by decide)),bf (cu (Jm _) (ak (u6 (by decide) hl8) (by decide)))]at hnum
 unfold Zx at h0 h1
 generalize(o.drop p).take (z-55)=t at *
 have hc:iu (CT (M+1)) [("octets",.val (.bytes o)),("at",A),("law_first",F),("law_begin",.val (.int p)),("law_size",.val (.int z)),("law_told",.val (.bytes t))] (.call "_law_number" (.cons (.nm "law_told") (.cons (.bin .pow (.int 2) (.int 320)) .nil))) st=.ok (oV (if t.head? = some 0 then none else some (p7 t))) st:=
  gj (b_1 (gw rfl) (b_1 (v7 rfl (gk rfl rfl ate)) rfl)) hnum
 have hl:iu (CT (M+1)) [("octets",.val (.bytes o)),("at",A),("law_first",F),("law_begin",.val (.int p)),("law_size",.val (.int z)),("law_told",.val (.bytes t))] (.len (.nm "law_told")) st=.ok (.int t.length) st:=ux (gw rfl) (lB t (ak hl8 (by decide)))
 refine uz (Dn (jk hl (gk (dj rfl) rfl (au (λ i=>some (V.int i)) zi)) rfl) (jk hc rfl rfl)) (λ c=>?_) λ c=>?_
 ·refine jr rfl (zc (h0 ?_))
  by_cases h8:o.length<p+(z-55)
  ·exact bf h8
  ·rw[bx h8];rcases Bool.or_eq_true_iff.mp c with c|c
   ·exact absurd (of_lt c) (by rw[hlen,Nat.min_eq_left (Nat.le_sub_of_add_le' (nj h8))];exact Nat.lt_irrefl _)
   ·by_cases h9:t.head? = some 0
    ·exact bf h9
    ·rw[bx h9]at c;cases c
 ·obtain⟨c1,c2⟩:=Bool.or_eq_false_iff.mp c;have c3:=Br c1;have h8:p+(z-55)<=o.length:=Nat.add_le_of_le_sub' hp (ak c3 (hlen▸Nat.min_le_right _ _));have h9:¬t.head? = some 0:=λ h=>by rw[bf h]at c2;cases c2
  rw[bx (jx.2 h8),bx h9]at h0 h1;rw[bx h9]at hc;have hb:t.length=z-55:=Nat.le_antisymm (hlen▸Nat.min_le_left _ _) c3;refine z7 (q8 (s_1 (gk (dj rfl) hl (au (λ k:Nat=>some (V.int ((p+k:Nat):Int))) hb)) (s_1 hc rfl)) (aj rfl)) rfl ?_;exact uz (jk (dj rfl) rfl rfl) (λ c=>jr rfl (zc (h0 (bf (m7 (of_lt (b:=56) c)))))) λ c=>yd (h1 (p7 t) _ (bx (Nat.not_le.2 (Br (b:=56) c))) rfl rfl rfl rfl)
theorem aky:Hs.body=(.cons (.ifs (.cmp .ge (.nm "at") (.len (.nm "octets"))) (.cons (.ret .non)
 .nil) .nil)
 (.cons (.asg (.tup (.cons (.nm "law_first") (.cons (.nm "law_begin") .nil))) (.tup (.cons (.idx (.nm "octets") (.nm "at")) (.cons (.bin .add (.nm "at") (.int 1)) .nil))))
 (.cons (.ifs (.cmp .lt (.nm "law_first") (.int 128)) (.cons (.ret (.tup (.cons (.slc (.nm "octets") (.some (.nm "at")) (.some (.nm "law_begin"))) (.cons (.nm "law_begin") .nil))))
  .nil) .nil)
 (.cons (.asg (.nm "law_size") (.bin .sub (.nm "law_first") (.ife (.cmp .ge (.nm "law_first") (.int 192)) (.int 192) (.int 128))))
 (.cons (.ifs (.cmp .gt (.nm "law_size") (.int 55)) ayd .nil) awk))))):=rfl
theorem Yw:∀(m M:Nat)(o:List UInt8)(p:Nat)(st:Store),m<=M->o.length<=5000->cnt (o.drop p)<m->
 CT (M+1) "_law_item" [.val (.bytes o),.val (.int p)] st=.ok (dV (D m o p)) st:=by
 intro m
 induction m with
 |zero=>intro M o p st _ _ h;exact absurd h (Nat.not_lt_zero _)
 |succ m ih=>
 intro M o p st hM ho hm;cases M with
 |zero=>exact absurd hM (Nat.not_succ_le_zero _)
 |succ M=>
 rw[aaw];have ho':o.length<=1000000:=ak ho (by decide)
 refine(?_:Fin _ _ (dw _ _ _ _ _));rw[aky];refine uz (jk (dj rfl) (ux (gw rfl) (lB o ho')) rfl) (λ c=>?_) λ c=>?_
 ·rw[D_1,adg (List.getElem?_eq_none (of_le c))];exact jr rfl mz
 have hp:p<o.length:=aa0 c;have hp':=ak hp ho';have hc:o[p]? = some o[p]:=gq hp
 generalize o[p]=b at hc
 refine z7 (q8 (s_1 (jz (gw rfl) (dj rfl) (J7 o p _ ho' hc)) (s_1 (gk (dj rfl) rfl (show _ = some (.int ((p+1:Nat):Int)) from rfl)) rfl)) (aj rfl)) rfl ?_;refine uz (jk (dj rfl) rfl rfl) (λ c=>?_) λ c=>?_
 ·rw[D_1,X5 hc (of_lt (b:=128) c)];exact jr (q8 (s_1 (vf (dj rfl) (zj (dj rfl)) (zj (dj rfl)) ((Xb o p (p+1) (p:Int) ((p+1:Nat):Int) rfl rfl ho' (ql hp') hp').trans (au some (Ox _).symm))) (s_1 (dj rfl) rfl)) (aj rfl)) mz
 have h128:=Br (b:=128) c;have h128':=jx.2 h128;obtain⟨z,hz⟩:∃z,b.toNat-(if 192<=b.toNat then 192 else 128)=z:=⟨_,rfl⟩
 refine qb (v:=.int z) (st':=st) rfl ?_ ?_
 ·by_cases h : 192<=b.toNat
  ·rw[bf h]at hz;exact gk (dj rfl) (yu (jk (dj rfl) rfl (show xg .ge (.int b.toNat) (.int 192)=some true from au some (fu (Int.ofNat_le.2 h)))) rfl) (au (λ i=>some (V.int i)) (by rw[<-hz];exact(Int.ofNat_sub h).symm))
  ·rw[bx h]at hz;exact gk (dj rfl) (wg (jk (dj rfl) rfl (show xg .ge (.int b.toNat) (.int 192)=some false from au some (ig λ q=>h (Int.ofNat_le.1 q)))) rfl) (au (λ i=>some (V.int i)) (by rw[<-hz];exact(Int.ofNat_sub h128).symm))
 have hcn:∀w,p+1<=w->192<=b.toNat->∀s' st',w<=s'->CT (M+1) "_law_item" [.val (.bytes o),.val (.int s')] st'=.ok (dV (D m o s')) st':=λ w h1 h3 s' st' hs'=>
  ih M o s' st' (o8 hM) ho (cu (ag1 hc h3 (ak h1 hs')) (m7 hm))
 refine uz (jk (dj rfl) rfl rfl) (λ c=>?_) λ c=>?_
 ·have h5 : 55<z:=of_lt (a:=55) c;have h5':=Nat.not_le.2 h5;refine akc M _ st o b.toNat (p+1) z h5 (z63 hz) hp ho _ _ (λ hr=>?_) λ w ρ hr g1 g2 g3 g4=>?_
  ·rw[D_n hc h128' hz h5' hr];exact mz
  ·rw[D_l hc h128' hz h5' hr];exact Bu (af7 M m _ st o b.toNat _ w ho ρ (λ _ h2=>hcn _ (dz _ _) h2) g1 g2 g3 g4)
 ·rw[D_s hc h128' hz (Br (a:=55) c)];exact af7 M m _ st o b.toNat _ z ho _ (λ _ h2=>hcn _ (jf _) h2) rfl rfl rfl rfl
theorem Jz(l:List UInt8):enc (.b l)=Jv l:=by rw[enc]
theorem Ib(xs:List It):enc (.l xs)=hd 192 ((xs.map enc).flatten).length++(xs.map enc).flatten:=by rw[enc]
theorem adz(c:UInt8)(n:Nat)(h:n=c.toNat):n.toUInt8=c:=h▸UInt8.ofNat_toNat
theorem Ri(c:UInt8)(h : 128<=c.toNat):Jv [c]=hd 128 1++[c]:=bx (jx.2 h)
theorem Mu(c:UInt8)(h:c.toNat<128):Jv [c]=[c]:=bf h
theorem Nx:∀(l:List UInt8),l.length≠1->Jv l=hd 128 l.length++l
 |[],_=>rfl
 |[_],h=>absurd rfl h
 | _::_::_,_=>rfl
theorem Ms(l:List UInt8):(∃c,l=[c]/\c.toNat<128/\Jv l=l)\/(Jv l=hd 128 l.length++l/\(l.length=1->∃c,l=[c]/\¬c.toNat<128)):=by
 by_cases h1:l.length=1
 ·obtain⟨c,rfl⟩:=List.length_eq_one_iff.1 h1
  by_cases h:c.toNat<128
  ·exact .inl ⟨c,rfl,h,Mu c h⟩
  ·exact .inr ⟨Ri c (nj h),λ _=>⟨c,rfl,h⟩⟩
 ·exact .inr ⟨Nx l h1,λ h=>absurd h h1⟩
theorem seg{o:List UInt8}{a b c:Nat}(h:a<=b)(k:b<=c):(o.drop a).take (b-a)++(o.drop b).take (c-b)=(o.drop a).take (c-a):=by
 rw[show c-a=(b-a)+(c-b) from(Nat.sub_add_sub_cancel k h).symm.trans (j6 ..),List.take_add,List.drop_drop,Nat.add_sub_of_le h]
theorem Qf{o:List UInt8}{s e:Nat}(h:s<=e)(he:e<=o.length):((o.drop s).take (e-s)).length=e-s:=
 List.length_take_of_le (by rw[nq];exact Nat.sub_le_sub_right he s)
theorem afw{o:List UInt8}{p:Nat}{b:Bool}{s e:Nat}(h:hdr o p=some (b,s,e)):
 ((o.drop p).take (s-p)=hd (if b then 192 else 128) (e-s)/\(b=false->∀c,(o.drop s).take (e-s)=[c]->¬c.toNat<128))\/(b=false/\s=p/\e=p+1/\∃c,o[p]? = some c/\c.toNat<128):=by
 have hp:=Du h;cases hc:o[p]? with
 |none=>exact nomatch (adg hc).symm.trans h
 |some c=>
  by_cases h1:c.toNat<128
  ·obtain⟨rfl,rfl,rfl⟩:=aej ((X5 hc h1).symm.trans h);exact .inr ⟨rfl,rfl,rfl,c,rfl,h1⟩
  ·left
   obtain⟨z,hz⟩:∃z,c.toNat-(if 192<=c.toNat then 192 else 128)=z:=⟨_,rfl⟩
   have key:(if decide (192<=c.toNat)=true then 192 else 128)+z=c.toNat:=by
    by_cases q : 192<=c.toNat
    ·rw[bf (fu q)];rw[bf q]at hz;exact hz▸Nat.add_sub_of_le q
    ·rw[bx λ h=>q (dh h)];rw[bx q]at hz;exact hz▸Nat.add_sub_of_le (nj h1)
   by_cases h5:z<=55
   ·obtain⟨h2,h⟩:=nf ((Zq hc h1 hz h5).symm.trans h);obtain⟨h3,h⟩:=nf h;obtain⟨rfl,rfl,rfl⟩:=aej h;rw[jm,jm];refine⟨by rw[drop_cons hc,Ep _ _ h5,adz c _ key];rfl,λ hb d hd q=>h3 ⟨ur (mj hb),?_,?_⟩⟩
    ·have:=au List.length hd
     rwa [List.length_take_of_le (by rw[nq];exact Nat.le_sub_of_add_le' (nj h2))]at this
    ·have e1:o[p+1]? = some d:=by
      cases z with
      |zero=>exact nomatch hd
      |succ z=>rw[<-Nat.add_zero (p+1),<-List.getElem?_drop,<-List.getElem?_take_of_lt (Nat.succ_pos z),hd];rfl
     rw[e1];exact q
   ·have h:=(Uh hc h1 hz h5).symm.trans h;cases hw:Zx o (p+1) (z-55)with
    |none=>rw[hw]at h;exact nomatch h
    |some w=>
     rw[hw]at h;obtain⟨h2,h⟩:=nf h;obtain⟨rfl,rfl,rfl⟩:=aej h;have h55:=(aaj hw).1;have hn:=aqt hw;rw[jm];refine⟨?_,λ _ d hd _=> ?_⟩
     ·rw[jt,jm,j6 1,drop_cons hc,List.take_succ_cons,Fb _ _ (Nat.not_le.2 h55),<-hn.1,hn.2,jt,Nat.add_sub_of_le (Nat.le_of_not_le h5),adz c _ key]
     ·have:=au List.length hd;rw[List.length_take_of_le (by rw[nq];exact Nat.le_sub_of_add_le' (nj h2))]at this
      exact absurd h55 (by rw[this];exact(by decide:¬55<1))
theorem Uj{o:List UInt8}{p:Nat}{b:Bool}{s e:Nat}(h:hdr o p=some (b,s,e)):
 (o.drop p).take (e-p)=if b then hd 192 (e-s)++(o.drop s).take (e-s)else Jv ((o.drop s).take (e-s)):=by
 have hp:=Du h;have hl:=Qf hp.2.2.1 hp.2.2.2.1;rcases afw h with⟨h1,h2⟩|⟨rfl,rfl,rfl,c,hc,h1⟩
 ·rw[<-seg hp.1 hp.2.2.1,h1];cases b with
  |true=>rfl
  |false=>
   rcases Ms ((o.drop s).take (e-s))with⟨c,hc,h3,_⟩|⟨he,_⟩
   ·exact absurd h3 (h2 rfl c hc)
   ·rw[hl]at he;exact he.symm
 ·rw[jm,drop_cons hc];exact(Mu c h1).symm
theorem ag2(o:List UInt8)(f:Nat->Option (It×Nat))(hf:∀s x s',f s=some (x,s')->s<s'/\s'<=o.length/\enc x=(o.drop s).take (s'-s)):
 ∀(k s e:Nat) (acc xs:List It) (s0:Nat),DL f k s e acc=some xs->s0<=s->(acc.map enc).flatten=(o.drop s0).take (s-s0)->(xs.map enc).flatten=(o.drop s0).take (e-s0):=by
 intro k
 induction k with
 |zero=>intro s e acc xs s0 h;exact nomatch h
 |succ k ih=>
  intro s e acc xs s0 h h0 hacc;rcases aal h with⟨x,s',hfs,h⟩|⟨rfl,rfl⟩
  ·obtain⟨h1,h2,h3⟩:=hf _ _ _ hfs;refine ih s' e _ xs s0 h (ak h0 (ql h1)) ?_;rw[nu,List.flatten_append,hacc,<-seg h0 (ql h1),<-h3];exact au _ (jo _)
  ·exact hacc
theorem Wu:∀(m:Nat)(o:List UInt8)(p:Nat)(x:It)(e:Nat),D m o p=some (x,e)->enc x=(o.drop p).take (e-p):=by
 intro m
 induction m with
 |zero=>intro o p x e h;exact nomatch h
 |succ m ih=>
  intro o p x e h;obtain⟨s,⟨hh,rfl⟩|⟨xs,hh,rfl,hD⟩⟩:=aiy h
  ·rw[Uj hh,Jz];rfl
  ·have hp:=Du hh;have:=ag2 o (D m o) (λ s x s' h=>⟨(Ld h).1,(Ld h).2,ih o s x s' h⟩) _ _ _ _ _ s hD (jf _) (by rw[Nat.sub_self];rfl)
   rw[Ib,this,Uj hh,Qf hp.2.2.1 hp.2.2.2.1];rfl
theorem R9(low n:Nat):0<(hd low n).length:=by
 by_cases h:n<=55
 ·rw[Ep _ _ h];exact Nat.succ_pos _
 ·rw[Fb _ _ h];exact Nat.succ_pos _
theorem K9{o:List UInt8}{p:Nat}{c:UInt8}{l:List UInt8}(h:o.drop p=c::l):o[p]? = some c/\o.drop (p+1)=l:=
 ⟨by rw[<-Nat.add_zero p,<-List.getElem?_drop,h];rfl,by rw[<-List.drop_drop,h];rfl⟩
theorem Wv{o:List UInt8}{p:Nat}{c:UInt8}{l a b:List UInt8}(h:o[p]? = some c)(k:o.drop (p+1)=a++b):p+1+a.length<=o.length:=by
 refine Nat.add_le_of_le_sub' (iw.mp h).1 ?_;rw[<-nq,k,cg];exact dz _ _
theorem ada{low u:Nat}(hlow:low=128\/low=192)(hu:u<=63):((low+u).toUInt8).toNat=low+u/\¬((low+u).toUInt8).toNat<128/\((low+u).toUInt8).toNat-(if 192<=((low+u).toUInt8).toNat then 192 else 128)=u/\decide (192<=((low+u).toUInt8).toNat)=decide (low=192):=by
 have hl:low<=192:=by rcases hlow with rfl|rfl<;>decide
 have e:((low+u).toUInt8).toNat=low+u:=Nat.mod_eq_of_lt (fj (j7 hl hu) (by decide))
 rw[e];rcases hlow with rfl|rfl
 ·have h:¬192<=128+u:=Nat.not_le.2 (fj (jh hu 128) (by decide))
  exact⟨rfl,jx.2 (dz _ _),by rw[bx h];exact jm ..,ig h⟩
 ·have h : 192<=192+u:=dz _ _;exact⟨rfl,jx.2 (ak (by decide) h),by rw[bf h];exact jm ..,fu h⟩
theorem af3(low n:Nat)(hlow:low=128\/low=192)(hn:n<=1000000)(o:List UInt8)(p:Nat)(body r:List UInt8)(h:o.drop p=hd low n++(body++r))(hb:body.length=n)
 (hbare:low=128->∀c,body=[c]->¬c.toNat<128):
 hdr o p=some (decide (low=192),p+(hd low n).length,p+(hd low n).length+n):=by
 by_cases h55:n<=55
 ·rw[Ep _ _ h55]at h⊢;obtain⟨hc,hd1⟩:=K9 h;obtain⟨e1,e2,e3,e4⟩:=ada hlow (ak h55 (by decide))
  rw[Zq hc e2 e3 h55,bx (jx.2 (hb▸Wv (l:=[]) hc hd1)),bx,e4];rfl;rintro⟨h1,h2,h3⟩;obtain⟨c,rfl⟩:=List.length_eq_one_iff.1 (hb.trans h2);rw[(K9 hd1).1]at h3;refine hbare (hlow.resolve_right λ q=>?_) c rfl h3;rw[e1,q]at h1;exact absurd h1 (jx.2 (dz _ _))
 ·have h3:=Ej n hn;have hk : 0<(nb n).length:=Nat.pos_of_ne_zero λ e=>h55 (by rw[<-Ky n,List.length_eq_zero_iff.mp e];exact n6 _)
  rw[Fb _ _ h55,jt]at h;rw[Fb _ _ h55,pq,j6 (nb n).length 1,<-jt];obtain⟨hc,hd1⟩:_/\o.drop (p+1)=nb n++(body++r):=K9 h;obtain⟨e1,e2,e3,e4⟩:=ada hlow (ak (jh h3 55) (by decide):55+(nb n).length<=63)
  have hr:Zx o (p+1) (nb n).length=some n:=by
   unfold Zx;rw[bx (jx.2 (Wv (l:=[]) hc hd1)),hd1,List.take_left,bx (acu n),Ky,bx h55]
  rw[Uh hc e2 e3 (Nat.not_le.2 (Nat.lt_add_of_pos_right hk)),jm,hr,e4];refine bx (jx.2 ?_);have:=Wv (l:=[]) hc (hd1.trans (jc ..).symm);rw[cg,hb,<-jt]at this;exact this
theorem D_b(m:Nat)(l:List UInt8)(hl:l.length<=1000000)(o:List UInt8)(p:Nat)(r:List UInt8)(h:o.drop p=Jv l++r):D (m+1) o p=some (.b l,p+(Jv l).length):=by
 rcases Ms l with⟨c,rfl,h2,e⟩|⟨e,hn⟩<;>rw[e]at h⊢
 ·rw[D_1,X5 (K9 h).1 h2];show some (It.b ((o.drop p).take (p+1-p)),p+1)=_;rw[jm,h];rfl
 ·rw[jc]at h;rw[D_1,af3 128 l.length (.inl rfl) hl o p l r h rfl λ _ c e=>by
   obtain⟨d,e',h'⟩:=hn (e▸rfl)
   rwa [List.head_eq_of_cons_eq (e.symm.trans e')]]
  show some (It.b ((o.drop (p+(hd 128 l.length).length)).take _),_)=_;rw[jm,<-List.drop_drop,h,List.drop_left,List.take_left,cg,jt]
theorem V9(x:It):0<(enc x).length:=by
 cases x with
 |b l=>
  rw[Jz];rcases Ms l with⟨c,rfl,_,e⟩|⟨e,_⟩<;>rw[e]
  ·exact Nat.succ_pos _
  ·rw[cg];exact cu (R9 _ _) (dz _ _)
 |l xs=>rw[Ib,cg];exact cu (R9 _ _) (dz _ _)
theorem Ck{y:It}{xs:List It}(hy:y∈xs):(enc y).length<=((xs.map enc).flatten).length:=
 (List.sublist_flatten_of_mem (List.mem_map_of_mem (f:=enc) hy)).length_le
theorem Nh(l:List UInt8):l.length<=(Jv l).length:=by
 rcases Ms l with⟨c,_,_,e⟩|⟨e,_⟩<;>rw[e]
 ·exact jf _
 ·rw[cg];exact iy _ _
theorem acy(o:List UInt8)(f:Nat->Option (It×Nat)):∀(ys:List It),(∀y∈ys,∀s r,o.drop s=enc y++r->f s=some (y,s+(enc y).length))->
 ∀(k s:Nat) (acc:List It) (r:List UInt8),((ys.map enc).flatten).length<k->o.drop s=(ys.map enc).flatten++r->
 DL f k s (s+((ys.map enc).flatten).length) acc=some (acc++ys)
 | _,_,0,_,_,_,hk,_=>absurd hk (Nat.not_lt_zero _)
 |[],_,k+1,s,acc,r,_,_=>(bx (Nat.lt_irrefl s)).trans ((bf rfl).trans (au some (jo acc).symm))
 |y::ys,hf,k+1,s,acc,r,hk,h=>by
  have hp:=V9 y;rw[je,List.flatten_cons,cg]at hk;rw[je,List.flatten_cons]at h⊢;rw[jc]at h;rw[amv,bf (Nat.lt_add_of_pos_right (by rw[cg];exact cu hp (dz _ _))),hf y f9 s _ h,cg,<-jt]
  refine(acy o f ys (λ z hz=>hf z (bk _ hz)) k (s+(enc y).length) (acc++[y]) r (cu (Nat.lt_add_of_pos_left hp) (m7 hk)) (by rw[<-List.drop_drop,h,List.drop_left])).trans ?_
  rw[jc];rfl
theorem Vh:∀(m:Nat)(x:It),Gw m x=true->(enc x).length<=1000000->∀(o:List UInt8)(p:Nat)(r:List UInt8),o.drop p=enc x++r->D m o p=some (x,p+(enc x).length)
 |0,x,h,_,_,_,_,_=>by cases x<;>exact nomatch h
 |m+1,.b l,_,hlim,o,p,r,h=>by
  rw[Jz]at h hlim ⊢;exact D_b m l (ak (Nh l) hlim) o p r h
 |m+1,.l xs,hx,hlim,o,p,r,h=>by
  have hx':xs.all (Gw m)=true:=by rw[Gw]at hx;exact hx
  rw[Ib]at h hlim ⊢;rw[jc]at h;rw[cg]at hlim ⊢;have hl2:=ak (iy _ _) hlim;have:=acy o (D m o) xs (λ y hy s r hs=>Vh m y (List.all_eq_true.1 hx' y hy) (ak (Ck hy) hl2) o s r hs)
   (((xs.map enc).flatten).length+1) (p+(hd 192 ((xs.map enc).flatten).length).length) [] r (m9 _) (by rw[<-List.drop_drop,h,List.drop_left])
  rw[D_1,af3 192 _ (Or.inr rfl) hl2 o p ((xs.map enc).flatten) r h rfl λ h=>nomatch h];show(DL _ (_ - _ + 1) _ _ _).map _ = _;rw[jm,this,jt];rfl
noncomputable def rV(k:Nat)(q:Option (It×Nat))(st:Store):R V:=match q with
 |some (x,e)=>if Gw k x then .ok (.tuple [x.v,.int e]) st else .exc .rlp st
 |none=>.exc .rlp st
theorem Lf(k:Nat)(xs:List It):Gw (k+1) (.l xs)=xs.all (Gw k):=by rw[Gw]
theorem Ot(k:Nat)(l:List UInt8):Gw (k+1) (.b l)=true:=by rw[Gw]
theorem az3(k:Nat)(l:List UInt8)(e:Nat)(st:Store):rV (k+1) (some (.b l,e)) st=.ok (.tuple [.bytes l,.int e]) st:=by
 rw[rV,Ot,bf rfl,Ox]
theorem az1(k:Nat)(xs:List It)(e:Nat)(st:Store)(h:xs.all (Gw k)=true):rV (k+1) (some (.l xs,e)) st=.ok (.tuple [(It.l xs).v,.int e]) st:=
 by rw[rV,Lf,h,bf rfl]
theorem aum(k:Nat)(xs:List It)(e:Nat)(st:Store)(h:xs.all (Gw k)=false):rV (k+1) (some (.l xs,e)) st=.exc .rlp st:=
 by rw[rV,Lf,h,bx Bool.noConfusion]
theorem apt(f:Nat->Option (It×Nat)):∀(k s e:Nat)(acc xs:List It),DL f k s e acc=some xs->∃r,xs=acc++r:=by
 intro k
 induction k with
 |zero=>intro s e acc xs h;exact nomatch h
 |succ k ih=>
  intro s e acc xs h;rcases aal h with⟨x,s',_,h⟩|⟨_,rfl⟩
  ·obtain⟨r,hr⟩:=ih _ _ _ _ h;exact⟨x::r,hr.trans (jc ..)⟩
  ·exact⟨[],(jo _).symm⟩
noncomputable def aev:Ex:=.cmp .lt (.nm "start") (.nm "end")
noncomputable def ahg:u9:=(.cons (.asg (.tup (.cons (.nm "item") (.cons (.nm "start") .nil))) (.call "read_item" (.cons (.nm "octets") (.cons (.nm "start") (.cons (.bin .add (.nm "depth") (.int 1)) .nil)))))
 (.cons (.app "found" none (.nm "item"))
 .nil))
theorem aj4(cf:CF)(can:Bool)(st:Store)(o:List UInt8)(e s0 d k0:Nat)(f:Nat->Option (It×Nat))
 (hf:∀s st',s0<=s->cf "read_item" [.val (.bytes o),.val (.int s),.val (.int ((d:Int)+1))] st'=rV k0 (f s) st') (hm:∀s x s',f s=some (x,s')->s<s'):
 ∀(k s:Nat) (acc:List It) (ρ:Loc) (j:Nat),s0<=s->e-s<k->e-s<j->acc.length+(e-s)<=100000->acc.all (Gw k0)=true->
 lk "octets" ρ=some (.val (.bytes o))->lk "start" ρ=some (.val (.int s))->lk "end" ρ=some (.val (.int e))->lk "found" ρ=some (.cell st.length)->lk "depth" ρ=some (.val (.int d))->
 (∃g,whl cf can aev ahg j ρ (st++[⟨true,.list (acc.map It.v)⟩])=.exc .rlp (st++[⟨true,.list g⟩])/\∀xs,DL f k s e acc=some xs->xs.all (Gw k0)=false)\/
 (∃(ρ':Loc) (s':Nat) (xs:List It),whl cf can aev ahg j ρ (st++[⟨true,.list (acc.map It.v)⟩])=.ok (.next ρ') (st++[⟨true,.list (xs.map It.v)⟩])/\
  lk "start" ρ'=some (.val (.int s'))/\lk "end" ρ'=some (.val (.int e))/\lk "found" ρ'=some (.cell st.length)/\xs.all (Gw k0)=true/\
  DL f k s e acc=if s'=e then some xs else none):=by
 intro k
 induction k with
 |zero=>intro s acc ρ j _ h;exact absurd h (Nat.not_lt_zero _)
 |succ k ih=>
  intro s acc ρ j hs0 hk hj hacc hall h1 h2 h3 h4 h5;cases j with
  |zero=>exact absurd hj (Nat.not_lt_zero _)
  |succ j=>
  rw[amv]
  by_cases hse:s<e
  ·rw[bf hse];have et:ug cf ρ aev (st++[⟨true,.list (acc.map It.v)⟩])=.ok true (st++[⟨true,.list (acc.map It.v)⟩]):=jk (dj h2) (dj h3) (Vt hse);have ec:iu cf ρ (.call "read_item" (.cons (.nm "octets") (.cons (.nm "start") (.cons (.bin .add (.nm "depth") (.int 1)) .nil)))) (st++[⟨true,.list (acc.map It.v)⟩])=_:=gj (b_1 (gw h1) (b_1 (gw h2) (b_1 (v7 rfl (gk (dj h5) rfl rfl)) rfl))) (hf s _ hs0);cases hfs:f s with
   |none=>
    rw[hfs]at ec;exact .inl ⟨_,ae8 et (Gi ec auz),λ xs h=>nomatch h⟩
   |some q=>
    obtain⟨x,s'⟩:=q;rw[hfs]at ec;have hlt:=hm s x s' hfs;have hd:=Nat.sub_lt_sub_left hse hlt
    by_cases hx:Gw k0 x=true
    ·have:=ih s' (acc++[x]) (put "start" (.val (.int s')) (put "item" (.val x.v) ρ)) j (ak hs0 (ql hlt)) (cu hd (m7 hk)) (cu hd (m7 hj)) (by rw[cg,jt,j6 [x].length];exact ak (jh hd _) hacc)
      (by rw[List.all_append,hall,List.all_cons,hx];rfl) (m6 (by decide) (m6 (by decide) h1)) Ce (m6 (by decide) (m6 (by decide) h3)) (m6 (by decide) (m6 (by decide) h4)) (m6 (by decide) (m6 (by decide) h5))
     rw[nu]at this;have e1:∀{X:R Fl},whl cf can aev ahg j (put "start" (.val (.int s')) (put "item" (.val x.v) ρ)) (st++[⟨true,.list (acc.map It.v++[x].map It.v)⟩])=X->whl cf can aev ahg (j+1) ρ (st++[⟨true,.list (acc.map It.v)⟩])=X:=λ h=>
      ae8 et (z7 (ec.trans (bf hx)) Td (K6 (m6 (by decide) (m6 (by decide) h4)) (tu _ _ _) (dj (m6 (by decide) Ce)) (Ow (by rw[bw];exact ak (dz _ _) (ak hacc (by decide)))) (yd (al4 h))))
     rcases this with⟨g,hw,hd⟩|⟨ρ',s'',xs,hw,ha,hb,hc,hx',hd⟩
     ·exact .inl ⟨g,e1 hw,hd⟩
     ·exact .inr ⟨ρ',s'',xs,e1 hw,ha,hb,hc,hx',hd⟩
    ·refine .inl ⟨_,ae8 et (Gi (ec.trans (bx hx)) auz),λ xs hxs=>?_⟩;obtain⟨r,rfl⟩:=apt _ _ _ _ _ _ hxs;rw[List.all_append,List.all_append,List.all_cons,Bool.eq_false_iff.mpr hx,Bool.false_and,Bool.and_false,Bool.false_and]
  ·rw[bx hse];exact .inr ⟨ρ,s,acc,akr (jk (dj h2) (dj h3) (I9 hse)),h2,h3,h4,hall,rfl⟩
noncomputable def a0s:u9:=(.cons (.asg (.nm "found") (.lst .nil))
 (.cons (.whl aev ahg)
 (.cons (.ifs (.cmp .ne (.nm "start") (.nm "end")) (.cons (.rai .rlp)
  .nil) .nil)
 (.cons (.ret (.tup (.cons (.nm "found") (.cons (.nm "end") .nil))))
 .nil))))
theorem alz:Fv.body=(.cons (.ifs (.cmp .gt (.nm "depth") (.gl "DEEPEST")) (.cons (.rai .rlp)
 .nil) .nil)
 (.cons (.asg (.tup (.cons (.nm "is_list") (.cons (.nm "start") (.cons (.nm "end") .nil)))) (.call "read_head" (.cons (.nm "octets") (.cons (.nm "place") .nil))))
 (.cons (.ifs (.notE (.nm "is_list")) (.cons (.ret (.tup (.cons (.slc (.nm "octets") (.some (.nm "start")) (.some (.nm "end"))) (.cons (.nm "end") .nil))))
  .nil) .nil) a0s))):=rfl
theorem Vi:∀(k N m:Nat)(o:List UInt8)(p d:Nat)(st:Store),k+8<=N->o.length<=5000->cnt (o.drop p)<m->k+d=61->
 CT N "read_item" [.val (.bytes o),.val (.int p),.val (.int d)] st=rV k (D m o p) st:=by
 intro k
 induction k with
 |zero=>
  intro N m o p d st hN ho hm hd;obtain⟨N,rfl⟩:∃i,N=i+8:=⟨N-8,(Nat.sub_add_cancel (le_app hN)).symm⟩;obtain rfl:d=61:=(lg d).symm.trans hd;rw[Oq,show decide (4<=N+7)=true from fu (ak (by decide) (iy 7 N)),show rV 0 (D m o p) st=.exc .rlp st by cases D m o p with|none=>rfl|some q=>unfold rV Gw;rfl]
  refine(?_:Fin _ _ (dw _ _ _ _ _));exact uz (c:=true) (jk (dj rfl) (Cp rfl) rfl) (λ _=>za (z8 uy)) λ c=>nomatch c
 |succ k ih=>
  intro N m o p d st hN ho hm hd;obtain⟨N,rfl⟩:∃i,N=i+8:=⟨N-8,(Nat.sub_add_cancel (le_app hN)).symm⟩;have hN:=Nat.le_of_add_le_add_right (ak (Nat.le_of_eq (j9 k 8 1)) hN:k+8+1<=N+7+1);cases m with
  |zero=>exact absurd hm (Nat.not_lt_zero _)
  |succ m=>
  have hd60:¬60<d:=λ q=>absurd hd (Nat.ne_of_gt (cu (by decide : 61<1+61) (j7 (iy 1 k) q)))
  rw[Oq,D_1,show decide (4<=N+7)=true from fu (ak (by decide) (iy 7 N))]
  have ho':o.length<=1000000:=ak ho (by decide)
  refine(?_:Fin _ _ (dw _ _ _ _ _));rw[alz];refine su (jk (dj rfl) (Cp rfl) (show xg .gt (.int d) (.int 60)=some false from au some (ig λ q=>hd60 (jw.1 q)))) ?_;have eh:iu (CT (N+7)) [("octets",.val (.bytes o)),("place",.val (.int p)),("depth",.val (.int d))] (.call "read_head" (.cons (.nm "octets") (.cons (.nm "place") .nil))) st = _:=gj (b_1 (gw rfl) (b_1 (gw rfl) rfl)) (V7 N o p ho st);cases hq:hdr o p with
  |none=>rw[hq]at eh;exact Gi eh uy
  |some q=>
   obtain⟨b,s,e⟩:=q;have hp:=Du hq;rw[hq]at eh;refine z7 eh rfl ?_;cases b with
   |false=>
    have he:=ak hp.2.2.2.1 ho';have hs:=Xb o s e s e rfl rfl ho' (ak hp.2.2.1 he) he;refine uz (c:=true) (s7 (c:=false) (J6 rfl)) (λ _=>jr (q8 (s_1 (vf (dj rfl) (zj (dj rfl)) (zj (dj rfl)) hs) (s_1 (dj rfl) rfl)) (aj rfl)) (zc ?_)) λ c=>nomatch c;show Fin _ (rV (k+1) (some (.b ((o.drop s).take (e-s)),e)) st) _;rw[az3];exact mz
   |true=>
    have hc:=aj7 hq;have hes:e-s<=5000:=ak (Nat.sub_le _ _) (ak hp.2.2.2.1 ho);refine uz (c:=false) (s7 (c:=true) (J6 rfl)) (λ c=>nomatch c) λ _=>Di rfl rfl rfl ?_;rcases aj4 (CT (N+7)) true st o e s d k (D m o) (λ s' st' hs'=>ih (N+7) m o s' (d+1) st' hN ho (fj (I6 o hs') (cu hc (m7 hm))) ((j9 k d 1).trans hd)) (λ s x s' h=>(Ld h).1)
     (e-s+1) s [] [("octets",.val (.bytes o)),("place",.val (.int p)),("depth",.val (.int d)),("is_list",.val (.bool true)),("start",.val (.int s)),("end",.val (.int e)),("found",.cell st.length)] 100000 (jf _) (m9 _) (fj hes (by decide)) (by rw[List.length_nil,lg];exact ak hes (by decide)) rfl rfl rfl rfl rfl rfl with
     ⟨g,hw,hdl⟩|⟨ρ',s',xs,hw,ha,hb,hf,hall,hdl⟩
    ·refine Qt hw (z8 ?_);show Fin _ (rV (k+1) ((DL _ _ _ _ _).map _) st) _;cases hD:DL (D m o) (e-s+1) s e []with
     |none=>exact Od
     |some xs=>
      show Fin _ (rV (k+1) (some (.l xs,e)) st) _;rw[aum _ _ _ _ (hdl xs hD)];exact Od
    ·refine Qt hw (Bu ?_);show Fin _ (rV (k+1) ((DL _ _ _ _ _).map _) st) _;rw[hdl]
     by_cases h:s'=e
     ·rw[bf h];refine su (jk (dj ha) (dj hb) (au some (bne_eq_false_iff_eq.mpr (by rw[h])))) (jr (q8 (s_1 (Nk hf (aa4 _ _ _ _)) (s_1 (dj hb) rfl)) (aj rfl)) ?_)
      show Fin _ (rV (k+1) (some (.l xs,e)) st) _;rw[az1 _ _ _ _ hall,Nj];exact Bo
     ·rw[bx h];exact v9 (jk (dj ha) (dj hb) (aae h)) (za (z8 Od))
theorem Ss(n m:Nat)(o:List UInt8)(st:Store)(ho:o.length<=5000)(hm:cnt o<m):
 CT (n+70) "decoded" [.val (.bytes o)] st=match D m o 0 with
  |some (x,e)=>if Gw 61 x=true/\e=o.length then .ok x.v st else .exc .rlp st
  |none=>.exc .rlp st:=by
 rw[aex,show decide (4<=n+69)=true from fu (ak (by decide) (iy 69 n))]
 refine(?_:Fin _ _ (dw _ _ _ _ _));have er:iu (CT (n+69)) [("octets",.val (.bytes o))] (.call "read_item" (.cons (.nm "octets") (.cons (.int 0) (.cons (.int 0) .nil)))) st = _:=gj (b_1 (gw rfl) (b_1 (v7 rfl rfl) (b_1 (v7 rfl rfl) rfl))) (Vi 61 (n+69) m o 0 0 st (iy 69 n) ho hm rfl);cases hD:D m o 0 with
 |none=>rw[hD]at er;exact Gi er uy
 |some q=>
  obtain⟨x,e⟩:=q;rw[hD]at er;show Fin _ (if _ then _ else _) _
  by_cases hx:Gw 61 x=true
  ·refine z7 (er.trans (bf hx)) Td ?_;have el:iu (CT (n+69)) _ (.len (.nm "octets")) st = _:=ux (gw (m6 (x:="octets") (y:="end") (u:=.val (.int e)) (by decide) (m6 (x:="octets") (y:="item") (u:=.val x.v) (by decide) (rfl:lk "octets" [("octets",.val (.bytes o))]=_)))) (lB o (ak ho (by decide)))
   by_cases h:e=o.length
   ·rw[bf ⟨hx,h⟩];exact su (jk (dj Ce) el (au some (bne_eq_false_iff_eq.mpr (by rw[h])))) (jr (dj (m6 (by decide) Ce)) mz)
   ·rw[bx (λ k=>h k.2)];exact v9 (jk (dj Ce) el (aae h)) (za (z8 uy))
  ·rw[bx (λ k=>hx k.1)];exact Gi (er.trans (bx hx)) uy
theorem Ab{α : Type}(cf:CF)(elt:Ex)(x:String)(ρ:Loc)(st:Store)(g h : α->V):∀l:List α,(∀a∈l,iu cf ((x,.val (g a))::ρ) elt st=.ok (h a) st)->
 cmp cf elt x .none ρ (l.map g) st=.ok (l.map h) st
 |[],_=>rfl
 |v::r,H=>by
  rw[je,Y0,H v f9,mq,ac7,Ab cf elt x ρ st g h r (λ w hw=>H w (bk _ hw))];rfl
theorem Bb:∀xs:List It,xs.length<=((xs.map enc).flatten).length
 |[]=>jf _
 |x::r=>by
  rw[je,List.flatten_cons,cg,pq,j6];exact j7 (V9 x) (Bb r)
noncomputable def av2:u9:=(.cons (.asg (.nm "body") (.bin .add (.nm "body") (.call "encoded_at" (.cons (.nm "part") (.cons (.bin .add (.nm "depth") (.int 1)) .nil)))))
 .nil)
theorem Vk(cf:CF)(can:Bool)(st:Store)(d:Nat)(tl:List V):∀(xs:List It)(b:List UInt8)(ρ:Loc),(∀y∈xs,cf "encoded_at" [.val y.v,.val (.int ((d:Int)+1))] st=.ok (.bytes (enc y)) st)->
 b.length+((xs.map enc).flatten).length<=1000000->lk "body" ρ=some (.val (.bytes b))->lk "depth" ρ=some (.val (.int d))->
 ∃ρ',N6 cf can (.nm "part") av2 (xs.map It.v++tl) ρ st=N6 cf can (.nm "part") av2 tl ρ' st/\lk "body" ρ'=some (.val (.bytes (b++(xs.map enc).flatten)))/\lk "depth" ρ'=some (.val (.int d))
 |[],b,ρ,_,_,h1,h2=>⟨ρ,rfl,h1.trans (au (λ b=>some (qp.val (.bytes b))) (jo b).symm),h2⟩
 |y::ys,b,ρ,hc,hl,h1,h2=>by
  rw[je,List.flatten_cons,cg,<-jt]at hl;obtain⟨ρ',h3,h4,h5⟩:=Vk cf can st d tl ys (b++enc y) (put "body" (.val (.bytes (b++enc y))) (put "part" (.val y.v) ρ)) (λ z hz=>hc z (bk _ hz)) (by rw[cg];exact hl)
   Ce (m6 (by decide) (m6 (by decide) h2))
  refine⟨ρ',?_,h4.trans (au (λ b=>some (qp.val (.bytes b))) (jc ..)),h5⟩;rw[<-h3];exact Dh rfl (qb rfl (gk (dj (m6 (by decide) h1)) (gj (b_1 (gw Ce) (b_1 (v7 rfl (gk (dj (m6 (by decide) h2)) rfl rfl)) rfl)) (hc y f9)) (Pr (ak (dz _ _) hl))) (yd (Nu rfl)))
theorem agr{cf:CF}{ρ:Loc}{st:Store}{x:String}{l:List UInt8}{e:Ex}(hl:l.length<=1000000)(h:lk x ρ=some (.val (.bytes l)))(he:iu cf ρ e st=.ok (.int (128:Nat)) st):
 ∃c,ug cf ρ (.andE (.cons (.cmp .eq (.len (.nm x)) (.int 1)) (.cons (.cmp .lt (.idx (.nm x) (.int 0)) e) .nil))) st=.ok c st/\Jv l=if c then l else hd 128 l.length++l:=by
 rcases Ms l with⟨c,rfl,h2,q⟩|⟨q,hn⟩
 ·exact⟨true,Dl (c:=true) (d:=true) (jk (ux (gw h) (lB _ hl)) rfl rfl) λ _=>Ks (jk (jz (gw h) rfl (J7 [c] 0 c hl rfl)) he (Vt h2)),q⟩
 ·refine⟨false,?_,q⟩
  by_cases h1:l.length=1
  ·obtain⟨c,rfl,h2⟩:=hn h1;exact Dl (c:=true) (d:=false) (jk (ux (gw h) (lB _ hl)) rfl rfl) λ _=>Ks (jk (jz (gw h) rfl (J7 [c] 0 c hl rfl)) he (I9 h2))
  ·exact Dl (c:=false) (d:=false) (jk (ux (gw h) (lB _ hl)) rfl (amg (b:=1) h1)) λ h=>nomatch h
theorem Gk:∀(k N:Nat)(x:It)(d:Nat)(st:Store),k+6<=N->Gw k x=true->(enc x).length<=1000000->k+d=61->
 CT N "encoded_at" [.val x.v,.val (.int d)] st=.ok (.bytes (enc x)) st
 |0,N,x,d,st,_,h,_,_=>by cases x<;>exact nomatch h
 |k+1,0,x,d,st,hN,_,_,_=>nomatch hN
 |k+1,N+1,x,d,st,hN,hx,hlim,hdp=>by
  obtain⟨M,rfl⟩:∃M,N=M+2:=⟨N-2,(Nat.sub_add_cancel (ak (iy 2 (k+4)) (o8 (ak (Nat.le_of_eq (j9 k 6 1)) hN)))).symm⟩;rw[Hl];refine(?_:Fin _ _ (dw _ _ Bw.body _ _));have hd':d<61:=hdp▸Nat.lt_add_of_pos_left (Nat.succ_pos k);refine su (jk (dj rfl) rfl (show xg .gt (.int d) (.int 60)=some false from au some (ig λ h=>Nat.not_le.2 hd' (jw.1 h)))) ?_;cases x with
  |b l=>
   rw[Jz]at hlim ⊢;rw[Ox];have hl:l.length<=1000000:=ak (Nh l) hlim;obtain⟨c,h1,h2⟩:=agr (cf:=CT (M+2)) (ρ:=[("item",.val (.bytes l)),("depth",.val (.int d))]) (st:=st) (x:="item") (e:=.gl "OCTETS_rlp") hl rfl rfl;rw[h2]at hlim ⊢;refine su (Ci (dj rfl) rfl) (su (st':=st) rfl (uz h1 (λ c=>?_) λ c=>?_))
   ·rw[bf c];exact jr (dj rfl) (zc mz)
   ·rw[bx (by rw[c];exact Bool.false_ne_true)]at hlim ⊢
    rw[cg]at hlim;exact jr (gk (gj (b_1 (v7 rfl (Cp rfl)) (b_1 (v7 rfl (ux (gw rfl) (lB _ hl))) rfl)) (acf M 128 l.length (by decide) hl st)) (dj rfl) (Pr hlim)) mz
  |l xs=>
   have hx':∀y∈xs,Gw k y=true:=List.all_eq_true.1 (by rw[Lf]at hx;exact hx)
   rw[Ib]at hlim ⊢;rw[Nj];rw[cg]at hlim;have hfl:=le_app hlim;obtain⟨ρ',h3,h4,h5⟩:=Vk (CT (M+2)) (decide (4<=M+2)) st d [] xs [] [("item",.val (.list (xs.map It.v))),("depth",.val (.int d)),("body",.val (.bytes []))]
    (λ y hy=>Gk k (M+2) y (d+1) st (o8 (ak (Nat.le_of_eq (j9 k 6 1)) hN)) (hx' y hy) (ak (Ck hy) hfl) ((j9 k 1 d).symm.trans hdp▸rfl)) (by rw[List.length_nil,lg];exact hfl) rfl rfl
   rw[jo]at h3;refine v9 (Ci (dj rfl) rfl) (qb rfl rfl (Dg (dj rfl) (Ed (by rw[bw];exact ak (Bb xs) hfl)) h3 (Bu ?_)))
   exact jr (gk (gj (b_1 (v7 rfl (Cp rfl)) (b_1 (v7 rfl (ux (gw h4) (lB _ hfl))) rfl)) (acf M 192 _ (by decide) hfl st)) (dj h4) (Pr hlim)) (zc mz)
theorem Q8(n:Nat)(x:It)(st:Store)(hx:Gw 61 x=true)(hl:(enc x).length<=1000000):CT (n+70) "encoded" [.val x.v] st=.ok (.bytes (enc x)) st:=by
 rw[U4];refine(?_:Fin _ _ (dw _ _ Gz.body _ _));exact jr (gj rfl (Gk 61 (n+69) x 0 st (ak (by decide) (iy 69 n)) hx hl rfl)) mz
theorem Rp(n:Nat)(xs:List It)(s:String)(tl:List V)(st:Store)(hx:∀y∈xs,Gw 60 y=true)(hl:((xs.map enc).flatten).length<=100000)(ht:tl.length<=1000):
 CT (n+80) "encoded" [.val (.list (xs.map It.v++.str s::tl))] st=.exc .rlp st:=by
 have h0:CT (n+78) "encoded_at" [.val (.str s),.val (.int 1)] st=.exc .rlp st:=by
  rw[Hl];exact uy
 have hl':((xs.map enc).flatten).length<=1000000:=ak hl (by decide)
 obtain⟨ρ',h3,h4,h5⟩:=Vk (CT (n+78)) (decide (4<=n+78)) st 0 (.str s::tl) xs [] [("item",.val (.list (xs.map It.v++.str s::tl))),("depth",.val (.int 0)),("body",.val (.bytes []))]
  (λ y hy=>Gk 60 (n+78) y 1 st (ak (by decide) (iy 78 n)) (hx y hy) (ak (Ck hy) hl') rfl) (by rw[List.length_nil,lg];exact hl') rfl rfl
 have h1:CT (n+79) "encoded_at" [.val (.list (xs.map It.v++.str s::tl)),.val (.int 0)] st=.exc .rlp st:=by
  rw[Hl];refine(?_:Fin _ _ (dw _ _ Bw.body _ _));refine su (st':=st) rfl (v9 (Ci (dj rfl) rfl) (qb rfl rfl (Dg (dj rfl) (Ed ?_) (h3.trans (Dh rfl (K1 rfl (aby (dj (m6 (by decide) h4)) (gj (b_1 (gw Ce) (b_1 (v7 rfl (gk (dj (m6 (by decide) h5)) rfl rfl)) rfl)) h0)) am2))) (z8 (z8 uy)))))
  rw[cg,bw];exact ak (j7 (ak (Bb xs) hl) (qj ht)) (by decide)
 rw[U4];refine(?_:Fin _ _ (dw _ _ Gz.body _ _));exact Bv (gj rfl h1) uy
theorem Pb{α : Type}(f : α->List UInt8):∀l:List α,bytesOf (l.map λ a=>V.bytes (f a))=some (l.map f)
 |[]=>rfl
 |a::r=>au (Option.map (List.cons (f a))) (Pb f r)
theorem azg{α : Type}(f : α->List UInt8)(l:List α)(h:((l.map f).flatten).length<=1000000)(h2:l.length<=1000000):
 Um (.bytes []) (.list (l.map λ a=>V.bytes (f a)))=some (.bytes ((l.map f).flatten)):=by
 show(match bytesOf (l.map λ a=>V.bytes (f a))with
  |some ls=>if ls.flatten.length<=lim/\(l.map λ a=>V.bytes (f a)).length<=lim then some (V.bytes ls.flatten)else none
  |none=>none)=_
 rw[Pb];exact bf ⟨h,by rw[bw];exact h2⟩
theorem ad0:∀(k N:Nat)(x:It)(st:Store),k+2<=N->Gw k x=true->(enc x).length<=1000000->
 CT N "_law_laid" [.val x.v] st=.ok (.bytes (enc x)) st
 |0,N,x,st,_,h,_=>by cases x<;>exact nomatch h
 |k+1,0,x,st,hN,_,_=>nomatch hN
 |k+1,N+1,x,st,hN,hx,hlim=>by
  have hN:k+2<=N:=o8 (ak (Nat.le_of_eq (j9 k 2 1)) hN);rw[abe];refine(?_:Fin _ _ (dw _ _ Hh.body _ _));have fin:∀{can:Bool}{ρ:Loc}{low:Nat}{F:List UInt8},low<=192->(hd low F.length++F).length<=1000000->lk "law_low" ρ=some (.val (.int low))->lk "law_body" ρ=some (.val (.bytes F))->
   Fin st.length (.ok (.bytes (hd low F.length++F)) st) (dw (CT N) can (.cons (.ifs (.cmp .lt (.len (.nm "law_body")) (.int 56)) (.cons (.ret (.bin .add (.mkb (.lst (.cons (.bin .add (.nm "law_low") (.len (.nm "law_body"))) .nil))) (.nm "law_body")))
   .nil) .nil)
  (.cons (.asg (.nm "law_size") (.call "_law_figures" (.cons (.len (.nm "law_body")) (.cons (.neg (.int 1)) .nil))))
  (.cons (.ret (.bin .add (.bin .add (.mkb (.lst (.cons (.bin .add (.bin .add (.nm "law_low") (.int 55)) (.len (.nm "law_size"))) .nil))) (.nm "law_size")) (.nm "law_body")))
  .nil))) ρ st):=by
   intro can ρ low F hlow h h1 h2;obtain⟨N,rfl⟩:∃M,N=M+1:=⟨N-1,(Nat.sub_add_cancel (ak (iy 1 (k+1)) hN)).symm⟩;rw[cg]at h;have hF:=le_app h;refine uz (jk (ux (gw h2) (lB _ hF)) rfl rfl) (λ c=>?_) λ c=>?_
   ·have q:F.length<=55:=m7 (jw.1 (dh c));rw[Ep _ _ q]at h⊢;exact jr (gk (Ip (qt (s_1 (gk (dj h1) (ux (gw h2) (lB _ hF)) rfl) rfl) (aj rfl)) (mk1 (fj (j7 hlow q) (by decide)))) (dj h2) (Pr h)) (zc mz)
   ·have q:¬F.length<=55:=λ q=>mj c (jw.2 (Nat.lt_succ_of_le q));have h3:=Ej F.length hF;have h4:=ak h3 (by decide : 3<=1000000)
    rw[Fb _ _ q,pq,j6 (nb F.length).length]at h;rw[Fb _ _ q];refine qb rfl (gj (b_1 (v7 rfl (ux (gw h2) (lB _ hF))) (b_1 (v7 rfl rfl) rfl)) (Jd N F.length 3 (fj hF (by decide)) (by decide) st)) ?_
    exact jr (gk (gk (Ip (qt (s_1 (gk (gk (dj (m6 (by decide) h1)) rfl rfl) (ux (gw Ce) (lB _ h4)) rfl) rfl) (aj rfl)) (mk1 (fj (j7 (jg hlow 55) h3) (by decide)))) (dj Ce) (Pr (ak (dz _ _) h))) (dj (m6 (by decide) h2)) (Pr (by rw[cg];exact h))) mz
  cases x with
  |b l=>
   rw[Jz]at hlim ⊢;rw[Ox];have hl:l.length<=1000000:=ak (Nh l) hlim;refine qb rfl (wg (st':=st) rfl rfl) (qb rfl (wg (st':=st) rfl (dj rfl)) ?_);obtain⟨c,h1,h2⟩:=agr (cf:=CT N) (ρ:=[("law_item",.val (.bytes l)),("law_low",.val (.int 128)),("law_body",.val (.bytes l))]) (st:=st) (x:="law_body") (e:=.int 128) hl rfl rfl;rw[h2]at hlim ⊢;refine uz (c:=c) (Dl (c:=true) (d:=c) rfl λ _=>h1) (λ q=>?_) λ q=>?_
   ·rw[bf (q:c=true)];exact jr (dj rfl) (zc mz)
   ·rw[bx (by rw[(q:c=false)];exact Bool.false_ne_true)]at hlim ⊢
    exact fin (low:=128) (by decide) hlim rfl rfl
  |l xs=>
   have hx':∀y∈xs,Gw k y=true:=List.all_eq_true.1 (by rw[Lf]at hx;exact hx)
   rw[Ib]at hlim ⊢;rw[Nj];have hfl:((xs.map enc).flatten).length<=1000000:=le_app (by rw[cg]at hlim;exact hlim)
   have hxl:=ak (Bb xs) hfl;refine qb rfl (yu (st':=st) rfl rfl) (qb rfl (yu (st':=st) rfl (atl rfl (Dp (dj rfl) (Ed (by rw[bw];exact hxl)) (Ab _ _ _ _ _ _ (λ y=>.bytes (enc y)) xs λ y hy=>gj rfl (ad0 k N y st hN (hx' y hy) (ak (Ck hy) hfl))) (by rw[bw];exact hxl)) (azg enc xs hfl hxl))) (su (st':=st) rfl ?_))
   exact fin (low:=192) (by decide) hlim rfl rfl
structure Ir where
 kind:Int
 chain:Int
 nonce:Int
 priority:Int
 cap:Int
 limit:Int
 target:Option Int
 value:Int
 data:V
 access:List (Int×List Int)
 sig:Option (Int×Int×Int)
noncomputable def tgV(o:Option Int):V:=match o with
 |some a=>.int a
 |none=>.none
noncomputable def Gj(a:Int×List Int):V:=.tuple [.int a.1,.list (a.2.map .int)]
noncomputable def aqq(o:Option (Int×Int×Int)):V:=match o with
 |some (p,r,s)=>.tuple [.int p,.int r,.int s]
 |none=>.none
noncomputable def objOf(t:Ir):List (String×V):=[("kind",.int t.kind),("chain",.int t.chain),("nonce",.int t.nonce),("priority",.int t.priority),("cap",.int t.cap),("limit",.int t.limit),
 ("target",tgV t.target),("value",.int t.value),("data",t.data),("access",.list (t.access.map Gj)),("signature",aqq t.sig)]
structure Gq(d:List (String×V))(t:Ir):Prop where
 kind:lk "kind" d=some (.int t.kind)
 chain:lk "chain" d=some (.int t.chain)
 nonce:lk "nonce" d=some (.int t.nonce)
 priority:lk "priority" d=some (.int t.priority)
 cap:lk "cap" d=some (.int t.cap)
 limit:lk "limit" d=some (.int t.limit)
 target:lk "target" d=some (tgV t.target)
 value:lk "value" d=some (.int t.value)
 data:lk "data" d=some t.data
 access:lk "access" d=some (.list (t.access.map Gj))
 sig:lk "signature" d=some (aqq t.sig)
theorem c_T(m:Nat)(args:List qp)(st:Store):CT (m+2) "Transaction" args st=Wq (CT m) (decide (4<=m)) yr args st:=by rfl
theorem a0b(l:List V)(i:Int):zp (.tuple l) (.int i)=if l.length<=lim then(place i l.length).bind (l[·]?)else Option.none:=rfl
theorem ave(l:List V)(i:Int):zp (.list l) (.int i)=if l.length<=lim then(place i l.length).bind (l[·]?)else Option.none:=rfl
noncomputable def nwR(n:Nat)(st':Store):R V:=match st'[n]? with
 |some ⟨true,.obj l⟩=>.ok (.obj l) st'
 | _=>.bad
noncomputable def Nw(n:Nat)(w:R V)(r:R Fl):Prop:=back n (r.bind λ fl st'=>match fl with
 |.next _=>nwR n st'
 |.ret _=>.bad)=w
theorem av4{ρ:Loc}{st:Store}{l:List (String×V)}:Nw st.length (.ok (.obj l) st) (.ok (.next ρ) (st++[⟨true,.obj l⟩])):=by
 have e:nwR st.length (st++[⟨true,.obj l⟩])=.ok (.obj l) (st++[⟨true,.obj l⟩]):=by
  show(match(generalizing:=false) (st++[⟨true,.obj l⟩])[st.length]? with
   |some ⟨true,.obj l⟩=>_
   | _=> _)=_
  rw[tu]
 show back _ (nwR _ _)=_;rw[e];exact au _ (Kw _ _)
theorem Sw{cf:CF}{can:Bool}{ρ:Loc}{st:Store}{ss:u9}{W:R Fl->Prop}{n x:String}{v:V}{l:List (String×V)}(h:lk "self" ρ=some (.cell st.length))(hv:lk x ρ=some (.val v))(hl:l.length<=900)
 (k:W (dw cf can ss ρ (st++[⟨true,.obj (put n v l)⟩]))):W (dw cf can (.cons (.asg (.attr "self" n) (.nm x)) ss) ρ (st++[⟨true,.obj l⟩])):=by
 have e:Bh (.cell st.length) n v (st++[⟨true,.obj l⟩])=some (st++[⟨true,.obj (put n v l)⟩]):=by
  show(match(generalizing:=false) (st++[⟨true,.obj l⟩])[st.length]? with
   |some ⟨true,.obj l⟩=>if l.length<=900 then some ((st++[_]).set st.length ⟨true,.obj (put n v l)⟩)else none
   | _=>none)=_
  rw[tu,<-Je st _ ⟨true,.obj (put n v l)⟩ []];exact bf hl
 rw[Pg,aym,akk,hv,axo,az8,mq,ags,axw,h,aw6,e];exact k
theorem awu(m:Nat)(a0 a1 a2 a3 a4 a5 a6 a7 a8 a9 a10:V)(st:Store):
 CT (m+2) "Transaction" [.val a0,.val a1,.val a2,.val a3,.val a4,.val a5,.val a6,.val a7,.val a8,.val a9,.val a10] st =
 .ok (.obj [("kind",a0),("chain",a1),("nonce",a2),("priority",a3),("cap",a4),("limit",a5),("target",a6),("value",a7),("data",a8),("access",a9),("signature",a10)]) st:=by
 rw[c_T];refine(?_:Nw _ _ (dw _ _ yr.body _ _));refine Sw rfl rfl (aj rfl) ?_;refine Sw rfl rfl (aj rfl) ?_;refine Sw rfl rfl (aj rfl) ?_;refine Sw rfl rfl (aj rfl) ?_;refine Sw rfl rfl (aj rfl) ?_;refine Sw rfl rfl (aj rfl) ?_;refine Sw rfl rfl (aj rfl) ?_;refine Sw rfl rfl (aj rfl) ?_;refine Sw rfl rfl (aj rfl) ?_;refine Sw rfl rfl (aj rfl) ?_;refine Sw rfl rfl (aj rfl) ?_;exact av4
theorem Vg(n:Nat)(d:List (String×V))(t:Ir)(h:Gq d t)(st:Store):CT (n+4) "_law_made" [.val (.dict d)] st=.ok (.obj (objOf t)) st:=by
 rw[aad];refine(?_:Fin _ _ (dw _ _ G7.body _ _));have g:∀{x v},lk x d=some v->∀{ρ},lk "law_tx" ρ=some (.val (.dict d))->iu (CT (n+3)) ρ (.idx (.nm "law_tx") (.str x)) st=.ok v st:=λ h ρ k=>jz (gw k) rfl h;refine qb rfl (q8 (s_1 (g h.kind rfl) (s_1 (g h.chain rfl) (s_1 (g h.nonce rfl) (s_1 (g h.priority rfl) (s_1 (g h.cap rfl) (s_1 (g h.limit rfl) rfl)))))) (aj rfl)) ?_;refine qb rfl (q8 (s_1 (g h.target rfl) (s_1 (g h.value rfl) (s_1 (g h.data rfl) (s_1 (g h.access rfl) (s_1 (g h.sig rfl) rfl))))) (aj rfl)) ?_;refine jr (anp rfl (awu _ _ _ _ _ _ _ _ _ _ _ _ _)) mz
noncomputable def W6(t:Ir):List (String×V):=objOf t
theorem aee(n:Nat)(t:Ir)(st:Store):CT (n+1) "_law_fields" [.val (.obj (objOf t))] st=.ok (.dict (W6 t)) st:=by
 rw[Vy];exact mz
noncomputable def inR(a:Int)(k:Nat):Prop:=0<=a/\a<P2 k
structure Cj(t:Ir):Prop where
 kind:t.kind=0\/t.kind=1\/t.kind=2
 price:t.kind≠2->t.priority=t.cap
 acc:t.kind=0->t.access=[]
 nonce:inR t.nonce 64
 limit:inR t.limit 64
 chain:inR t.chain 256
 priority:inR t.priority 256
 cap:inR t.cap 256
 value:inR t.value 256
 target:∀a,t.target=some a->inR a 160
theorem axq(a b:List UInt8):eqF (.bytes a) (.bytes b)=some (decide (a=b)):=by
 show some (a==b)=_
 by_cases h:a=b<;>simp[h]
theorem au0(a:V):inV a []=some false:=rfl
theorem agw(a b:V)(r:List V):inV a (b::r)=match eqF b a,inV a r with
 |some x,some y=>some (x||y)
 | _,_=>Option.none:=rfl
noncomputable def nfR(t:Ir)(st:Store):R V:=@ite _ (Cj t) (Classical.propDecidable _) (.ok .none st) (.exc .rlp st)
section
variable{cf:CF}{ρ:Loc}{st:Store}{t e g:Ex}{c d:Bool}{ss:u9}
theorem Wz{x:Exc}{q:R Fl}(h:ug cf ρ t st=.ok c st)(ht:c=true->.exc x st=q)(hf:c=false->dw cf true ss ρ st=q):dw cf true (.cons (.ifs t (.cons (.rai x) .nil) .nil) ss) ρ st=q:=by
 rw[ac8,h];cases c
 ·rw[aoh];exact hf rfl
 ·rw[aoi,<-ht rfl];rfl
end
theorem acp{a:Int}{k:Nat}(h:(!(decide (0<=a)&&decide (a<P2 k)))=true):¬inR a k:=λ i=>by
 rw[fu i.1,fu i.2]at h;cases h
theorem adt{a:Int}{k:Nat}(h:(!(decide (0<=a)&&decide (a<P2 k)))=false):inR a k:=by
 rw[Bool.not_eq_false',sy]at h;exact⟨dh h.1,dh h.2⟩
theorem ab5{cf:CF}{st:Store}{T:qp}:∀(l:List Int)(ρ:Loc),lk "tx" ρ=some T->
 (∃ρ',lk "tx" ρ'=some T/\N6 cf true (.nm "number") (.cons (.ifs (.notE (.cmp2 .le .lt (.int 0) (.nm "number") (.gl "WORD"))) (.cons (.rai .rlp) .nil) .nil) .nil) (l.map .int) ρ st=.ok (.next ρ') st/\∀a∈l,inR a 256)\/
 (N6 cf true (.nm "number") (.cons (.ifs (.notE (.cmp2 .le .lt (.int 0) (.nm "number") (.gl "WORD"))) (.cons (.rai .rlp) .nil) .nil) .nil) (l.map .int) ρ st=.exc .rlp st/\∃a∈l,¬inR a 256)
 |[],ρ,h=>.inl ⟨ρ,h,rfl,λ _ h=>nomatch h⟩
 |a::l,ρ,h=>by
  rw[je,anr,Wg,av7];have e:iu cf (put "number" (.val (.int a)) ρ) (.nm "number") st=.ok (.int a) st:=by rw[akk,lkp,bf rfl];rfl
  have h':lk "tx" (put "number" (.val (.int a)) ρ)=some T:=by rw[lkp,bx (by decide)];exact h
  have hb:ug cf (put "number" (.val (.int a)) ρ) (.notE (.cmp2 .le .lt (.int 0) (.nm "number") (.gl "WORD"))) st=.ok (!(decide (0<=a)&&decide (a<P2 256))) st:=s7 (Lw e (by show m5 (J3 _) _ = _;rw[Az];rfl))
  cases c:(!(decide (0<=a)&&decide (a<P2 256)))with
  |true=>
   refine .inr ⟨?_,a,f9,acp c⟩;rw[Wz (q:=.exc .rlp st) hb (λ _=>rfl) (λ q=>by rw[q]at c;cases c)];rfl
  |false=>
   rw[Wz (q:=.ok (.next (put "number" (.val (.int a)) ρ)) st) hb (λ q=>by rw[q]at c;cases c) (λ _=>rfl),awc]
   rcases ab5 l _ h' with⟨ρ',k1,k2,k3⟩|⟨k1,b,k2,k3⟩
   ·exact .inl ⟨ρ',k1,k2,dg.mpr ⟨adt c,k3⟩⟩
   ·exact .inr ⟨k1,b,bk _ k2,k3⟩
theorem br{cf:CF}{ρ:Loc}{st:Store}{t:Ex}{c:Bool}{ss:u9}{x:Exc}{w:R V}{n:Nat}(h:ug cf ρ t st=.ok c st)(ht:c=true->back n (kb Ay (.exc x st))=w)(hf:c=false->back n (kb Ay (dw cf true ss ρ st))=w):
 back n (kb Ay (dw cf true (.cons (.ifs t (.cons (.rai x) .nil) .nil) ss) ρ st))=w:=by
 rw[ac8,h];cases c
 ·rw[aoh];exact hf rfl
 ·rw[aoi];exact ht rfl
theorem Jy(n:Nat)(t:Ir)(st:Store):CT (n+5) "need_form" [.val (.obj (objOf t))] st=nfR t st:=by
 rw[Zv,show decide (4<=n+4)=true from fu (iy 4 n)];have bad:¬Cj t->back st.length (kb Ay (.exc .rlp st))=nfR t st:=λ h=>by
  unfold nfR;rw[bx h];show R.exc _ (st.take st.length)=_;rw[List.take_length]
 have good:Cj t->∀ρ,back st.length (kb Ay (.ok (.next ρ) st))=nfR t st:=λ h ρ=>by
  unfold nfR;rw[bf h];show R.ok _ (st.take st.length)=_;rw[List.take_length]
 have at':∀{x v},lk x (objOf t)=some v->∀{ρ},lk "tx" ρ=some (.val (.obj (objOf t)))->iu (CT (n+4)) ρ (.attr (.nm "tx") x) st=.ok v st:=λ h ρ k=>by rw[ano,k,aov,h];rfl
 have ai:∀{ρ a b}{e g:Ex}{o:J8}{c:Bool},iu (CT (n+4)) ρ e st=.ok a st->iu (CT (n+4)) ρ g st=.ok b st->xg o a b=some c->ug (CT (n+4)) ρ (.cmp o e g) st=.ok c st:=λ h k q=>by
  rw[aou,h,mq,adv,k,mq,Rk,q];rfl
 have r0:lk "tx" [("tx",qp.val (.obj (objOf t)))]=some (.val (.obj (objOf t))):=rfl;have gl:∀{ρ x v},J3 x=some v->iu (CT (n+4)) ρ (.gl x) st=.ok v st:=λ h=>by show m5 _ _ = _;rw[h];rfl
 refine br (ai (at' rfl r0) (b:=.tuple [.int 0,.int 1,.int 2]) rfl rfl) (λ c=>bad λ h=>by have:=h.kind;simp at c;lia) λ c1=>?_
 refine br (Km (ai (at' rfl r0) (b:=.int 2) rfl rfl) (ai (at' rfl r0) (at' rfl r0) rfl)) (λ c=>bad λ h=>by have:=h.price;simp at c;exact c.2 (this c.1)) λ c2=>?_
 refine br (Km (ai (at' rfl r0) (b:=.int 0) rfl rfl) (ai (at' rfl r0) (b:=.list []) rfl rfl)) (λ c=>bad λ h=>by have:=h.acc;simp at c;exact c.2 (this c.1)) λ c3=>?_
 refine br (Dn (s7 (Lw (a:=t.nonce) (at' rfl r0) (gl Qi))) (s7 (Lw (a:=t.limit) (at' rfl r0) (gl Qi)))) (λ c=>bad λ h=>(Bool.or_eq_true_iff.mp c).elim (λ c=>acp c h.nonce) λ c=>acp c h.limit) λ c4=>?_;rw[Bool.or_eq_false_iff]at c4;rw[agy,ahe,show iu (CT (n+4)) _ _ st=.ok (.tuple ([t.chain,t.priority,t.cap,t.value].map .int)) st from rfl,mq,ago,show m5 (itemsOf _) st=.ok ([t.chain,t.priority,t.cap,t.value].map .int) st from rfl,aik];rcases ab5 (cf:=CT (n+4)) (st:=st) [t.chain,t.priority,t.cap,t.value] _ r0 with⟨ρ,h1,h2,h3⟩|⟨h1,a,h2,h3⟩
 ·rw[h2];simp only[dg]at h3;show back st.length (kb Ay (dw (CT (n+4)) true _ ρ st))=_;have nok:(∀a,t.target=some a->inR a 160)->Cj t:=λ h=>⟨by simp at c1;lia,λ h=>by simp at c2;exact c2 h,λ h=>by simp at c3;exact c3 h,adt c4.1,adt c4.2,h3.1,h3.2.1,h3.2.2.1,h3.2.2.2.1,h⟩
  cases ht:t.target with
  |none=>
   refine br (c:=false) (by rw[anh,a_c,ai (at' (v:=tgV t.target) rfl h1) (b:=.none) rfl (by rw[ht];rfl)];rfl) (λ c=>nomatch c) λ _=> ?_
   exact good (nok λ a h=>by rw[ht]at h;cases h) ρ
  |some a=>
   refine br (Km (ai (at' (v:=tgV t.target) rfl h1) (b:=.none) (c:=true) rfl (by rw[ht];rfl)) (s7 (Lw (a:=a) (at' (by rw[<-show tgV t.target=.int a by rw[ht];rfl];rfl) h1) (gl Lp)))) (λ c=>bad λ h=>acp c (h.target a ht)) λ c=>?_
   exact good (nok λ b h=>by rw[ht]at h;cases h;exact adt c) ρ
 ·rw[h1];refine bad λ h=>h3 ?_;rcases h with⟨_,_,_,_,_,g1,g2,g3,g4,_⟩;simp only[gb,uw,or_false]at h2;rcases h2 with rfl|rfl|rfl|rfl<;>assumption
theorem Vf(n:Nat)(t:Ir)(h:Cj t)(st:Store):CT (n+5) "need_form" [.val (.obj (objOf t))] st=.ok .none st:=(Jy n t st).trans (bf h)
theorem Q6(n:Nat)(t:Ir)(h:¬Cj t)(st:Store):CT (n+5) "need_form" [.val (.obj (objOf t))] st=.exc .rlp st:=(Jy n t st).trans (bx h)
structure Tx where
 kind:Nat
 chain:Nat
 nonce:Nat
 priority:Nat
 cap:Nat
 limit:Nat
 target:Option Nat
 value:Nat
 data:List UInt8
 access:List (Nat×List Nat)
 p:Nat
 r:Nat
 s:Nat
noncomputable def Tx.sg(t:Tx):Option (Int×Int×Int):=some (t.p,t.r,t.s)
noncomputable def Tx.rawd(t:Tx)(d:V)(sg:Option (Int×Int×Int)):Ir:=⟨t.kind,t.chain,t.nonce,t.priority,t.cap,t.limit,t.target.map λ a=>(a:Int),t.value,d,
 t.access.map λ a=>((a.1:Int),a.2.map λ (s:Nat)=>(s:Int)),sg⟩
noncomputable def Tx.raw(t:Tx):Ir:=t.rawd (.bytes t.data) t.sg
structure Valid(t:Tx):Prop where
 kind:t.kind=0\/t.kind=1\/t.kind=2
 price:t.kind≠2->t.priority=t.cap
 acc:t.kind=0->t.access=[]
 nonce:t.nonce<2^64
 limit:t.limit<2^64
 chain:t.chain<2^256
 priority:t.priority<2^256
 cap:t.cap<2^256
 value:t.value<2^256
 target:∀a,t.target=some a->a<2^160
 slots:∀a∈t.access,a.1<2^160/\∀s∈a.2,s<2^256
 p:t.p=0\/t.p=1
 r:t.r<2^256
 s:t.s<2^256
 chain0:t.kind=0->35+2*t.chain+t.p<35+2^257
theorem G9{a k:Nat}(h:a<2^k):inR (a:Int) k:=⟨by lia,Yo.2 h⟩
theorem Valid.form{t:Tx}(h:Valid t)(d:V)(sg:Option (Int×Int×Int)):Cj (t.rawd d sg):=by
 refine⟨?_,?_,?_,G9 h.nonce,G9 h.limit,G9 h.chain,G9 h.priority,G9 h.cap,G9 h.value,?_⟩
 ·have:=h.kind;show(t.kind:Int)=0\/(t.kind:Int)=1\/(t.kind:Int)=2
  lia
 ·intro hk;have:=h.price (λ e=>hk (by show(t.kind:Int)=2;lia))
  show(t.priority:Int)=t.cap
  lia
 ·intro hk;have hk':(t.kind:Int)=0:=hk;have:=h.acc (by lia)
  show t.access.map _ = [];rw[this];rfl
 ·intro a ha;cases ht:t.target with
  |none=>simp[Tx.rawd,ht]at ha
  |some b=>
   simp[Tx.rawd,ht]at ha;subst ha;exact G9 (h.target b ht)
noncomputable def bn(n:Nat):It:=.b (nb n)
noncomputable def tgt(o:Option Nat):It:=match o with
 |some a=>.b (yh 20 a)
 |none=>.b []
noncomputable def qd(a:Nat×List Nat):It:=.l [.b (yh 20 a.1),.l (a.2.map λ s=>.b (yh 32 s))]
noncomputable def kn(t:Tx):List Nat:=match t.kind with
 |0=>[t.nonce,t.cap,t.limit]
 |1=>[t.chain,t.nonce,t.cap,t.limit]
 | _=> [t.chain,t.nonce,t.priority,t.cap,t.limit]
noncomputable def ks(t:Tx):List It:=(kn t).map bn++[tgt t.target,bn t.value]
noncomputable def rowsOf(t:Tx):List It:=ks t++.b t.data::(if t.kind=0 then[]else[.l (t.access.map qd)])
noncomputable def par(t:Tx):Nat:=if t.kind=0 then(if t.chain=0 then 27+t.p else 35+2*t.chain+t.p)else t.p
noncomputable def Kc(t:Tx):It:=.l (rowsOf t++[bn (par t),bn t.r,bn t.s])
noncomputable def itU(t:Tx):It:=.l (rowsOf t++(if t.kind=0/\t.chain≠0 then[bn t.chain,.b [],.b []]else[]))
noncomputable def ahead(t:Tx):List UInt8:=if t.kind=0 then[]else[t.kind.toUInt8]
noncomputable def Ez(t:Tx):List UInt8:=ahead t++enc (Kc t)
noncomputable def asx(t:Tx):List UInt8:=ahead t++enc (itU t)
theorem aey(n:Nat):(bn n).v=.bytes (nb n):=by rw[bn,Ox]
theorem cmp_none(cf:CF)(elt:Ex)(x:String)(c:Ex)(ρ:Loc)(st:Store):∀l:List V,(∀v∈l,ug cf ((x,.val v)::ρ) c st=.ok false st)->cmp cf elt x (.some c) ρ l st=.ok [] st
 |[],_=>rfl
 |v::r,h=>by rw[ajm,h v (by simp),mq,aw8];exact cmp_none cf elt x c ρ st r (λ w hw=>h w (by simp[hw]))
noncomputable def azx:u9:=(.cons (.ifs (.orE (.cons (.notE (.cmp2 .le .lt (.int 0) (.nm "address") (.gl "MOST"))) (.cons (.cmp .ne (.comp (.nm "slot") "slot" (.nm "slots") (.some (.notE (.cmp2 .le .lt (.int 0) (.nm "slot") (.gl "WORD")))) []) (.lst .nil)) .nil))) (.cons (.rai .rlp)
 .nil) .nil)
 (.cons (.app "rows" none (.lst (.cons (.call "address_octets" (.cons (.nm "address") .nil)) (.cons (.comp (.call "word_octets" (.cons (.nm "slot") .nil)) "slot" (.nm "slots") .none []) .nil))))
 .nil))
noncomputable def accN(a:Nat×List Nat):V:=Gj ((a.1:Int),a.2.map λ (s:Nat)=>(s:Int))
theorem M6(a:Nat×List Nat):accN a=.tuple [.int a.1,.list (a.2.map λ (s:Nat)=>V.int (s:Int))]:=by simp[accN,Gj,Function.comp_def]
theorem Zw(a:Nat×List Nat):(qd a).v=.list [.bytes (yh 20 a.1),.list (a.2.map λ s=>.bytes (yh 32 s))]:=by
 simp[qd,Nj,Ox,Function.comp_def]
theorem als(n:Nat)(can:Bool)(st:Store):∀(l:List (Nat×List Nat))(g:List V)(ρ:Loc),(∀a∈l,a.1<2^160/\a.2.length<=1000/\∀s∈a.2,s<2^256)->g.length+l.length<=1000->
 lk "rows" ρ=some (.cell st.length)->
 ∃ρ',N6 (CT (n+3)) can (.tup (.cons (.nm "address") (.cons (.nm "slots") .nil))) azx (l.map accN) ρ (st++[⟨true,.list g⟩])=.ok (.next ρ') (st++[⟨true,.list (g++l.map λ a=>(qd a).v)⟩])/\lk "rows" ρ'=some (.cell st.length):=by
 intro l
 induction l with
 |nil=>intro g ρ _ _ h;exact⟨ρ,by show R.ok _ _ = R.ok _ (_++[⟨true,.list (g++[])⟩]);rw[jo],h⟩
 |cons a l ih=>
  intro g ρ ha hg h;obtain⟨ha1,ha3,ha2⟩:=ha a f9;rw[pq]at hg;have hsl:a.2.length<=1000000:=ak ha3 (aj rfl);have hg1:g.length<=1000000:=ak (dz _ _) (ak hg (aj rfl));have hr:lk "rows" (put "slots" (.val (.list (a.2.map λ (s:Nat)=>V.int (s:Int)))) (put "address" (.val (.int a.1)) ρ))=some (.cell st.length):=m6 (by decide) (m6 (by decide) h)
  obtain⟨ρ',h1,h2⟩:=ih (g++[(qd a).v]) _ (λ b hb=>ha b (bk _ hb)) (by rw[cg,jt,j6 _ l.length];exact hg) hr
  refine⟨ρ',?_,h2⟩;rw[jc]at h1;rw[je,M6];refine Dh Td ?_;have hi:=Ed (l:=a.2.map λ (s:Nat)=>V.int (s:Int)) (by rw[bw];exact hsl)
  refine su (Dn (c:=false) (d:=false) (Qe (dj (m6 (by decide) Ce)) (Cp Lp) ha1) (jk (Dp (dj Ce) hi (cmp_none _ _ _ _ _ _ _ ?_) (aj rfl)) rfl rfl)) ?_
  ·intro v hv;obtain⟨s,hs,rfl⟩:=kj.1 hv;exact Qe rfl (Cp Az) (ha2 s hs)
  refine K6 (v:=(qd a).v) hr (tu _ _ _) ?_ (Ow hg1) (yd (Nu h1));rw[Zw];exact qt (s_1 (gj (b_1 (gw (m6 (by decide) Ce)) rfl) (Fg n _ ha1 _)) (s_1 (Dp (dj Ce) hi (Ab _ _ _ _ _ _ (λ s=>.bytes (yh 32 s)) _ λ s hs=>gj rfl (Iw (n+1) s (ha2 s hs) _)) (by rw[bw];exact hsl)) rfl)) (aj rfl)
theorem Rd(n:Nat)(l:List (Nat×List Nat))(ha:∀a∈l,a.1<2^160/\a.2.length<=1000/\∀s∈a.2,s<2^256)(hl:l.length<=1000)(st:Store):
 CT (n+4) "access_item" [.val (.list (l.map accN))] st=.ok (It.l (l.map qd)).v st:=by
 rw[Gm];refine(?_:Fin _ _ (dw _ _ zy.body _ _));obtain⟨ρ',h1,h2⟩:=als n (decide (4<=n+3)) st l [] [("access",.val (.list (l.map accN))),("rows",.cell st.length)] ha (by rw[List.length_nil,lg];exact hl) rfl
 refine Di rfl rfl rfl (Dg (dj rfl) (Ed (by rw[bw];exact ak hl (aj rfl))) h1 (jr (Nk h2 (aa4 _ _ _ _)) ?_))
 rw[Nj,List.map_map];exact Bo
theorem Nb(t:Tx)(d:V)(sg:Option (Int×Int×Int)):(t.rawd d sg).access.map Gj=t.access.map accN:=by
 simp[Tx.rawd,Function.comp_def,accN]
theorem agu(t:Tx)(d:V)(sg:Option (Int×Int×Int)):tgV (t.rawd d sg).target=oV t.target:=by unfold Tx.rawd;cases t.target<;>rfl
theorem aj8(t:Tx):objOf t.raw=[("kind",.int t.kind),("chain",.int t.chain),("nonce",.int t.nonce),("priority",.int t.priority),("cap",.int t.cap),("limit",.int t.limit),("target",oV t.target),("value",.int t.value),("data",.bytes t.data),("access",.list (t.access.map accN)),("signature",.tuple [.int t.p,.int t.r,.int t.s])]:=by
 rw[objOf,Tx.raw,agu,Nb];rfl
structure Sm(t:Tx):Prop where
 data:t.data.length<=5000
 acc:t.access.length<=1000
 slots:∀a∈t.access,a.2.length<=1000
 whole:(enc (Kc t)).length<=10000
 whole':(enc (itU t)).length<=10000
theorem Zf{a k:Nat}(h:a<2^(8*k))(hk:k<=1000):(yj a+7)/8<=1000:=Rg (k:=k) (by rw[show(256:Nat)=2^8 from rfl,<-Nat.pow_mul];exact h) hk
noncomputable def Cg(t:Tx)(d:V):List V:=(kn t).map (λ a=>(bn a).v)++[(tgt t.target).v,(bn t.value).v,d]++(if t.kind=0 then[]else[(It.l (t.access.map qd)).v])
theorem aif(t:Tx):(ks t).map It.v=(kn t).map (λ a=>(bn a).v)++[(tgt t.target).v,(bn t.value).v]:=by
 rw[ks,nu,List.map_map];rfl
theorem Wx(t:Tx):Cg t (.bytes t.data)=(rowsOf t).map It.v:=by
 rw[rowsOf,nu,aif,je,Ox,apply_ite (List.map It.v),Cg,jc,jc];rfl
noncomputable def ayj:u9:=(.cons (.asg (.nm "target") (.ife (.cmp .iss (.attr (.nm "tx") "target") .non) (.byt []) (.call "address_octets" (.cons (.attr (.nm "tx") "target") .nil))))
 (.cons (.asg (.nm "found") (.bin .add (.comp (.call "number_octets" (.cons (.nm "number") .nil)) "number" (.nm "ahead") .none []) (.lst (.cons (.nm "target") (.cons (.call "number_octets" (.cons (.attr (.nm "tx") "value") .nil)) (.cons (.attr (.nm "tx") "data") .nil))))))
 (.cons (.ret (.ife (.cmp .eq (.attr (.nm "tx") "kind") (.int 0)) (.nm "found") (.bin .add (.nm "found") (.lst (.cons (.call "access_item" (.cons (.attr (.nm "tx") "access") .nil)) .nil)))))
 .nil)))
theorem ak6:G6.body=(.cons (.exp (.call "need_form" (.cons (.nm "tx") .nil)))
 (.cons (.asg (.nm "prices") (.ife (.cmp .eq (.attr (.nm "tx") "kind") (.int 2)) (.lst (.cons (.attr (.nm "tx") "priority") (.cons (.attr (.nm "tx") "cap") .nil))) (.lst (.cons (.attr (.nm "tx") "cap") .nil))))
 (.cons (.asg (.nm "ahead") (.bin .add (.bin .add (.lst (.cons (.attr (.nm "tx") "nonce") .nil)) (.nm "prices")) (.lst (.cons (.attr (.nm "tx") "limit") .nil))))
 (.cons (.ifs (.cmp .ne (.attr (.nm "tx") "kind") (.int 0)) (.cons (.asg (.nm "ahead") (.bin .add (.lst (.cons (.attr (.nm "tx") "chain") .nil)) (.nm "ahead")))
  .nil) .nil) ayj)))):=rfl
theorem aju(n:Nat)(can:Bool)(t:Tx)(h:Valid t)(d:V)(sg:Option (Int×Int×Int)) (X:List (Int×List Int))(st:Store)(l:List Nat)(hl:∀a∈l,a<2^(8*32))(h10:l.length<=10)(p:qp)(w:R V)
 (w0:t.kind=0->w=.ok (.list (l.map (λ a=>(bn a).v)++[(tgt t.target).v,(bn t.value).v,d])) st)
 (w1:t.kind≠0->(∃v,CT (n+5) "access_item" [.val (.list (X.map Gj))] st=.ok v st/\w=.ok (.list (l.map (λ a=>(bn a).v)++[(tgt t.target).v,(bn t.value).v,d]++[v])) st)\/(CT (n+5) "access_item" [.val (.list (X.map Gj))] st=.exc .rlp st/\w=.exc .rlp st)):
 Fin st.length w (dw (CT (n+5)) can ayj [("tx",.val (.obj (objOf { t.rawd d sg with access:=X }))),("prices",p),("ahead",.val (.list (l.map λ (a:Nat)=>V.int (a:Int))))] st):=by
 have num:∀{ρ e a},a<2^(8*32)->ko (CT (n+5)) ρ st e=.ok (.val (.int (a:Nat))) st->iu (CT (n+5)) ρ (.call "number_octets" (.cons e .nil)) st=.ok (bn a).v st:=λ h k=>by
  rw[aey];exact gj (b_1 k rfl) (Ae _ _ (Zf h (by decide)) _)
 have fd:∀{ρ x v},lk "tx" ρ=some (.val (.obj (objOf { t.rawd d sg with access:=X })))->lk x (objOf { t.rawd d sg with access:=X })=some v->iu (CT (n+5)) ρ (.attr (.nm "tx") x) st=.ok v st:=λ h k=>Kz h k;have d7:lk "target" (objOf { t.rawd d sg with access:=X })=some (oV t.target):=au some (agu t d sg);refine qb (v:=(tgt t.target).v) (st':=st) rfl ?_ ?_
 ·cases ht:t.target with
  |none=>rw[ht]at d7;rw[tgt,Ox];exact yu (jk (fd rfl d7) rfl rfl) rfl
  |some a=>rw[ht]at d7;rw[tgt,Ox];exact wg (jk (fd rfl d7) rfl rfl) (gj (b_1 (v7 rfl (fd rfl d7)) rfl) (Fg _ a (h.target a ht) _))
 refine qb rfl (gk (Dp (dj rfl) (Ed (by rw[bw];lia)) (Ab _ _ _ _ _ (λ (a:Nat)=>V.int (a:Int)) (λ a=>(bn a).v) l λ a ha=>num (hl a ha) (gw rfl)) (by rw[bw];exact ak h10 (by decide)))
  (qt (s_1 (dj rfl) (s_1 (num h.value (v7 rfl (fd rfl rfl))) (s_1 (fd rfl rfl) rfl))) (aj rfl)) (Vo (by rw[bw];exact ak (jg h10 3) (by decide)))) ?_
 by_cases h0:t.kind=0
 ·rw[w0 h0];exact jr (yu (jk (fd rfl rfl) rfl (au some (beq_iff_eq.mpr (au Int.ofNat h0)))) (dj rfl)) mz
 ·have ea:∀ρ q,lk "tx" ρ=some (.val (.obj (objOf { t.rawd d sg with access:=X })))->CT (n+5) "access_item" [.val (.list (X.map Gj))] st=q->iu (CT (n+5)) ρ (.call "access_item" (.cons (.attr (.nm "tx") "access") .nil)) st=q:=λ ρ q hρ hq=>gj (b_1 (v7 rfl (fd hρ rfl)) rfl) hq;rcases w1 h0 with⟨v,hv,hw⟩|⟨hv,hw⟩<;>rw[hw]
  ·refine jr (wg (jk (fd rfl rfl) rfl (au some (m8.mpr λ e=>h0 (ju e)))) (gk (dj rfl) (qt (s_1 (ea _ _ rfl hv) rfl) (aj rfl)) (Vo ?_))) mz;rw[cg,bw];exact ak (jg (jg h10 3) 1) (by decide)
  ·exact Bv (wg (jk (fd rfl rfl) rfl (au some (m8.mpr λ e=>h0 (ju e)))) (aby (dj rfl) (aqx (Te (ea _ _ rfl hv))))) uy
theorem Xz(n:Nat)(t:Tx)(h:Valid t)(d:V)(sg:Option (Int×Int×Int)) (X:List (Int×List Int))(hf:Cj { t.rawd d sg with access:=X }) (st:Store) (w:R V)
 (w0:t.kind=0->w=.ok (.list ((kn t).map (λ a=>(bn a).v)++[(tgt t.target).v,(bn t.value).v,d])) st)
 (w1:t.kind≠0->(∃v,CT (n+5) "access_item" [.val (.list (X.map Gj))] st=.ok v st/\w=.ok (.list ((kn t).map (λ a=>(bn a).v)++[(tgt t.target).v,(bn t.value).v,d]++[v])) st)\/(CT (n+5) "access_item" [.val (.list (X.map Gj))] st=.exc .rlp st/\w=.exc .rlp st)):
 CT (n+6) "item_of" [.val (.obj (objOf { t.rawd d sg with access:=X }))] st=w:=by
 rw[U0];refine(?_:Fin _ _ (dw _ _ _ _ _));rw[ak6];have fd:∀{ρ x v},lk "tx" ρ=some (.val (.obj (objOf { t.rawd d sg with access:=X })))->lk x (objOf { t.rawd d sg with access:=X })=some v->iu (CT (n+5)) ρ (.attr (.nm "tx") x) st=.ok v st:=λ h k=>Kz h k;refine auo (gj (b_1 (gw rfl) rfl) (Vf n _ hf st)) ?_;have hk:lk "kind" (objOf { t.rawd d sg with access:=X })=some (.int (t.kind:Nat)):=rfl;have rest:=λ p l hl h10=>aju n (decide (4<=n+5)) t h d sg X st l hl h10 p w;unfold kn at w0 w1;rcases h.kind with e|e|e<;>(rw[e]at hk w0 w1 rest)
 ·refine qb rfl (wg (jk (fd rfl hk) rfl rfl) (qt (s_1 (fd rfl rfl) rfl) (aj rfl))) ?_;refine qb rfl (gk (gk (qt (s_1 (fd rfl rfl) rfl) (aj rfl)) (dj rfl) rfl) (qt (s_1 (fd rfl rfl) rfl) (aj rfl)) rfl) ?_;refine uz (c:=false) (jk (fd rfl hk) rfl rfl) (λ c=>nomatch c) λ _=> ?_;exact rest _ [t.nonce,t.cap,t.limit] (by simp only[dg];exact⟨cu h.nonce (by decide),h.cap,cu h.limit (by decide),λ _ h=>nomatch h⟩) (aj rfl) w0 w1
 ·refine qb rfl (wg (jk (fd rfl hk) rfl rfl) (qt (s_1 (fd rfl rfl) rfl) (aj rfl))) ?_;refine qb rfl (gk (gk (qt (s_1 (fd rfl rfl) rfl) (aj rfl)) (dj rfl) rfl) (qt (s_1 (fd rfl rfl) rfl) (aj rfl)) rfl) ?_;refine uz (c:=true) (jk (fd rfl hk) rfl rfl) (λ _=> ?_) λ c=>nomatch c;refine qb rfl (gk (qt (s_1 (fd rfl rfl) rfl) (aj rfl)) (dj rfl) rfl) (yd (Bu ?_));exact rest _ [t.chain,t.nonce,t.cap,t.limit] (by simp only[dg];exact⟨h.chain,cu h.nonce (by decide),h.cap,cu h.limit (by decide),λ _ h=>nomatch h⟩) (aj rfl) w0 w1
 ·refine qb rfl (yu (jk (fd rfl hk) rfl rfl) (qt (s_1 (fd rfl rfl) (s_1 (fd rfl rfl) rfl)) (aj rfl))) ?_;refine qb rfl (gk (gk (qt (s_1 (fd rfl rfl) rfl) (aj rfl)) (dj rfl) rfl) (qt (s_1 (fd rfl rfl) rfl) (aj rfl)) rfl) ?_;refine uz (c:=true) (jk (fd rfl hk) rfl rfl) (λ _=> ?_) λ c=>nomatch c;refine qb rfl (gk (qt (s_1 (fd rfl rfl) rfl) (aj rfl)) (dj rfl) rfl) (yd (Bu ?_));exact rest _ [t.chain,t.nonce,t.priority,t.cap,t.limit] (by simp only[dg];exact⟨h.chain,cu h.nonce (by decide),h.priority,h.cap,cu h.limit (by decide),λ _ h=>nomatch h⟩) (aj rfl) w0 w1
theorem Ko(n:Nat)(t:Tx)(h:Valid t)(hs:Sm t)(d:V)(sg:Option (Int×Int×Int))(st:Store):
 CT (n+6) "item_of" [.val (.obj (objOf (t.rawd d sg)))] st=.ok (.list (Cg t d)) st:=by
 have ha:=Rd (n+1) t.access (λ a ha=>⟨(h.slots a ha).1,hs.slots a ha,(h.slots a ha).2⟩) hs.acc st;rw[<-Nb t d sg]at ha;refine Xz n t h d sg _ (h.form d sg) st _ (λ e=>?_) λ e=>.inl ⟨_,ha,?_⟩
 ·rw[Cg,bf e,jo]
 ·rw[Cg,bx e]
theorem aau(k:Nat)(a:Nat×List Nat):Gw (k+3) (qd a)=true:=by
 rw[qd,Lf];simp[Ot,Lf]
theorem N7(k n:Nat):Gw (k+1) (bn n)=true:=by rw[bn,Ot]
theorem W4(k:Nat)(t:Tx):∀x∈rowsOf t,Gw (k+4) x=true:=by
 intro x hx;rcases j4.mp hx with hx|hx
 ·rcases j4.mp hx with hx|hx
  ·obtain⟨n,_,rfl⟩:=kj.mp hx;exact N7 _ n
  ·rcases gb.mp hx with rfl|hx
   ·cases t.target<;>rw[tgt,Ot]
   ·rw[uo.mp hx];exact N7 _ _
 ·rcases gb.mp hx with rfl|hx
  ·exact Ot _ _
  ·by_cases h0:t.kind=0
   ·rw[bf h0]at hx;exact nomatch hx
   ·rw[bx h0]at hx;rw[uo.mp hx,Lf,List.all_eq_true];intro y hy;obtain⟨a,_,rfl⟩:=kj.mp hy;exact aau k a
theorem ac1{k:Nat}{t:Tx}{l:List It}(h:∀x∈l,Gw (k+4) x=true):Gw (k+5) (.l (rowsOf t++l))=true:=by
 rw[Lf,List.all_eq_true];exact λ x hx=>(j4.mp hx).elim (W4 k t x) (h x)
theorem Qj(k:Nat)(t:Tx):Gw (k+5) (Kc t)=true:=
 ac1 (dg.mpr ⟨N7 _ _,dg.mpr ⟨N7 _ _,dg.mpr ⟨N7 _ _,λ _ h=>nomatch h⟩⟩⟩)
theorem Wb(k:Nat)(t:Tx):Gw (k+5) (itU t)=true:=by
 refine ac1 ?_
 by_cases h0:t.kind=0/\t.chain≠0
 ·rw[bf h0];exact dg.mpr ⟨N7 _ _,dg.mpr ⟨Ot _ _,dg.mpr ⟨Ot _ _,λ _ h=>nomatch h⟩⟩⟩
 ·rw[bx h0];exact λ _ h=>nomatch h
theorem ash(t:Tx):(kn t).length<=5:=by
 unfold kn;split<;>exact aj rfl
theorem Jo(t:Tx)(d:V):(Cg t d).length<=9:=by
 have h:(if t.kind=0 then[]else[(It.l (t.access.map qd)).v]).length<=1:=by split<;>exact aj rfl
 rw[Cg,cg,cg,bw];exact j7 (jg (ash t) 3) h
theorem I8(n:Nat)(t:Tx)(h:Valid t)(d:V)(sg:Option (Int×Int×Int))(st:Store):CT (n+1) "kind_octets" [.val (.obj (objOf (t.rawd d sg)))] st=.ok (.bytes (ahead t)) st:=by
 rw[S8];refine(?_:Fin _ _ (dw _ _ Cv.body _ _));have fd:∀{ρ v},lk "tx" ρ=some (.val (.obj (objOf (t.rawd d sg))))->lk "kind" (objOf (t.rawd d sg))=some v->iu (CT n) ρ (.attr (.nm "tx") "kind") st=.ok v st:=λ h k=>Kz h k;have hk:lk "kind" (objOf (t.rawd d sg))=some (.int (t.kind:Nat)):=rfl;unfold ahead;rcases h.kind with e|e|e<;>rw[e]at hk ⊢
 ·exact jr (yu (jk (fd rfl hk) rfl rfl) rfl) mz
 ·exact jr (wg (jk (fd rfl hk) rfl rfl) (Ip (qt (s_1 (fd rfl hk) rfl) (aj rfl)) rfl)) mz
 ·exact jr (wg (jk (fd rfl hk) rfl rfl) (Ip (qt (s_1 (fd rfl hk) rfl) (aj rfl)) rfl)) mz
theorem aa7{t:Tx}(h:Valid t):par t<2^(8*33):=by
 have hp:t.p<=1:=by rcases h.p with e|e<;>rw[e]<;>decide
 have h1 : 35+2*t.chain+t.p<=35+2*2^256+1:=j7 (jh (Nat.mul_le_mul_left 2 (ql h.chain)) 35) hp;have h2 : 27+t.p<=27+1:=jh hp 27;unfold par
 split
 ·split
  ·exact fj h2 (by decide)
  ·exact fj h1 (by decide)
 ·exact fj hp (by decide)
theorem agm{t:Tx}(h:Valid t):(yj (par t)+7)/8<=1000:=Zf (aa7 h) (by decide)
theorem R2(n:Nat)(t:Tx)(h:Valid t)(d:V)(st:Store):CT (n+1) "told_parity" [.val (.obj (objOf (t.rawd d t.sg)))] st=.ok (.int (par t)) st:=by
 rw[Tn];refine(?_:Fin _ _ (dw _ _ Dc.body _ _));refine qb (v:=.int t.p) rfl (jz (v7 rfl (Kz rfl rfl)) rfl rfl) ?_;refine uz (jk (Kz rfl rfl) rfl rfl) (λ c=>?_) λ c=>?_
 ·rw[par,bx λ e=>by rw[show(t.rawd d t.sg).kind=0 from au Int.ofNat e]at c;exact nomatch c]
  exact jr (dj rfl) mz
 ·rw[par,bf (ju (bne_eq_false_iff_eq.mp c))]
  by_cases hc:t.chain=0
  ·rw[bf hc];exact jr (yu (jk (Kz rfl rfl) rfl (show xg .eq (.int t.chain) (.int 0)=some true from au some (fu (au Int.ofNat hc)))) (gk rfl (dj rfl) rfl)) mz
  ·rw[bx hc];exact jr (wg (jk (Kz rfl rfl) rfl (show xg .eq (.int t.chain) (.int 0)=some false from au some (ig λ h=>hc (ju h)))) (gk (gk rfl (gk rfl (Kz rfl rfl) rfl) rfl) (dj rfl) rfl)) mz
theorem ao0(t:Tx):(Kc t).v=.list (Cg t (.bytes t.data)++[(bn (par t)).v,(bn t.r).v,(bn t.s).v]):=by
 rw[Kc,Nj,Wx,nu];rfl
theorem Jl(t:Tx):(ahead t).length<=1:=by unfold ahead;split<;>exact aj rfl
theorem ajn(a b c:Int):inV (.int a) [.int b,.int c]=some (decide (b=a)||(decide (c=a)||false)):=rfl
theorem as9{t:Tx}(h:Valid t):(!(decide ((0:Int)=t.p)||(decide ((1:Int)=t.p)||false)))=false:=by
 rcases h.p with e|e<;>rw[e]<;>rfl
theorem O9(n:Nat)(t:Tx)(h:Valid t)(hs:Sm t)(d:V)(st:Store)(w:R V)
 (he:(∃bs,CT (n+89) "encoded" [.val (.list (Cg t d++[(bn (par t)).v,(bn t.r).v,(bn t.s).v]))] st=.ok (.bytes bs) st/\(ahead t).length+bs.length<=1000000/\w=.ok (.bytes (ahead t++bs)) st)\/
  (CT (n+89) "encoded" [.val (.list (Cg t d++[(bn (par t)).v,(bn t.r).v,(bn t.s).v]))] st=.exc .rlp st/\w=.exc .rlp st)):
 CT (n+90) "written" [.val (.obj (objOf (t.rawd d t.sg)))] st=w:=by
 rw[Jq];refine(?_:Fin _ _ (dw _ _ _ _ _));have num:∀{ρ a},(yj a+7)/8<=1000->lk "number" ρ=some (.val (.int (a:Nat)))->iu (CT (n+89)) ρ (.call "number_octets" (.cons (.nm "number") .nil)) st=.ok (bn a).v st:=λ h k=>by
  rw[aey];exact gj (b_1 (gw k) rfl) (Ae _ _ h _)
 refine qb rfl (gj (b_1 (gw rfl) rfl) (Ko (n+83) t h hs d t.sg st)) ?_;refine uz (jk (Kz rfl rfl) rfl rfl) (λ c=>nomatch c) λ _=> ?_;refine z7 (Kz rfl (rfl : _ = some (V.tuple [.int t.p,.int t.r,.int t.s]))) rfl ?_;refine uz (Aw (jk (dj rfl) rfl (au (Option.map Bool.not) (ajn _ _ _))) λ _=>Dn (s7 (Lw (dj rfl) (Cp Az))) (s7 (Lw (dj rfl) (Cp Az)))) (λ c=>?_) λ _=> ?_
 ·rw[as9 h,fu (jy t.r),fu (jy t.s),fu (Yo.2 h.r),fu (Yo.2 h.s)]at c;cases c
 have hl:=Jo t d;have ec:∀ρ q,lk "tx" ρ=some (.val (.obj (objOf (t.rawd d t.sg))))->lk "found" ρ=some (.val (.list (Cg t d)))->lk "r" ρ=some (.val (.int t.r))->lk "s" ρ=some (.val (.int t.s))->CT (n+89) "encoded" [.val (.list (Cg t d++[(bn (par t)).v,(bn t.r).v,(bn t.s).v]))] st=q->
  iu (CT (n+89)) ρ (.call "encoded" (.cons (.bin .add (.nm "found") (.comp (.call "number_octets" (.cons (.nm "number") .nil)) "number" (.tup (.cons (.call "told_parity" (.cons (.nm "tx") .nil)) (.cons (.nm "r") (.cons (.nm "s") .nil)))) .none [])) .nil)) st=q:=λ ρ q h1 h2 h3 h4 hq=>
  gj (b_1 (v7 rfl (gk (dj h2) (Dp (q8 (s_1 (gj (b_1 (gw h1) rfl) (R2 (n+88) t h d st)) (s_1 (dj h3) (s_1 (dj h4) rfl))) (aj rfl)) rfl
   (Ab _ _ _ _ _ (λ (a:Nat)=>V.int (a:Int)) (λ a=>(bn a).v) [par t,t.r,t.s] (by simp only[dg];exact⟨num (agm h) rfl,num (Zf (k:=32) h.r (by decide)) rfl,num (Zf (k:=32) h.s (by decide)) rfl,λ _ h=>nomatch h⟩)) (aj rfl))
   (Vo (ak (jg hl 3) (by decide))))) rfl) hq
 have ek:∀ρ,lk "tx" ρ=some (.val (.obj (objOf (t.rawd d t.sg))))->iu (CT (n+89)) ρ (.call "kind_octets" (.cons (.nm "tx") .nil)) st=.ok (.bytes (ahead t)) st:=λ ρ h1=>gj (b_1 (gw h1) rfl) (I8 (n+88) t h d t.sg st);rcases he with⟨bs,e1,e2,e3⟩|⟨e1,e3⟩<;>rw[e3]
 ·exact jr (gk (ek _ rfl) (ec _ _ rfl rfl rfl rfl e1) (Pr e2)) mz
 ·exact Bv (aby (ek _ rfl) (ec _ _ rfl rfl rfl rfl e1)) uy
theorem Uq{t:Tx}{x:It}(h:(enc x).length<=10000):(ahead t).length+(enc x).length<=1000000:=ak (j7 (Jl t) h) (aj rfl)
theorem Ry(n:Nat)(t:Tx)(h:Valid t)(hs:Sm t)(st:Store):CT (n+90) "written" [.val (.obj (objOf t.raw))] st=.ok (.bytes (Ez t)) st:=by
 have he:=Q8 (n+19) (Kc t) st (Qj 56 t) (ak hs.whole (aj rfl));rw[ao0]at he;exact O9 n t h hs (.bytes t.data) st _ (.inl ⟨_,he,Uq hs.whole,rfl⟩)
theorem aoj(t:Tx):(itU t).v=.list (Cg t (.bytes t.data)++(if t.kind=0/\t.chain≠0 then[(bn t.chain).v,.bytes [],.bytes []]else[])):=by
 rw[itU,Nj,Wx,nu,apply_ite (List.map It.v),je,je,je,Ox];rfl
theorem abv(n:Nat)(t:Tx)(h:Valid t)(hs:Sm t)(st:Store):CT (n+90) "signing_octets" [.val (.obj (objOf t.raw))] st=.ok (.bytes (asx t)) st:=by
 rw[Ob];refine(?_:Fin _ _ (dw _ _ Ai.body _ _));refine qb rfl (gj (b_1 (gw rfl) rfl) (Ko (n+83) t h hs (.bytes t.data) t.sg st)) ?_;have fin:∀{can ρ},lk "tx" ρ=some (.val (.obj (objOf t.raw)))->lk "found" ρ=some (.val (itU t).v)->Fin st.length (.ok (.bytes (asx t)) st) (dw (CT (n+89)) can (.cons (.ret (.bin .add (.call "kind_octets" (.cons (.nm "tx") .nil)) (.call "encoded" (.cons (.nm "found") .nil)))) .nil) ρ st):=λ h1 h2=>
  jr (gk (gj (b_1 (gw h1) rfl) (I8 (n+88) t h (.bytes t.data) t.sg st)) (gj (b_1 (gw h2) rfl) (Q8 (n+19) (itU t) st (Wb 56 t) (ak hs.whole' (aj rfl)))) (Pr (Uq hs.whole'))) mz
 have hv:=aoj t;refine uz (Km (jk (Kz rfl rfl) rfl rfl) (jk (Kz rfl rfl) rfl rfl)) (λ c=>?_) λ c=>?_
 ·have hb:t.kind=0/\t.chain≠0:=⟨ju (dh (jd.mp c).1),λ e=>by rw[show(t.raw.chain:Int)=0 from au Int.ofNat e]at c;exact nomatch (jd.mp c).2⟩
  rw[bf hb]at hv;refine qb rfl (gk (dj rfl) (qt (s_1 (v:=(bn t.chain).v) (by rw[aey];exact gj (b_1 (v7 rfl (Kz rfl rfl)) rfl) (Ae _ _ (Zf (k:=32) h.chain (by decide)) _)) rfl) (aj rfl)) (Vo (ak (jg (Jo t (.bytes t.data)) 3) (by decide)))) (yd (Bu ?_))
  exact fin rfl (au (λ v=>some (qp.val v)) hv.symm)
 ·have hb:¬(t.kind=0/\t.chain≠0):=λ h=>
   nomatch (jd.mpr ⟨beq_iff_eq.mpr (au Int.ofNat h.1:t.raw.kind=0),bne_iff_ne.mpr (λ e=>h.2 (ju e))⟩).symm.trans c
  rw[bx hb,jo]at hv;exact fin rfl (au (λ v=>some (qp.val v)) hv.symm)
theorem V6(n:Nat)(t:Ir)(h:¬Cj t)(st:Store):CT (n+6) "item_of" [.val (.obj (objOf t))] st=.exc .rlp st:=by
 rw[U0];refine(?_:Fin _ _ (dw _ _ G6.body _ _));exact aha (gj (b_1 (gw rfl) rfl) (Q6 n t h st)) uy
theorem Ug(n:Nat)(t:Ir)(h:¬Cj t)(st:Store):CT (n+90) "written" [.val (.obj (objOf t))] st=.exc .rlp st:=by
 rw[Jq];refine(?_:Fin _ _ (dw _ _ Gu.body _ _));exact K1 rfl (gj (b_1 (gw rfl) rfl) (V6 (n+83) t h st)) uy
theorem Tf(n:Nat)(t:Tx)(h:Valid t)(hs:Sm t)(d:V)(st:Store):CT (n+90) "written" [.val (.obj (objOf (t.rawd d none)))] st=.exc .tx st:=by
 rw[Jq];refine(?_:Fin _ _ (dw _ _ Gu.body _ _));exact qb rfl (gj (b_1 (gw rfl) rfl) (Ko (n+83) t h hs d none st)) (v9 (jk (Kz rfl rfl) rfl rfl) (za (z8 uy)))
theorem Zm(xs ys:List It)(z:It):((xs.map enc).flatten).length<=(((xs++z::ys).map enc).flatten).length:=by
 simp
theorem aec(t:Tx)(x:String):Cg t (.str x)=(ks t).map It.v++.str x::(if t.kind=0 then[]else[(It.l (t.access.map qd)).v]):=by
 rw[aif,jc];exact jc ..
theorem G4(t:Tx):rowsOf t=ks t++.b t.data::(if t.kind=0 then[]else[.l (t.access.map qd)]):=rfl
theorem Yv(n:Nat)(t:Tx)(h:Valid t)(hs:Sm t)(x:String)(st:Store):CT (n+90) "written" [.val (.obj (objOf (t.rawd (.str x) t.sg)))] st=.exc .rlp st:=by
 have hkl:(((ks t).map enc).flatten).length<=100000:=by
  have h1:=hs.whole;rw[Kc,Ib,G4,jc]at h1;have:=Zm (ks t) ((if t.kind=0 then[]else[.l (t.access.map qd)])++[bn (par t),bn t.r,bn t.s]) (.b t.data)
  simp only[cg,List.cons_append]at h1 this
  lia
 have he:=Rp (n+9) (ks t) x ((if t.kind=0 then[]else[(It.l (t.access.map qd)).v])++[(bn (par t)).v,(bn t.r).v,(bn t.s).v]) st
  (λ y hy=>W4 56 t y (by rw[G4];exact j5 _ hy)) hkl (by split<;>simp)
 rw[<-List.cons_append,<-jc,<-aec]at he;exact O9 n t h hs (.str x) st _ (.inr ⟨he,rfl⟩)
noncomputable def Tx.rawa(t:Tx) (X:List (Int×List Int)):Ir:={ t.raw with access:=X }
theorem avv{t:Tx}(h:Valid t)(hk:t.kind≠0) (X:List (Int×List Int)):Cj (t.rawa X):=by
 obtain⟨a1,a2,a3,a4,a5,a6,a7,a8,a9,a10⟩:=h.form (.bytes t.data) t.sg;refine⟨a1,a2,?_,a4,a5,a6,a7,a8,a9,a10⟩;intro h0;have:(t.kind:Int)=0:=h0
 lia
theorem X7(n:Nat)(t:Tx)(h:Valid t) (X:List (Int×List Int))(hX:X≠[])
 (hx:∀n st,CT (n+5) "access_item" [.val (.list (X.map Gj))] st=.exc .rlp st) (st:Store):CT (n+90) "written" [.val (.obj (objOf (t.rawa X)))] st=.exc .rlp st:=by
 by_cases hk0:t.kind=0
 ·exact Ug n _ (λ hf=>hX (hf.acc (au Int.ofNat hk0))) st
 rw[Jq];refine(?_:Fin _ _ (dw _ _ _ _ _));exact K1 rfl (gj (b_1 (gw rfl) rfl) (Xz (n+83) t h (.bytes t.data) t.sg X (avv h hk0 X) st _ (λ e=>absurd e hk0) λ _=>.inr ⟨hx _ _,rfl⟩)) uy
theorem atc(n:Nat)(st:Store):CT (n+5) "access_item" [.val (.list ([((P2 160),([]:List Int))].map Gj))] st=.exc .rlp st:=by
 rw[Gm];refine(?_:Fin _ _ (dw _ _ zy.body _ _));refine Di rfl rfl rfl (Dg (dj rfl) rfl (Dh Td (v9 (Aw (c:=true) (d:=true) ?_ λ h=>nomatch h) (za am2))) (z8 Od));rw[s7 (Lw (a:=P2 160) rfl (Cp Lp)),ig (Int.lt_irrefl _),Bool.and_false];rfl
theorem aom(n:Nat)(st:Store)(s:Int)(h:(!(decide (0<=s)&&decide (s<P2 256)))=true):CT (n+5) "access_item" [.val (.list ([((1:Int),[s])].map Gj))] st=.exc .rlp st:=by
 rw[Gm];refine(?_:Fin _ _ (dw _ _ zy.body _ _));refine Di rfl rfl rfl (Dg (dj rfl) rfl (Dh Td (v9 (Dn (c:=false) (d:=true) (Qe (a:=1) rfl (Cp Lp) (by decide)) (jk (Dp (v:=.list [.int s]) (m:=[.int s]) rfl rfl ?_ (aj rfl)) rfl rfl)) (za am2))) (z8 Od))
 rw[ajm,s7 (Lw (a:=s) rfl (Cp Az)),h];rfl
theorem apn(n:Nat)(st:Store):CT (n+5) "access_item" [.val (.list ([((1:Int),[(-1:Int)])].map Gj))] st=.exc .rlp st:=aom n st _ rfl
theorem atm(n:Nat)(st:Store):CT (n+5) "access_item" [.val (.list ([((1:Int),[P2 256])].map Gj))] st=.exc .rlp st:=aom n st _ (by rw[ig (Int.lt_irrefl _),Bool.and_false];rfl)
noncomputable def xu:List It->Option (List Nat)
 |[]=>some []
 |x::r=>(Ey x 32).bind λ a=>(xu r).bind λ l=>some (a::l)
noncomputable def Eu:It->Option (Nat×List Nat)
 |.l [x,.l ss]=>(Ey x 20).bind λ a=>(xu ss).bind λ l=>some (a,l)
 | _=>none
noncomputable def Dj:List It->Option (List (Nat×List Nat))
 |[]=>some []
 |x::r=>(Eu x).bind λ a=>(Dj r).bind λ l=>some (a::l)
noncomputable def Fq:It->Option (List (Nat×List Nat))
 |.l rows=>Dj rows
 |.b _=>none
noncomputable def Pz:It->Option (Option Nat)
 |.b []=>some none
 |x=>(Ey x 20).bind λ a=>some (some a)
noncomputable def J0:It->Option (List UInt8)
 |.b l=>some l
 |.l _=>none
noncomputable def Bg(y:Nat):Option (Nat×Nat):=if y=27\/y=28 then some (0,y-27)else if y<37 then none else some ((y-35)/2,(y-35)%2)
noncomputable def wz(kind c p r s:Nat)(acc:List (Nat×List Nat))(n pr q l t v d:It):Option Tx:=
 (yp n (2^64)).bind λ n=>(yp pr (2^256)).bind λ pr=>(yp q (2^256)).bind λ q=>(yp l (2^64)).bind λ l=>(Pz t).bind λ t=>(yp v (2^256)).bind λ v=>(J0 d).bind λ d=>
 some ⟨kind,c,n,pr,q,l,t,v,d,acc,p,r,s⟩
noncomputable def rd0(rows:List It):Option Tx:=if rows.length=9 then(match rows with
 |[n,q,l,t,v,d,y,r,s]=>(yp y (35+2^257)).bind λ y=>(yp r (2^256)).bind λ r=>(yp s (2^256)).bind λ s=>(Bg y).bind λ cp=>wz 0 cp.1 cp.2 r s [] n q q l t v d
 | _=>none)else none
noncomputable def rd1(rows:List It):Option Tx:=if rows.length=11 then(match rows with
 |[c,n,q,l,t,v,d,a,y,r,s]=>(yp y 2).bind λ y=>(yp r (2^256)).bind λ r=>(yp s (2^256)).bind λ s=>(yp c (2^256)).bind λ c=>(Fq a).bind λ a=>wz 1 c y r s a n q q l t v d
 | _=>none)else none
noncomputable def rd2(rows:List It):Option Tx:=if rows.length=12 then(match rows with
 |[c,n,p,q,l,t,v,d,a,y,r,s]=>(yp y 2).bind λ y=>(yp r (2^256)).bind λ r=>(yp s (2^256)).bind λ s=>(yp c (2^256)).bind λ c=>(Fq a).bind λ a=>wz 2 c y r s a n p q l t v d
 | _=>none)else none
noncomputable def Jw(k:Nat)(rows:List It):Option Tx:=match k with
 |0=>rd0 rows
 |1=>rd1 rows
 |2=>rd2 rows
 | _=>none
theorem ac0(n q l t v d y r s:It):Jw 0 [n,q,l,t,v,d,y,r,s]=(yp y (35+2^257)).bind λ y=>(yp r (2^256)).bind λ r=>(yp s (2^256)).bind λ s=>(Bg y).bind λ cp=>wz 0 cp.1 cp.2 r s [] n q q l t v d:=by unfold Jw rd0;exact bf rfl
theorem adu(c n q l t v d a y r s:It):Jw 1 [c,n,q,l,t,v,d,a,y,r,s]=(yp y 2).bind λ y=>(yp r (2^256)).bind λ r=>(yp s (2^256)).bind λ s=>(yp c (2^256)).bind λ c=>(Fq a).bind λ a=>wz 1 c y r s a n q q l t v d:=by unfold Jw rd1;exact bf rfl
theorem acs(c n p q l t v d a y r s:It):Jw 2 [c,n,p,q,l,t,v,d,a,y,r,s]=(yp y 2).bind λ y=>(yp r (2^256)).bind λ r=>(yp s (2^256)).bind λ s=>(yp c (2^256)).bind λ c=>(Fq a).bind λ a=>wz 2 c y r s a n p q l t v d:=by unfold Jw rd2;exact bf rfl
theorem Oc{n:Nat}{l:List It}{x y:Option Tx}{t:Tx}(h:(if l.length=n then x else none)=some t):l.length=n:=by
 by_cases e:l.length=n
 ·exact e
 ·rw[bx e]at h;cases h
theorem ak9{k:Nat}{rows:List It}{t:Tx}(h:Jw k rows=some t):(k=0/\rows.length=9)\/(k=1/\rows.length=11)\/(k=2/\rows.length=12):=
 match k,h with
 |0,h=>.inl ⟨rfl,Oc (y:=none) h⟩
 |1,h=>.inr (.inl ⟨rfl,Oc (y:=none) h⟩)
 |2,h=>.inr (.inr ⟨rfl,Oc (y:=none) h⟩)
 | _ + 3,h=>nomatch h
theorem Za{α : Type}{n:Nat}{l:List α}(h:l.length=n+1):∃a r,l=a::r/\r.length=n:=match l,h with
 |a::r,h=>⟨a,r,rfl,Nat.succ.inj h⟩
theorem alx{α : Type}{n:Nat}{l:List α}(h:l.length=n+3):∃a b c r,l=a::b::c::r/\r.length=n:=
 let⟨a,_,e1,h1⟩:=Za h;let⟨b,_,e2,h2⟩:=Za h1;let⟨c,r,e3,h3⟩:=Za h2
 ⟨a,b,c,r,by rw[e1,e2,e3],h3⟩
inductive Is9{α : Type}:List α->Prop
 |mk (n q l t v d y r s : α):Is9 [n,q,l,t,v,d,y,r,s]
inductive ayp{α : Type}:List α->Prop
 |mk (c n q l t v d a y r s : α):ayp [c,n,q,l,t,v,d,a,y,r,s]
inductive ax8{α : Type}:List α->Prop
 |mk (c n p q l t v d a y r s : α):ax8 [c,n,p,q,l,t,v,d,a,y,r,s]
theorem ag8{α : Type}{l:List α}(h:l.length=9):Is9 l:=by
 obtain⟨_,_,_,_,rfl,h1⟩:=alx h;obtain⟨_,_,_,_,rfl,h2⟩:=alx h1;obtain⟨_,_,_,_,rfl,h3⟩:=alx h2;obtain rfl:=List.length_eq_zero_iff.mp h3;exact .mk ..
theorem ahx{α : Type}{l:List α}(h:l.length=11):ayp l:=by
 obtain⟨_,_,rfl,h1⟩:=Za h;obtain⟨_,_,rfl,h2⟩:=Za h1;cases ag8 h2;exact .mk ..
theorem ajj{α : Type}{l:List α}(h:l.length=12):ax8 l:=by
 obtain⟨_,_,_,_,rfl,h1⟩:=alx h;cases ag8 h1;exact .mk ..
theorem bnd{α β : Type}{o:Option α}{f : α->Option β}{b : β}(h:o.bind f=some b):∃a,o=some a/\f a=some b:=by
 cases o with
 |none=>exact nomatch h
 |some a=>exact⟨a,rfl,h⟩
theorem Np{α β : Type}{o:Option α}{f : α->Option β}{a : α}{b:Option β}(h:o=some a)(k:f a=b):o.bind f=b:=by rw[h];exact k
theorem sf{α : Type}{c:Prop}[Decidable c]{x y : α}(h:(if c then some x else none)=some y):c/\x=y:=by
 by_cases q:c
 ·rw[bf q]at h;exact⟨q,ao h⟩
 ·rw[bx q]at h;exact nomatch h
theorem n7{x:It}{b a:Nat}(h:yp x b=some a):x=bn a/\a<b:=by
 cases x with
 |l xs=>exact nomatch h
 |b l=>
  obtain⟨h1,h⟩:=nf h;obtain⟨h2,rfl⟩:=sf h;exact⟨au It.b (Yb l h1).symm,h2⟩
theorem Bt{a b:Nat}(h:a<b):yp (bn a) b=some a:=by
 rw[bn,yp,aep,bx (acu a),Ky,bf h]
theorem Vm{x:It}{k a:Nat}(h:Ey x k=some a):x=.b (yh k a)/\a<256^k:=by
 cases x with
 |l xs=>exact nomatch h
 |b l=>
  obtain⟨rfl,rfl⟩:=sf h;exact⟨by rw[Sx],Jm l⟩
theorem Rn{a k:Nat}(h:a<256^k):Ey (.b (yh k a)) k=some a:=by
 rw[Ey,bf (Ar k a),Kq,Nat.mod_eq_of_lt h]
theorem Qm{t:It}(h:t≠.b []):Pz t=(Ey t 20).bind λ a=>some (some a):=by
 cases t with
 |l _=>rfl
 |b l=>cases l with
  |nil=>exact absurd rfl h
  |cons _ _=>rfl
theorem Zk{x:It}{o:Option Nat}(h:Pz x=some o):x=tgt o/\∀a,o=some a->a<2^160:=by
 by_cases q:x=.b []
 ·subst q;obtain rfl:=ao h;exact⟨rfl,λ _ h=>nomatch h⟩
 ·obtain⟨a,ha,h⟩:=bnd ((Qm q).symm.trans h);obtain rfl:=ao h;obtain⟨h1,h2⟩:=Vm ha;exact⟨h1,λ b hb=>ao hb▸(Ve▸h2)⟩
theorem af5{o:Option Nat}(h:∀a,o=some a->a<2^160):Pz (tgt o)=some o:=by
 cases o with
 |none=>rfl
 |some a=>exact(Qm λ e=>absurd (Ar 20 a) (by rw[It.b.inj e];exact λ h=>nomatch h)).trans (Np (Rn (Ve▸h a rfl)) rfl)
theorem Ph:∀{xs:List It}{l:List Nat},xu xs=some l->xs=l.map (λ s=>It.b (yh 32 s))/\∀s∈l,s<2^256
 |[],l,h=>by obtain rfl:=ao h;exact⟨rfl,λ _ h=>nomatch h⟩
 |x::r,l,h=>by
  obtain⟨a,ha,h⟩:=bnd (o:=Ey x 32) h;obtain⟨l',hl,h⟩:=bnd h;obtain rfl:=ao h;obtain⟨rfl,h2⟩:=Vm ha;obtain⟨rfl,h4⟩:=Ph hl;exact⟨rfl,dg.mpr ⟨Z8▸h2,h4⟩⟩
theorem Ou:∀{l:List Nat},(∀s∈l,s<2^256)->xu (l.map (λ s=>It.b (yh 32 s)))=some l
 |[],_=>rfl
 |a::r,h=>Np (Rn (Z8▸h a f9)) (Np (Ou λ s hs=>h s (bk _ hs)) rfl)
theorem ae1{x:It}{a:Nat×List Nat}(h:Eu x=some a):x=qd a/\a.1<2^160/\∀s∈a.2,s<2^256:=by
 cases x with
 |b _=>exact nomatch h
 |l l=>cases l with
  |nil=>exact nomatch h
  |cons x l=>cases l with
   |nil=>exact nomatch h
   |cons y l=>cases l with
    |cons _ _=>cases y<;>exact nomatch h
    |nil=>cases y with
     |b _=>exact nomatch h
     |l ss=>
      obtain⟨b,hb,h⟩:=bnd (o:=Ey x 20) h;obtain⟨l,hl,h⟩:=bnd h;obtain rfl:=ao h;obtain⟨rfl,h2⟩:=Vm hb;obtain⟨rfl,h4⟩:=Ph hl;exact⟨rfl,Ve▸h2,h4⟩
theorem afd{a:Nat×List Nat}(h:a.1<2^160/\∀s∈a.2,s<2^256):Eu (qd a)=some a:=by
 show(Ey (.b (yh 20 a.1)) 20).bind (λ b=>(xu (a.2.map λ s=>It.b (yh 32 s))).bind λ l=>some (b,l))=some a;exact Np (Rn (Ve▸h.1)) (Np (Ou h.2) rfl)
theorem Ka:∀{xs:List It}{l:List (Nat×List Nat)},Dj xs=some l->xs=l.map qd/\∀a∈l,a.1<2^160/\∀s∈a.2,s<2^256
 |[],l,h=>by obtain rfl:=ao h;exact⟨rfl,λ _ h=>nomatch h⟩
 |x::r,l,h=>by
  obtain⟨a,ha,h⟩:=bnd (o:=Eu x) h;obtain⟨l',hl,h⟩:=bnd h;obtain rfl:=ao h;obtain⟨rfl,h2⟩:=ae1 ha;obtain⟨rfl,h4⟩:=Ka hl;exact⟨rfl,dg.mpr ⟨h2,h4⟩⟩
theorem Q5:∀{l:List (Nat×List Nat)},(∀a∈l,a.1<2^160/\∀s∈a.2,s<2^256)->Dj (l.map qd)=some l
 |[],_=>rfl
 |a::r,h=>Np (afd (h a f9)) (Np (Q5 λ s hs=>h s (bk _ hs)) rfl)
theorem Jt{x:It}{l:List (Nat×List Nat)}(h:Fq x=some l):x=.l (l.map qd)/\∀a∈l,a.1<2^160/\∀s∈a.2,s<2^256:=by
 cases x with
 |b l=>exact nomatch h
 |l xs=>exact⟨au It.l (Ka h).1,(Ka h).2⟩
theorem afp{x:It}{l:List UInt8}(h:J0 x=some l):x=.b l:=by
 cases x with
 |b l=>exact au It.b (ao h)
 |l xs=>exact nomatch h
structure auw(kind c p r s:Nat)(acc:List (Nat×List Nat))(n pr q l t v d:It)(x:Tx):Prop where
 e:x=⟨kind,c,x.nonce,x.priority,x.cap,x.limit,x.target,x.value,x.data,acc,p,r,s⟩
 n1:n=bn x.nonce
 p1:pr=bn x.priority
 q1:q=bn x.cap
 l1:l=bn x.limit
 t1:t=tgt x.target
 v1:v=bn x.value
 d1:d=.b x.data
 n2:x.nonce<2^64
 p2:x.priority<2^256
 q2:x.cap<2^256
 l2:x.limit<2^64
 t2:∀a,x.target=some a->a<2^160
 v2:x.value<2^256
theorem Kd{kind c p r s:Nat}{acc:List (Nat×List Nat)}{n pr q l t v d:It}{x:Tx}(h:wz kind c p r s acc n pr q l t v d=some x):auw kind c p r s acc n pr q l t v d x:=by
 obtain⟨n',hn,h⟩:=bnd h;obtain⟨p',hp,h⟩:=bnd h;obtain⟨q',hq,h⟩:=bnd h;obtain⟨l',hl,h⟩:=bnd h;obtain⟨t',ht,h⟩:=bnd h;obtain⟨v',hv,h⟩:=bnd h;obtain⟨d',hd,h⟩:=bnd h;obtain rfl:=ao h;exact⟨rfl,(n7 hn).1,(n7 hp).1,(n7 hq).1,(n7 hl).1,(Zk ht).1,(n7 hv).1,afp hd,(n7 hn).2,(n7 hp).2,(n7 hq).2,(n7 hl).2,(Zk ht).2,(n7 hv).2⟩
theorem abf(x:Tx)(hn:x.nonce<2^64)(hp:x.priority<2^256)(hq:x.cap<2^256)(hl:x.limit<2^64)(ht:∀a,x.target=some a->a<2^160)(hv:x.value<2^256):
 wz x.kind x.chain x.p x.r x.s x.access (bn x.nonce) (bn x.priority) (bn x.cap) (bn x.limit) (tgt x.target) (bn x.value) (.b x.data)=some x:=by
 unfold wz;exact Np (Bt hn) (Np (Bt hp) (Np (Bt hq) (Np (Bt hl) (Np (af5 ht) (Np (Bt hv) rfl)))))
theorem aio{a b m:Nat}(h:bn a=bn b)(ha:a<m)(hb:b<m):a=b:=ao ((Bt ha).symm.trans ((au (yp · m) h).trans (Bt hb)))
theorem ahp{y c p:Nat}(y2:y<35+2^257)(h:Bg y=some (c,p)):y=(if c=0 then 27+p else 35+2*c+p)/\(p=0\/p=1)/\c<2^256:=by
 unfold Bg at h
 by_cases h1:y=27\/y=28
 ·rw[bf h1]at h;obtain⟨rfl,rfl⟩:=Prod.mk.inj (ao h);rw[bf rfl];rcases h1 with rfl|rfl
  ·exact⟨rfl,.inl rfl,by decide⟩
  ·exact⟨rfl,.inr rfl,by decide⟩
 ·rw[bx h1]at h;obtain⟨h2,h⟩:=nf h;obtain⟨rfl,rfl⟩:=Prod.mk.inj (ao h);have h3:=nj h2;have h4 : 35<=y:=ak (by decide) h3
  rw[bx (Nat.ne_of_gt (Nat.div_pos (Nat.le_sub_of_add_le' h3) (by decide)))]
  refine⟨?_,Nat.mod_two_eq_zero_or_one _,Nat.div_lt_of_lt_mul (Nat.sub_lt_left_of_lt_add h4 y2)⟩;rw[jt,Nat.div_add_mod,Nat.add_sub_of_le h4]
theorem aos{x:Tx}(hk:x.kind=0):Kc x=.l [bn x.nonce,bn x.cap,bn x.limit,tgt x.target,bn x.value,.b x.data,bn (par x),bn x.r,bn x.s]:=by rw[Kc,rowsOf,ks,kn,hk];rfl
theorem anf{x:Tx}(hk:x.kind=1):Kc x=.l [bn x.chain,bn x.nonce,bn x.cap,bn x.limit,tgt x.target,bn x.value,.b x.data,.l (x.access.map qd),bn (par x),bn x.r,bn x.s]:=by rw[Kc,rowsOf,ks,kn,hk];rfl
theorem ani{x:Tx}(hk:x.kind=2):Kc x=.l [bn x.chain,bn x.nonce,bn x.priority,bn x.cap,bn x.limit,tgt x.target,bn x.value,.b x.data,.l (x.access.map qd),bn (par x),bn x.r,bn x.s]:=by rw[Kc,rowsOf,ks,kn,hk];rfl
theorem ab6{x:Tx}(hk:x.kind≠0):par x=x.p:=bx hk
theorem l9{a0 a1 a2 a3 a4 a5 a6 a7 a8 b0 b1 b2 b3 b4 b5 b6 b7 b8:It}(h0:a0=b0)(h1:a1=b1)(h2:a2=b2)(h3:a3=b3)(h4:a4=b4)(h5:a5=b5)(h6:a6=b6)(h7:a7=b7)(h8:a8=b8):It.l [a0,a1,a2,a3,a4,a5,a6,a7,a8]=.l [b0,b1,b2,b3,b4,b5,b6,b7,b8]:=by subst h0 h1 h2 h3 h4 h5 h6 h7 h8;rfl
theorem l11{a0 a1 a2 a3 a4 a5 a6 a7 a8 a9 a10 b0 b1 b2 b3 b4 b5 b6 b7 b8 b9 b10:It}(h0:a0=b0)(h1:a1=b1)(h2:a2=b2)(h3:a3=b3)(h4:a4=b4)(h5:a5=b5)(h6:a6=b6)(h7:a7=b7)(h8:a8=b8)(h9:a9=b9)(h10:a10=b10):It.l [a0,a1,a2,a3,a4,a5,a6,a7,a8,a9,a10]=.l [b0,b1,b2,b3,b4,b5,b6,b7,b8,b9,b10]:=by subst h0 h1 h2 h3 h4 h5 h6 h7 h8 h9 h10;rfl
theorem l12{a0 a1 a2 a3 a4 a5 a6 a7 a8 a9 a10 a11 b0 b1 b2 b3 b4 b5 b6 b7 b8 b9 b10 b11:It}(h0:a0=b0)(h1:a1=b1)(h2:a2=b2)(h3:a3=b3)(h4:a4=b4)(h5:a5=b5)(h6:a6=b6)(h7:a7=b7)(h8:a8=b8)(h9:a9=b9)(h10:a10=b10)(h11:a11=b11):It.l [a0,a1,a2,a3,a4,a5,a6,a7,a8,a9,a10,a11]=.l [b0,b1,b2,b3,b4,b5,b6,b7,b8,b9,b10,b11]:=by subst h0 h1 h2 h3 h4 h5 h6 h7 h8 h9 h10 h11;rfl
theorem agp{y c p:Nat}(e1:y=(if c=0 then 27+p else 35+2*c+p))(e2:p=0\/p=1)(y2:y<35+2^257):35+2*c+p<35+2^257:=by
 by_cases h:c=0
 ·subst h;rcases e2 with rfl|rfl<;>decide +kernel
 ·rw[e1,bx h]at y2;exact y2
theorem amw{n q l t v d y r s:It}{x:Tx}(h:Jw 0 [n,q,l,t,v,d,y,r,s]=some x):x.kind=0/\Valid x/\.l [n,q,l,t,v,d,y,r,s]=Kc x:=by
 rw[ac0]at h;obtain⟨y',hy,h⟩:=bnd h;obtain⟨r',hr,h⟩:=bnd h;obtain⟨s',hs,h⟩:=bnd h;obtain⟨⟨c,p⟩,hcp,h⟩:=bnd h;have R:=Kd h;have k0:x.kind=0:=au Tx.kind R.e;have c0:x.chain=c:=au Tx.chain R.e;have p0:x.p=p:=au Tx.p R.e;have r0:x.r=r':=au Tx.r R.e;have s0:x.s=s':=au Tx.s R.e;have a0:x.access=[]:=au Tx.access R.e;subst c0 p0 r0 s0;obtain⟨e1,e2,e3⟩:=ahp (n7 hy).2 hcp;have hpar:y'=par x:=e1.trans (bf k0).symm;rw[aos k0];exact⟨k0,⟨Or.inl k0,λ _=>aio (R.p1.symm.trans R.q1) R.p2 R.q2,λ _=>a0,R.n2,R.l2,e3,R.p2,R.q2,R.v2,R.t2,(by rw[a0];exact λ _ h=>(nomatch h)),e2,(n7 hr).2,(n7 hs).2,λ _=>agp e1 e2 (n7 hy).2⟩,
  l9 R.n1 R.q1 R.l1 R.t1 R.v1 R.d1 ((n7 hy).1.trans (au bn hpar)) (n7 hr).1 (n7 hs).1⟩
theorem am6:∀{p:Nat},p<2->p=0\/p=1
 |0,_=>.inl rfl
 |1,_=>.inr rfl
theorem al3{c n q l t v d a y r s:It}{x:Tx}(h:Jw 1 [c,n,q,l,t,v,d,a,y,r,s]=some x):x.kind=1/\Valid x/\.l [c,n,q,l,t,v,d,a,y,r,s]=Kc x:=by
 rw[adu]at h;obtain⟨y',hy,h⟩:=bnd h;obtain⟨r',hr,h⟩:=bnd h;obtain⟨s',hs,h⟩:=bnd h;obtain⟨c',hc,h⟩:=bnd h;obtain⟨a',ha,h⟩:=bnd h;have R:=Kd h;have k0:x.kind=1:=au Tx.kind R.e;have c0:x.chain=c':=au Tx.chain R.e;have p0:x.p=y':=au Tx.p R.e;have r0:x.r=r':=au Tx.r R.e;have s0:x.s=s':=au Tx.s R.e;have a0:x.access=a':=au Tx.access R.e;subst c0 p0 r0 s0 a0;have kn:x.kind≠0:=λ e=>nomatch e.symm.trans k0;rw[anf k0,ab6 kn];exact⟨k0,⟨Or.inr (Or.inl k0),λ _=>aio (R.p1.symm.trans R.q1) R.p2 R.q2,λ h=>absurd h kn,R.n2,R.l2,(n7 hc).2,R.p2,R.q2,R.v2,R.t2,(Jt ha).2,am6 (n7 hy).2,(n7 hr).2,(n7 hs).2,λ h=>absurd h kn⟩,
  l11 (n7 hc).1 R.n1 R.q1 R.l1 R.t1 R.v1 R.d1 (Jt ha).1 (n7 hy).1 (n7 hr).1 (n7 hs).1⟩
theorem amo{c n p q l t v d a y r s:It}{x:Tx}(h:Jw 2 [c,n,p,q,l,t,v,d,a,y,r,s]=some x):x.kind=2/\Valid x/\.l [c,n,p,q,l,t,v,d,a,y,r,s]=Kc x:=by
 rw[acs]at h;obtain⟨y',hy,h⟩:=bnd h;obtain⟨r',hr,h⟩:=bnd h;obtain⟨s',hs,h⟩:=bnd h;obtain⟨c',hc,h⟩:=bnd h;obtain⟨a',ha,h⟩:=bnd h;have R:=Kd h;have k0:x.kind=2:=au Tx.kind R.e;have c0:x.chain=c':=au Tx.chain R.e;have p0:x.p=y':=au Tx.p R.e;have r0:x.r=r':=au Tx.r R.e;have s0:x.s=s':=au Tx.s R.e;have a0:x.access=a':=au Tx.access R.e;subst c0 p0 r0 s0 a0;have kn:x.kind≠0:=λ e=>nomatch e.symm.trans k0;rw[ani k0,ab6 kn];exact⟨k0,⟨Or.inr (Or.inr k0),λ h=>absurd k0 h,λ h=>absurd h kn,R.n2,R.l2,(n7 hc).2,R.p2,R.q2,R.v2,R.t2,(Jt ha).2,am6 (n7 hy).2,(n7 hr).2,(n7 hs).2,λ h=>absurd h kn⟩,
  l12 (n7 hc).1 R.n1 R.p1 R.q1 R.l1 R.t1 R.v1 R.d1 (Jt ha).1 (n7 hy).1 (n7 hr).1 (n7 hs).1⟩
theorem ade{k:Nat}{rows:List It}{x:Tx}(h:Jw k rows=some x):x.kind=k/\Valid x/\.l rows=Kc x:=by
 rcases ak9 h with⟨rfl,hl⟩|⟨rfl,hl⟩|⟨rfl,hl⟩
 ·cases ag8 hl;exact amw h
 ·cases ahx hl;exact al3 h
 ·cases ajj hl;exact amo h
theorem ajx{x:Tx}(h:Valid x):∃rows,Kc x=.l rows/\Jw x.kind rows=some x:=by
 have hrest:=abf x h.nonce h.priority h.cap h.limit h.target h.value;have hr:=Bt h.r;have hs:=Bt h.s;have hp1:x.p<=1:=by rcases h.p with e|e<;>rw[e]<;>decide
 have hacc:Fq (.l (x.access.map qd))=some x.access:=Q5 h.slots;rcases h.kind with hk|hk|hk
 ·have hp:par x=(if x.chain=0 then 27+x.p else 35+2*x.chain+x.p):=bf hk
  have hp2:par x<35+2^257/\Bg (par x)=some (x.chain,x.p):=by
   rw[hp]
   by_cases hc:x.chain=0
   ·rw[bf hc,hc];rcases h.p with e|e<;>rw[e]<;>exact⟨by decide,rfl⟩
   ·rw[bx hc];refine⟨h.chain0 hk,?_⟩;have h37 : 37<=35+2*x.chain+x.p:=ak (jh (Nat.mul_le_mul_left 2 (Nat.pos_of_ne_zero hc)) 35) (dz _ _);rw[Bg,bx λ q=>by rcases q with q|q<;>rw[q]at h37<;>exact absurd h37 (by decide),bx (jx.2 h37),jt,jm,Nat.mul_add_div (by decide),Nat.mul_add_mod,Nat.div_eq_of_lt (Nat.lt_succ_of_le hp1),Nat.mod_eq_of_lt (Nat.lt_succ_of_le hp1)]
    rfl
  refine⟨_,aos hk,?_⟩;rw[hk,h.acc hk,h.price λ e=>nomatch hk.symm.trans e]at hrest;rw[hk,ac0];exact Np (Bt hp2.1) (Np hr (Np hs (Np hp2.2 hrest)))
 ·refine⟨_,anf hk,?_⟩;rw[hk,h.price λ e=>nomatch hk.symm.trans e]at hrest;rw[hk,adu,ab6 λ e=>nomatch hk.symm.trans e];exact Np (Bt (Nat.lt_succ_of_le hp1)) (Np hr (Np hs (Np (Bt h.chain) (Np hacc hrest))))
 ·refine⟨_,ani hk,?_⟩;rw[hk]at hrest;rw[hk,acs,ab6 λ e=>nomatch hk.symm.trans e];exact Np (Bt (Nat.lt_succ_of_le hp1)) (Np hr (Np hs (Np (Bt h.chain) (Np hacc hrest))))
noncomputable def kindOf(o:List UInt8):Nat:=match o with
 |c::_=>if c=1 then 1 else if c=2 then 2 else 0
 |[]=>0
theorem Lk(o:List UInt8):(kindOf o=0/\∀c∈o.head?,c≠1/\c≠2)\/(∃r,o=1::r/\kindOf o=1)\/(∃r,o=2::r/\kindOf o=2):=by
 cases o with
 |nil=>exact .inl ⟨rfl,λ _ h=>nomatch h⟩
 |cons c r=>
  by_cases h1:c=1
  ·subst h1;exact .inr (.inl ⟨r,rfl,rfl⟩)
  ·by_cases h2:c=2
   ·subst h2;exact .inr (.inr ⟨r,rfl,rfl⟩)
   ·exact .inl ⟨(bx h1).trans (bx h2),λ d hd=>ao hd▸⟨h1,h2⟩⟩
noncomputable def rd(m:Nat)(o:List UInt8):Option Tx:=
 match D m o (if 0<kindOf o then 1 else 0)with
 |some (.l rows,e)=>if e=o.length then Jw (kindOf o) rows else none
 | _=>none
theorem atq{m:Nat}{o:List UInt8}{x:Tx}(h:rd m o=some x):Valid x/\Ez x=o:=by
 unfold rd at h;cases hD:D m o (if 0<kindOf o then 1 else 0)with
 |none=>rw[hD]at h;exact nomatch h
 |some q=>
  obtain⟨y,e⟩:=q;rw[hD]at h;cases y with
  |b _=>exact nomatch h
  |l rows=>
   have he:e=o.length/\Jw (kindOf o) rows=some x:=by
    by_cases q:e=o.length
    ·exact⟨q,(bf q).symm.trans h⟩
    ·exact nomatch (bx q).symm.trans h
   obtain⟨h1,h2,h3⟩:=ade he.2;have:=Wu _ _ _ _ _ hD;rw[h3,he.1,qg (by rw[nq];exact jf _)]at this
   refine⟨h2,?_⟩;rw[Ez,ahead,this,h1];rcases Lk o with⟨k,_⟩|⟨r,rfl,k⟩|⟨r,rfl,k⟩<;>rw[k]<;>rfl
theorem W5{n:Nat}{r q:List UInt8}{l:List UInt8}{c:UInt8}(h:hd 192 n++r=l)(e:l=c::q)(hn:n<=1000000):192<=c.toNat:=by
 subst h
 by_cases h55:n<=55
 ·rw[Ep _ _ h55]at e;rw[<-(List.cons.inj e).1,(ada (.inr rfl) (ak h55 (by decide))).1];exact dz _ _
 ·rw[Fb _ _ h55,jt]at e;rw[<-(List.cons.inj e).1,(ada (.inr rfl) (ak (jh (Ej n hn) 55) (by decide))).1];exact dz _ _
theorem aq6{m:Nat}{x:Tx}(h:Valid x)(hm : 5<=m)(hs:(enc (Kc x)).length<=10000):rd m (Ez x)=some x:=by
 obtain⟨rows,hr,hT⟩:=ajx h;have hrok:Gw m (Kc x)=true:=by
  obtain⟨k,rfl⟩:∃k,m=k+5:=⟨m-5,(Nat.sub_add_cancel hm).symm⟩;exact Qj k x
 have hs':(enc (Kc x)).length<=1000000:=ak hs (by decide)
 have hk:kindOf (Ez x)=x.kind/\(Ez x).drop (if 0<x.kind then 1 else 0)=enc (Kc x)++[]/\(if 0<x.kind then 1 else 0)+(enc (Kc x)).length=(Ez x).length:=by
  rw[jo,Ez,ahead];rcases h.kind with hk|hk|hk
  ·rw[bf hk,hk];refine⟨?_,rfl,lg _⟩;have hn:=hs';rw[hr,Ib,cg]at hn;have:∀{l:List UInt8}{n:Nat}{r:List UInt8},n<=1000000->l=hd 192 n++r->kindOf l=0:=λ {l n r} hn e=>by
    rcases Lk l with⟨k,_⟩|⟨q,e2,_⟩|⟨q,e2,_⟩
    ·exact k
    ·exact absurd (W5 e.symm e2 hn) (by decide)
    ·exact absurd (W5 e.symm e2 hn) (by decide)
   exact this (le_app hn) (by rw[hr,Ib];rfl)
  ·rw[bx (c:=x.kind=0) (λ e=>nomatch hk.symm.trans e),hk];exact⟨rfl,rfl,(j6 ..).trans rfl⟩
  ·rw[bx (c:=x.kind=0) (λ e=>nomatch hk.symm.trans e),hk];exact⟨rfl,rfl,(j6 ..).trans rfl⟩
 unfold rd;rw[hk.1,Vh m (Kc x) hrok hs' (Ez x) _ [] hk.2.1,hr];exact(bf (by rw[<-hr];exact hk.2.2)).trans hT
theorem aro{a k:Nat}(h:a<2^(8*k))(hk:k<=1000)(n:Nat)(st:Store):CT (n+1) "_law_figures" [.val (.int a),.val (.int (-1))] st=.ok (.bytes (nb a)) st:=
 Jd n a k (by rw[show(256:Nat)=2^8 from rfl,<-Nat.pow_mul];exact h) hk st
noncomputable def aw0:u9:=(.cons (.app "law_access" none (.lst (.cons (.call "_law_figures" (.cons (.nm "law_home") (.cons (.int 20) .nil))) (.cons (.comp (.call "_law_figures" (.cons (.nm "law_slot") (.cons (.int 32) .nil))) "law_slot" (.nm "law_slots") .none []) .nil))))
 .nil)
theorem ame(n:Nat)(can:Bool)(st:Store):∀(l:List (Nat×List Nat))(g:List V)(ρ:Loc),(∀a∈l,a.2.length<=1000)->g.length+l.length<=1000->
 lk "law_access" ρ=some (.cell st.length)->
 ∃ρ',N6 (CT (n+1)) can (.tup (.cons (.nm "law_home") (.cons (.nm "law_slots") .nil))) aw0 (l.map accN) ρ (st++[⟨true,.list g⟩])=.ok (.next ρ') (st++[⟨true,.list (g++l.map λ a=>(qd a).v)⟩])/\
  lk "law_access" ρ'=some (.cell st.length)/\lk "law_found" ρ'=lk "law_found" ρ:=by
 intro l
 induction l with
 |nil=>intro g ρ _ _ h;exact⟨ρ,by show R.ok _ _ = R.ok _ (_++[⟨true,.list (g++[])⟩]);rw[jo],h,rfl⟩
 |cons a l ih=>
  intro g ρ ha hg h;rw[pq]at hg;have hsl:a.2.length<=1000000:=ak (ha a f9) (aj rfl);have hg1:g.length<=1000000:=ak (dz _ _) (ak hg (aj rfl));obtain⟨ρ',h1,h2,h3⟩:=ih (g++[(qd a).v]) (put "law_slots" (.val (.list (a.2.map λ (s:Nat)=>V.int (s:Int)))) (put "law_home" (.val (.int a.1)) ρ)) (λ b hb=>ha b (bk _ hb)) (by rw[cg,jt,j6 _ l.length];exact hg) (m6 (by decide) (m6 (by decide) h))
  refine⟨ρ',?_,h2,h3.trans ((lkp ..).trans ((bx (by decide)).trans ((lkp ..).trans (bx (by decide)))))⟩
  rw[jc]at h1;rw[je,M6];refine Dh Td ?_;refine K6 (v:=(qd a).v) (m6 (by decide) (m6 (by decide) h)) (tu _ _ _) ?_ (Ow hg1) (yd (Nu h1))
  rw[Zw];exact qt (s_1 (gj (b_1 (gw (m6 (by decide) Ce)) (b_1 (v7 rfl rfl) rfl)) (Em n _ 20 (by decide) _)) (s_1 (Dp (dj Ce) (Ed (by rw[bw];exact hsl)) (Ab _ _ _ _ _ _ (λ s=>.bytes (yh 32 s)) _ λ s _=>gj rfl (Em n s 32 (by decide) _)) (by rw[bw];exact hsl)) rfl)) (aj rfl)
noncomputable def ag7:u9:=(.cons (.asg (.nm "law_goal") (.ife (.cmp .iss (.idx (.nm "law_tx") (.str "target")) .non) (.byt []) (.call "_law_figures" (.cons (.idx (.nm "law_tx") (.str "target")) (.cons (.int 20) .nil)))))
 (.cons (.asg (.nm "law_found") (.comp (.call "_law_figures" (.cons (.nm "law_number") (.cons (.neg (.int 1)) .nil))) "law_number" (.nm "law_found") .none []))
 (.cons (.asg (.nm "law_found") (.bin .add (.nm "law_found") (.lst (.cons (.nm "law_goal") (.cons (.call "_law_figures" (.cons (.idx (.nm "law_tx") (.str "value")) (.cons (.neg (.int 1)) .nil))) (.cons (.idx (.nm "law_tx") (.str "data")) .nil))))))
 (.cons (.ifs (.cmp .eq (.idx (.nm "law_tx") (.str "kind")) (.int 0)) (.cons (.ret (.nm "law_found"))
  .nil) .nil)
 (.cons (.asg (.nm "law_access") (.lst .nil))
 (.cons (.for (.tup (.cons (.nm "law_home") (.cons (.nm "law_slots") .nil))) (.idx (.nm "law_tx") (.str "access")) aw0)
 (.cons (.ret (.bin .add (.nm "law_found") (.lst (.cons (.nm "law_access") .nil))))
 .nil)))))))
theorem aez:Hf.body=(.cons (.asg (.nm "law_found") (.bin .add (.bin .add (.lst (.cons (.idx (.nm "law_tx") (.str "nonce")) .nil)) (.bin .mul (.lst (.cons (.idx (.nm "law_tx") (.str "priority")) .nil)) (.cmp .eq (.idx (.nm "law_tx") (.str "kind")) (.int 2)))) (.lst (.cons (.idx (.nm "law_tx") (.str "cap")) (.cons (.idx (.nm "law_tx") (.str "limit")) .nil)))))
 (.cons (.ifs (.cmp .gt (.idx (.nm "law_tx") (.str "kind")) (.int 0)) (.cons (.asg (.nm "law_found") (.bin .add (.lst (.cons (.idx (.nm "law_tx") (.str "chain")) .nil)) (.nm "law_found")))
  .nil) .nil) ag7)):=rfl
theorem ad6(n:Nat)(can:Bool)(t:Tx)(hv:t.value<2^256)(hs:Sm t)(d:List (String×V))(hd:Gq d t.raw)(st:Store)(l:List Nat)(hl:∀a∈l,a<2^256)(h10:l.length<=10):
 Fin st.length (.ok (.list (l.map (λ a=>(bn a).v)++[(tgt t.target).v,(bn t.value).v,.bytes t.data]++(if t.kind=0 then[]else[(It.l (t.access.map qd)).v]))) st)
  (dw (CT (n+1)) can ag7 [("law_tx",.val (.dict d)),("law_found",.val (.list (l.map λ (a:Nat)=>V.int (a:Int))))] st):=by
 have fig:∀{ρ e a},a<2^256->ko (CT (n+1)) ρ st e=.ok (.val (.int (a:Nat))) st->iu (CT (n+1)) ρ (.call "_law_figures" (.cons e (.cons (.neg (.int 1)) .nil))) st=.ok (bn a).v st:=λ h k=>by
  rw[aey];exact gj (b_1 k (b_1 (v7 rfl rfl) rfl)) (aro (k:=32) h (by decide) _ _)
 have fd:∀{ρ x v},lk "law_tx" ρ=some (.val (.dict d))->lk x d=some v->∀{st},iu (CT (n+1)) ρ (.idx (.nm "law_tx") (.str x)) st=.ok v st:=λ h k _=>jz (gw h) rfl k;have d7:lk "target" d=some (oV t.target):=hd.target.trans (by rw[Tx.raw,agu])
 refine qb (v:=(tgt t.target).v) (st':=st) rfl ?_ ?_
 ·cases ht:t.target with
  |none=>rw[ht]at d7;rw[tgt,Ox];exact yu (jk (fd rfl d7) rfl rfl) rfl
  |some a=>rw[ht]at d7;rw[tgt,Ox];exact wg (jk (fd rfl d7) rfl rfl) (gj (b_1 (v7 rfl (fd rfl d7)) (b_1 (v7 rfl rfl) rfl)) (Em _ a 20 (by decide) _))
 refine qb rfl (Dp (dj rfl) (Ed (by rw[bw];lia)) (Ab _ _ _ _ _ (λ (a:Nat)=>V.int (a:Int)) (λ a=>(bn a).v) l λ a ha=>fig (hl a ha) (gw rfl)) (by rw[bw];exact ak h10 (by decide))) ?_
 refine qb rfl (gk (dj rfl) (qt (s_1 (dj rfl) (s_1 (fig hv (v7 rfl (fd rfl hd.value))) (s_1 (fd rfl hd.data) rfl))) (aj rfl)) (Vo (by rw[bw];exact ak (jg h10 3) (by decide)))) ?_
 refine uz (jk (fd rfl hd.kind) rfl rfl) (λ c=>?_) λ c=>?_
 ·rw[bf (by have:=beq_iff_eq.mp c;exact ju this),jo]
  exact jr (dj rfl) mz
 ·rw[bx (λ h=>by rw[show(t.raw.kind:Int)=0 from au Int.ofNat h]at c;cases c)]
  refine Di rfl rfl rfl ?_;have hacc:=hs.acc;have hda:lk "access" d=some (.list (t.access.map accN)):=hd.access.trans (by rw[Tx.raw,Nb])
  have hrow:∀ρ,lk "law_access" ρ=some (qp.cell st.length)->_:=λ ρ h=>ame n can st t.access [] ρ hs.slots (by rw[List.length_nil,lg];exact hacc) h
  obtain⟨ρ',r1,r2,r3⟩:=hrow [("law_tx",.val (.dict d)),("law_found",.val (.list (l.map (λ a=>(bn a).v)++[(tgt t.target).v,(bn t.value).v,.bytes t.data]))),("law_goal",.val (tgt t.target).v),("law_access",.cell st.length)] rfl;refine Dg (fd rfl hda) (Ed (by rw[bw];exact ak hacc (by decide))) r1 ?_
  refine jr (gk (dj (r3.trans rfl)) (qt (s_1 (Nk r2 (aa4 _ _ _ _)) rfl) (aj rfl)) (Vo ?_)) ?_
  ·rw[cg,bw];exact ak (jg (jg h10 3) 1) (by decide)
  ·have ev:(It.l (t.access.map qd)).v=.list (t.access.map λ a=>(qd a).v):=by rw[Nj,List.map_map];rfl
   rw[ev];exact Bo
theorem Wy(n:Nat)(t:Tx)(h:Valid t)(hs:Sm t)(d:List (String×V))(hd:Gq d t.raw)(st:Store):
 CT (n+2) "_law_rows" [.val (.dict d)] st=.ok (.list (Cg t (.bytes t.data))) st:=by
 rw[aa6];refine(?_:Fin _ _ (dw _ _ _ _ _));rw[aez];have fd:∀{ρ x v},lk "law_tx" ρ=some (.val (.dict d))->lk x d=some v->iu (CT (n+1)) ρ (.idx (.nm "law_tx") (.str x)) st=.ok v st:=λ h k=>jz (gw h) rfl k;have hk:=hd.kind;have rest:=λ l hl h10=>ad6 n (decide (4<=n+1)) t h.value hs d hd st l hl h10;unfold Cg kn;rcases h.kind with e|e|e<;>(rw[show(t.raw.kind:Int)=(t.kind:Nat) from rfl,e]at hk;rw[e]at rest ⊢)
 ·refine qb rfl (gk (gk (qt (s_1 (fd rfl hd.nonce) rfl) (aj rfl)) (gk (qt (s_1 (fd rfl hd.priority) rfl) (aj rfl)) (amn (fd rfl hk) rfl rfl) rfl) rfl) (qt (s_1 (fd rfl hd.cap) (s_1 (fd rfl hd.limit) rfl)) (aj rfl)) rfl) ?_;refine uz (c:=false) (jk (fd rfl hk) rfl rfl) (λ c=>nomatch c) λ _=> ?_;exact rest [t.nonce,t.cap,t.limit] (by simp only[dg];exact⟨cu h.nonce (by decide),h.cap,cu h.limit (by decide),λ _ h=>nomatch h⟩) (aj rfl)
 ·refine qb rfl (gk (gk (qt (s_1 (fd rfl hd.nonce) rfl) (aj rfl)) (gk (qt (s_1 (fd rfl hd.priority) rfl) (aj rfl)) (amn (fd rfl hk) rfl rfl) rfl) rfl) (qt (s_1 (fd rfl hd.cap) (s_1 (fd rfl hd.limit) rfl)) (aj rfl)) rfl) ?_;refine uz (c:=true) (jk (fd rfl hk) rfl rfl) (λ _=> ?_) λ c=>nomatch c;refine qb rfl (gk (qt (s_1 (fd rfl hd.chain) rfl) (aj rfl)) (dj rfl) rfl) (yd (Bu ?_));exact rest [t.chain,t.nonce,t.cap,t.limit] (by simp only[dg];exact⟨h.chain,cu h.nonce (by decide),h.cap,cu h.limit (by decide),λ _ h=>nomatch h⟩) (aj rfl)
 ·refine qb rfl (gk (gk (qt (s_1 (fd rfl hd.nonce) rfl) (aj rfl)) (gk (qt (s_1 (fd rfl hd.priority) rfl) (aj rfl)) (amn (fd rfl hk) rfl rfl) rfl) rfl) (qt (s_1 (fd rfl hd.cap) (s_1 (fd rfl hd.limit) rfl)) (aj rfl)) rfl) ?_;refine uz (c:=true) (jk (fd rfl hk) rfl rfl) (λ _=> ?_) λ c=>nomatch c;refine qb rfl (gk (qt (s_1 (fd rfl hd.chain) rfl) (aj rfl)) (dj rfl) rfl) (yd (Bu ?_));exact rest [t.chain,t.nonce,t.priority,t.cap,t.limit] (by simp only[dg];exact⟨h.chain,cu h.nonce (by decide),h.priority,h.cap,cu h.limit (by decide),λ _ h=>nomatch h⟩) (aj rfl)
theorem U3{n:Nat}{t:Tx}(h:Valid t)(hs:Sm t){d:List (String×V)}(hd:Gq d t.raw){st:Store}{ρ:Loc}(hρ:lk "law_tx" ρ=some (.val (.dict d))):
 iu (CT (n+9)) ρ (.tup (.cons (.call "_law_rows" (.cons (.nm "law_tx") .nil)) (.cons (.ife (.cmp .eq (.idx (.nm "law_tx") (.str "kind")) (.int 0)) (.byt []) (.mkb (.lst (.cons (.idx (.nm "law_tx") (.str "kind")) .nil)))) .nil))) st=.ok (.tuple [.list (Cg t (.bytes t.data)),.bytes (ahead t)]) st:=by
 refine q8 (s_1 (gj (b_1 (gw hρ) rfl) (Wy (n+7) t h hs d hd st)) (s_1 ?_ rfl)) (aj rfl);have hk:=hd.kind;have fd:∀{v},lk "kind" d=some v->iu (CT (n+9)) ρ (.idx (.nm "law_tx") (.str "kind")) st=.ok v st:=λ h=>jz (gw hρ) rfl h;unfold ahead;rcases h.kind with e|e|e<;>(rw[show(t.raw.kind:Int)=(t.kind:Nat) from rfl,e]at hk;rw[e])
 ·exact yu (jk (fd hk) rfl rfl) rfl
 ·exact wg (jk (fd hk) rfl rfl) (Ip (qt (s_1 (fd hk) rfl) (aj rfl)) rfl)
 ·exact wg (jk (fd hk) rfl rfl) (Ip (qt (s_1 (fd hk) rfl) (aj rfl)) rfl)
theorem Wm{n:Nat}{can:Bool}{st:Store}{t:Tx}{x:It}{ρ:Loc}(hx:Gw 5 x=true)(hl:(enc x).length<=10000)(h:lk "law_found" ρ=some (.val x.v))(ha:lk "law_ahead" ρ=some (.val (.bytes (ahead t)))):
 Fin st.length (.ok (.bytes (ahead t++enc x)) st) (dw (CT (n+9)) can (.cons (.ret (.bin .add (.nm "law_ahead") (.call "_law_laid" (.cons (.nm "law_found") .nil)))) .nil) ρ st):=
 jr (gk (dj ha) (gj (b_1 (gw h) rfl) (ad0 5 (n+9) x st (ak (aj rfl) (iy 9 n)) hx (ak hl (aj rfl)))) (Pr (ak (j7 (Jl t) hl) (aj rfl)))) mz
theorem Rz(n:Nat)(t:Tx)(h:Valid t)(hs:Sm t)(d:List (String×V))(hd:Gq d t.raw)(st:Store):
 CT (n+10) "_law_octets" [.val (.dict d),.val (.bool true)] st=.ok (.bytes (Ez t)) st:=by
 rw[K3];refine(?_:Fin _ _ (dw _ _ Bj.body _ _));have fd:∀{ρ x v},lk "law_tx" ρ=some (.val (.dict d))->lk x d=some v->iu (CT (n+9)) ρ (.idx (.nm "law_tx") (.str x)) st=.ok v st:=λ h k=>jz (gw h) rfl k;have fig:∀{ρ a},a<2^(8*33)->iu (CT (n+9)) (("law_number",.val (.int (a:Nat)))::ρ) (.call "_law_figures" (.cons (.nm "law_number") (.cons (.neg (.int 1)) .nil))) st=.ok (bn a).v st:=λ h=>by
  rw[aey];exact gj rfl (aro (k:=33) h (by decide) _ _)
 have up:∀{a},a<2^256->a<2^(8*33):=λ h=>cu h (by decide)
 have hl3:=ak (jg (Jo t (.bytes t.data)) 3) (by decide : 9+3<=1000000)
 refine z7 (U3 h hs hd rfl) Td ?_;refine R0 (c:=true) (J6 rfl) (λ _=> ?_) λ h=>nomatch h;refine z7 (v:=.tuple [.int t.p,.int t.r,.int t.s]) (jz (gw rfl) rfl hd.sig) rfl ?_;have fin:∀{can:Bool},Sq (Fin st.length (.ok (.bytes (Ez t)) st)) (CT (n+9)) can (.cons (.ret (.bin .add (.nm "law_ahead") (.call "_law_laid" (.cons (.nm "law_found") .nil)))) .nil) (dw (CT (n+9)) can
  (.cons (.asg (.nm "law_found") (.bin .add (.nm "law_found") (.comp (.call "_law_figures" (.cons (.nm "law_number") (.cons (.neg (.int 1)) .nil))) "law_number" (.tup (.cons (.nm "law_told") (.cons (.nm "law_r") (.cons (.nm "law_s") .nil)))) .none []))) .nil)
  [("law_tx",.val (.dict d)),("is_signed",.val (.bool true)),("law_found",.val (.list (Cg t (.bytes t.data)))),("law_ahead",.val (.bytes (ahead t))),("law_told",.val (.int (par t))),("law_r",.val (.int t.r)),("law_s",.val (.int t.s))] st):=λ {can} =>by
  refine qb rfl (gk (dj rfl) (Dp (v:=.tuple ([par t,t.r,t.s].map λ (a:Nat)=>V.int (a:Int))) rfl rfl (Ab _ _ _ _ _ _ (λ a=>(bn a).v) _ ?_) (aj rfl)) (Vo hl3)) (yd (Bu (Wm (Qj 0 t) hs.whole (au (λ v=>some (qp.val v)) (ao0 t).symm) rfl)));simp only[dg];exact⟨fig (aa7 h),fig (up h.r),fig (up h.s),λ _ h=>nomatch h⟩
 refine uz (jk (fd rfl hd.kind) rfl rfl) (λ c=>?_) (λ c=>?_)
 ·have hk:t.kind=0:=ju (dh c);refine qb (v:=.int (par t)) rfl ?_ (yd (Bu fin))
  by_cases hc:t.chain=0
  ·have hch:=hd.chain;rw[show(t.raw.chain:Int)=(t.chain:Nat) from rfl,hc]at hch;refine gk (dj rfl) (yu (jk (fd rfl hch) rfl rfl) rfl) (au (λ i=>some (V.int i)) ?_);rw[par,bf hk,bf hc,j6];rfl
  ·refine gk (dj rfl) (wg (jk (fd rfl hd.chain) rfl (show xg .eq (.int t.chain) (.int 0)=some false from au some (ig λ h=>hc (ju h)))) (gk (gk rfl (fd rfl hd.chain) rfl) (fd rfl hd.chain) rfl)) (au (λ i=>some (V.int i)) ?_);rw[par,bf hk,bx hc,j6,Nat.two_mul,<-jt 35];rfl
 ·have hk:¬t.kind=0:=λ e=>mj c (au Int.ofNat e);have e:par t=t.p:=bx hk;rw[<-e];exact fin
theorem Qq(n:Nat)(t:Tx)(h:Valid t)(hs:Sm t)(d:List (String×V))(hd:Gq d t.raw)(st:Store):
 CT (n+10) "_law_octets" [.val (.dict d),.val (.bool false)] st=.ok (.bytes (asx t)) st:=by
 rw[K3];refine(?_:Fin _ _ (dw _ _ Bj.body _ _));have fd:∀{ρ x v},lk "law_tx" ρ=some (.val (.dict d))->lk x d=some v->iu (CT (n+9)) ρ (.idx (.nm "law_tx") (.str x)) st=.ok v st:=λ h k=>jz (gw h) rfl k;refine z7 (U3 h hs hd rfl) Td ?_;have hv:=aoj t
 by_cases hb:t.kind=0/\t.chain≠0
 ·have hk:=hd.kind;rw[show(t.raw.kind:Int)=(t.kind:Nat) from rfl,hb.1]at hk;rw[bf hb]at hv;refine R0 (c:=false) (J6 rfl) (λ h=>nomatch h) λ _=> ?_;refine v9 (Km (c:=true) (d:=true) (jk (fd rfl hk) rfl rfl) (jk (fd rfl hd.chain) rfl (show xg .gt (.int t.chain) (.int 0)=some true from au some (fu (jw.2 (Nat.pos_of_ne_zero hb.2)))))) ?_;refine qb rfl (gk (dj rfl) (qt (s_1 (v:=(bn t.chain).v) (by rw[aey];exact gj (b_1 (v7 rfl (fd rfl hd.chain)) rfl) (aro (k:=32) h.chain (by decide) _ _)) rfl) (aj rfl)) (Vo (ak (jg (Jo t (.bytes t.data)) 3) (by decide)))) (yd (Bu (yd (Bu ?_))))
  exact Wm (Wb 0 t) hs.whole' (au (λ v=>some (qp.val v)) hv.symm) rfl
 ·rw[bx hb,jo]at hv;refine R0 (c:=false) (J6 rfl) (λ h=>nomatch h) λ _=> ?_;have hf:(decide ((t.kind:Int)=0)&&decide ((0:Int)<t.chain))=false:=by
   rw[<-Bool.decide_and];exact ig λ h=>hb ⟨ju h.1,λ e=>by rw[e]at h;exact absurd h.2 (by decide)⟩
  refine su (st':=st) ?_ (yd (Bu ?_))
  ·rw[<-hf];exact Km (jk (fd rfl hd.kind) rfl rfl) (jk (fd rfl hd.chain) rfl rfl)
  ·exact Wm (Wb 0 t) hs.whole' (au (λ v=>some (qp.val v)) hv.symm) rfl
noncomputable def Fx(x:It):Prop:=(enc x).length<=5000
theorem Fx.b{x:It}(h:Fx x):∀l,x=.b l->l.length<=1000000:=by
 rintro l rfl;rw[Fx,Jz]at h;exact ak (Nh l) (ak h (by decide))
theorem Fx.sub{xs:List It}(h:Fx (.l xs)):xs.length<=5000/\∀x∈xs,Fx x:=by
 rw[Fx,Ib,cg]at h;have h:=le_app h;exact⟨ak (Bb xs) h,λ x hx=>ak (Ck hx) h⟩
theorem Fx.of{m p e:Nat}{o:List UInt8}{x:It}(ho:o.length<=5000)(h:D m o p=some (x,e)):Fx x:=by
 have hp:=Ld h;rw[Fx,Wu _ _ _ _ _ h,Qf (ql hp.1) hp.2];exact ak (Nat.sub_le _ _) (ak hp.2 ho)
theorem O8(q:List UInt8):z6 (It.b q).v=some false:=by rw[Ox];rfl
theorem M4(q:List It):z6 (It.l q).v=some true:=by rw[Nj];rfl
theorem aps{α : Type}{l:List α}{β : Type}{f : α->β}(h:l.length<=5000):(l.map f).length<=1000000:=by
 rw[bw];exact ak h (by decide)
theorem ai3{q:List It}(h:q.length<=5000)(st:Store):Nq (.val (It.l q).v) st=some (.int q.length):=by
 rw[Nj,lL _ (aps h),bw]
theorem ait{q:List It}(h:q.length<=5000):itemsOf (It.l q).v=some (q.map It.v):=by rw[Nj];exact Ed (aps h)
theorem O7(o:Option Nat):isNone (oV o)=o.isNone:=by cases o<;>rfl
theorem azn(o:Option Nat):eqF (oV o) .none=some o.isNone:=by cases o<;>rfl
theorem T5:∀ss:List It,inV .none (ss.map λ s=>oV (Ey s 32))=some (xu ss).isNone
 |[]=>rfl
 |s::r=>by
  rw[je,agw,T5 r,azn];show _ = some ((Ey s 32).bind _).isNone;cases Ey s 32 with
  |none=>rfl
  |some a=>cases xu r<;>rfl
theorem Ny:∀{ss:List It}{l:List Nat},xu ss=some l->(ss.map λ s=>oV (Ey s 32))=l.map λ (s:Nat)=>V.int (s:Int)
 |[],l,h=>by obtain rfl:=ao h;rfl
 |s::r,l,h=>by
  obtain⟨a,ha,h⟩:=bnd (o:=Ey s 32) h;obtain⟨l',hl,h⟩:=bnd h;obtain rfl:=ao h;rw[je,Ny hl,ha];rfl
theorem amu(l:List V)(v:V)(h:l.length<=999999):zp (.list (l++[v])) (.int (-1))=some v:=by
 have e:place (-1) (l++[v]).length=some l.length:=by
  rw[cg];show(if(0:Int)<=-1 then _ else if 0<=(-1:Int)+((l.length+1:Nat):Int)then some ((-1:Int)+((l.length+1:Nat):Int)).toNat else none)=_
  rw[bx (by decide),show(-1:Int)+((l.length+1:Nat):Int)=l.length from(Int.add_comm _ _).trans (Int.add_neg_cancel_right (l.length:Int) 1),bf (jy _)];rfl
 rw[ave,e,cg,bf (show l.length + [v].length<=lim from qj h)];exact List.getElem?_concat_length
noncomputable def Tw(o:Option (List (Nat×List Nat))):V:=match o with
 |some l=>.list (l.map accN)
 |none=>.none
noncomputable def atd:u9:=(.cons (.ifs (.orE (.cons (.notE (.isl (.nm "law_row"))) (.cons (.cmp .ne (.len (.nm "law_row")) (.int 2)) (.cons (.notE (.isl (.idx (.nm "law_row") (.int 1)))) .nil)))) (.cons (.ret .non)
 .nil) .nil)
 (.cons (.app "law_found" none (.tup (.cons (.call "_law_fixed" (.cons (.idx (.nm "law_row") (.int 0)) (.cons (.int 20) .nil))) (.cons (.comp (.call "_law_fixed" (.cons (.nm "law_slot") (.cons (.int 32) .nil))) "law_slot" (.idx (.nm "law_row") (.int 1)) .none []) .nil))))
 (.cons (.ifs (.orE (.cons (.cmp .iss (.idx (.idx (.nm "law_found") (.neg (.int 1))) (.int 0)) .non) (.cons (.cmp .inn .non (.idx (.idx (.nm "law_found") (.neg (.int 1))) (.int 1))) .nil))) (.cons (.ret .non)
  .nil) .nil)
 .nil)))
theorem Xg:∀{ys:List It},ys.length≠2->Eu (.l ys)=none
 |[],_=>rfl
 |[_],_=>rfl
 |[_,_],h=>absurd rfl h
 | _::b::_::_,_=>by cases b<;>rfl
theorem len2{α : Type}:∀{l:List α},l.length=2->∃a b,l=[a,b]
 |[a,b],_=>⟨a,b,rfl⟩
theorem ac2(n:Nat)(can:Bool)(st:Store)(x:It)(hx:Fx x)(acc:List (Nat×List Nat))(hacc:acc.length<=100000)(ρ:Loc)(hr:lk "law_row" ρ=some (.val x.v))(h:lk "law_found" ρ=some (.cell st.length)){W:R Fl->Prop}
 (h0:Eu x=none->∀g,W (.ok (.ret .none) (st++[⟨true,.list g⟩]))) (h1:∀a,Eu x=some a->W (.ok (.next ρ) (st++[⟨true,.list ((acc++[a]).map accN)⟩]))):
 W (dw (CT (n+2)) can atd ρ (st++[⟨true,.list (acc.map accN)⟩])):=by
 cases x with
 |b q=>exact v9 (Aw (c:=true) (d:=true) (s7 (Ci (dj hr) (O8 q))) λ c=>nomatch c) (jr rfl (zc (h0 rfl _)))
 |l ys=>
  obtain⟨hy1,hy2⟩:=hx.sub;have il:=M4 ys;have ln:=ai3 hy1
  by_cases h2:ys.length=2
  case neg=>
   exact v9 (Aw (c:=false) (d:=true) (s7 (Ci (dj hr) il)) λ _=>Aw (c:=true) (d:=true) (jk (ux (gw hr) (ln _)) rfl (aae (b:=2) h2)) λ c=>nomatch c) (jr rfl (zc (h0 (Xg h2) _)))
  obtain⟨a,c,rfl⟩:=len2 h2;have ha:=hy2 a f9;have hc:=hy2 c (bk _ f9);have g1:zp (It.l [a,c]).v (.int 1)=some c.v:=by rw[Nj];rfl
  have g0:zp (It.l [a,c]).v (.int 0)=some a.v:=by rw[Nj];rfl
  have cond:∀{b},z6 c.v=some b->ug (CT (n+2)) ρ (.orE (.cons (.notE (.isl (.nm "law_row"))) (.cons (.cmp .ne (.len (.nm "law_row")) (.int 2)) (.cons (.notE (.isl (.idx (.nm "law_row") (.int 1)))) .nil)))) (st++[⟨true,.list (acc.map accN)⟩])=.ok (!b) (st++[⟨true,.list (acc.map accN)⟩]):=λ hb=>
   Aw (c:=false) (s7 (Ci (dj hr) il)) λ _=>Aw (c:=false) (jk (ux (gw hr) (ln _)) rfl rfl) λ _=>Zj (s7 (Ci (jz (gw hr) rfl g1) hb))
  cases c with
  |b q=>exact v9 (cond (b:=false) (by rw[Ox];rfl)) (jr rfl (zc (h0 rfl _)))
  |l ss=>
   refine su (cond (b:=true) (by rw[Nj];rfl)) ?_
   obtain⟨hs1,hs2⟩:=hc.sub;have fx:∀{ρ e k st}{x:It},Fx x->(k=20\/k=32)->ko (CT (n+2)) ρ st e=.ok (.val x.v) st->iu (CT (n+2)) ρ (.call "_law_fixed" (.cons e (.cons (.int (k:Nat)) .nil))) st=.ok (oV (Ey x k)) st:=λ hx hk he=>gj (b_1 he (b_1 (v7 rfl rfl) rfl)) (Ml n _ hx.b _ hk _);refine K6 h (tu _ _ _) (q8 (s_1 (fx (k:=20) ha (.inl rfl) (v7 rfl (jz (gw hr) rfl g0))) (s_1 (Dp (jz (gw hr) rfl g1) (ait hs1) (Ab _ _ _ _ _ It.v (λ s=>oV (Ey s 32)) ss λ s hs=>fx (k:=32) (hs2 s hs) (.inr rfl) (gw rfl)) (aps hs1)) rfl)) (aj rfl)) (Ow (by rw[bw];exact ak hacc (by decide))) ?_
   have gl:Pu (.cell st.length) (.int (-1)) (st++[⟨true,.list (acc.map accN++[.tuple [oV (Ey a 20),.list (ss.map λ s=>oV (Ey s 32))]])⟩])=some (.tuple [oV (Ey a 20),.list (ss.map λ s=>oV (Ey s 32))]):=(ay5 _ _ _ _ _).trans (amu _ _ (by rw[bw];exact ak hacc (by decide)))
   have hrow:Eu (.l [a,.l ss])=(Ey a 20).bind λ a=>(xu ss).bind λ l=>some (a,l):=rfl;refine uz (Dn (jk (jz (v7 rfl (jz (gw h) rfl gl)) rfl rfl) rfl rfl) (jk rfl (jz (v7 rfl (jz (gw h) rfl gl)) rfl rfl) (T5 ss))) (λ c=>jr rfl (zc (h0 ?_ _))) λ c=>?_
   ·rw[hrow];rw[O7]at c;cases e:Ey a 20 with
    |none=>rfl
    |some b=>
     cases e2:xu ss with
     |none=>rfl
     |some l=>rw[e,e2]at c;cases c
   ·rw[O7]at c;cases e:Ey a 20 with
    |none=>rw[e]at c;cases c
    |some b=>
     cases e2:xu ss with
     |none=>rw[e,e2]at c;cases c
     |some l=>
      have:=h1 (b,l) (by rw[hrow,e,e2];rfl)
      rw[nu,je,M6,<-Ny e2]at this;exact yd this
theorem amh(n:Nat)(can:Bool)(st:Store):∀(xs:List It)(acc:List (Nat×List Nat))(ρ:Loc),(∀x∈xs,Fx x)->acc.length+xs.length<=100000->lk "law_found" ρ=some (.cell st.length)->
 (∃g,N6 (CT (n+2)) can (.nm "law_row") atd (xs.map It.v) ρ (st++[⟨true,.list (acc.map accN)⟩])=.ok (.ret .none) (st++[⟨true,.list g⟩])/\Dj xs=none)\/
 (∃(ρ':Loc) (l:List (Nat×List Nat)),N6 (CT (n+2)) can (.nm "law_row") atd (xs.map It.v) ρ (st++[⟨true,.list (acc.map accN)⟩])=.ok (.next ρ') (st++[⟨true,.list ((acc++l).map accN)⟩])/\
  lk "law_found" ρ'=some (.cell st.length)/\Dj xs=some l):=by
 intro xs
 induction xs with
 |nil=>intro acc ρ _ _ h;exact .inr ⟨ρ,[],by rw[jo];rfl,h,rfl⟩
 |cons x xs ih=>
  intro acc ρ hx hacc h;have hx1:=hx x f9;have hx2:=λ y hy=>hx y (bk _ hy);rw[pq]at hacc;have hac:acc.length<=100000:=ak (dz _ _) hacc;have h':lk "law_found" (put "law_row" (.val x.v) ρ)=some (.cell st.length):=m6 (by decide) h
  have step:=λ {q} h0 h1=>Dh (q:=q) (tg:=.nm "law_row") (l:=xs.map It.v) (Wg (CT (n+2)) ρ (st++[⟨true,.list (acc.map accN)⟩]) "law_row" x.v) (ac2 n can st x hx1 acc hac _ Ce h' h0 h1);rw[je,show Dj (x::xs)=(Eu x).bind λ a=>(Dj xs).bind λ l=>some (a::l) from rfl];cases hr:Eu x with
  |none=>
   obtain⟨g,hg⟩:=ac2 n can st x hx1 acc hac _ Ce h' (W:=λ r=>∃g,r=.ok (.ret .none) (st++[⟨true,.list g⟩])) (λ _ g=>⟨g,rfl⟩) (λ a e=>by rw[hr]at e;cases e)
   exact .inl ⟨g,Dh (Wg _ _ _ _ _) (by rw[hg];exact asw),rfl⟩
  |some a=>
   rcases ih (acc++[a]) (put "law_row" (.val x.v) ρ) hx2 (ah2 hacc) h' with⟨g,k1,k2⟩|⟨ρ',l',k1,k2,k3⟩
   ·exact .inl ⟨g,step (λ e=>by rw[hr]at e;cases e) (λ b e=>by rw[hr]at e;cases e;exact Nu k1),by rw[k2];rfl⟩
   ·refine .inr ⟨ρ',a::l',step (λ e=>by rw[hr]at e;cases e) (λ b e=>by rw[hr]at e;cases e;refine Nu (k1.trans ?_);rw[jc];rfl),k2,by rw[k3];rfl⟩
theorem J2(n:Nat)(x:It)(hx:Fx x)(st:Store):CT (n+3) "_law_access" [.val x.v] st=.ok (Tw (Fq x)) st:=by
 rw[Vu];refine(?_:Fin _ _ (dw _ _ _ _ _));refine Di rfl rfl rfl ?_;cases x with
 |b q=>exact Dg (wg (Ci (dj rfl) (O8 q)) rfl) rfl (Dh (q:=.ok (.ret .none) _) (Wg _ _ _ _ _) (v9 (Aw (c:=true) (d:=true) (s7 (c:=false) (Ci (dj rfl) rfl)) λ c=>nomatch c) (jr rfl (zc asw)))) (zc Bo)
 |l xs=>
  obtain⟨h1,h2⟩:=hx.sub;rcases amh n (decide (4<=n+2)) st xs [] [("law_item",.val (It.l xs).v),("law_found",.cell st.length)] h2 (by rw[List.length_nil,lg];exact ak h1 (by decide)) rfl with⟨g,h4,h5⟩|⟨ρ',l,h4,h5,h6⟩
  ·rw[Fq,h5];exact Dg (yu (Ci (dj rfl) (M4 xs)) (dj rfl)) (ait h1) h4 (zc Bo)
  ·rw[Fq,h6];exact Dg (yu (Ci (dj rfl) (M4 xs)) (dj rfl)) (ait h1) h4 (Bu (jr (Nk h5 (aa4 _ _ _ _)) Bo))
theorem aji{o:List UInt8}{k:Nat}(hk:kindOf o=k)(h0:k≠0)(ho:o.length<=1000000):zp (.bytes o) (.int 0)=some (.int k)/\inV (.bytes (o.take 1)) [.bytes [1],.bytes [2]]=some true:=by
 rcases Lk o with⟨k0,_⟩|⟨r,rfl,k1⟩|⟨r,rfl,k1⟩
 ·exact absurd (hk.symm.trans k0) h0
 ·obtain rfl:=k1.symm.trans hk;exact⟨J7 _ 0 1 ho rfl,rfl⟩
 ·obtain rfl:=k1.symm.trans hk;exact⟨J7 _ 0 2 ho rfl,rfl⟩
theorem ajd{o:List UInt8}(hk:kindOf o=0):inV (.bytes (o.take 1)) [.bytes [1],.bytes [2]]=some false:=by
 rcases Lk o with⟨_,h⟩|⟨r,rfl,k1⟩|⟨r,rfl,k1⟩
 ·cases o with
  |nil=>rfl
  |cons c r=>
   have h:=h c rfl;rw[agw,agw,au0,axq,axq,ig (show ¬[1]=(c::r).take 1 from λ e=>h.1 (List.cons.inj e).1.symm),ig (show ¬[2]=(c::r).take 1 from λ e=>h.2 (List.cons.inj e).1.symm)];rfl
 ·exact nomatch k1.symm.trans hk
 ·exact nomatch k1.symm.trans hk
theorem V8(st:Store)(l:List (String×Ent))(x:String)(e:Ent)(r:Store):setB (.cell st.length) (.str x) e (st++⟨true,.dict l⟩::r)=if l.length<=1000 then some (st++⟨true,.dict (put x e l)⟩::r)else none:=by
 unfold setB;dsimp only;rw[tu];exact au (λ s=>if l.length<=1000 then some s else none) (Je ..)
theorem sbp{st:Store}{l:List (String×Ent)}{x:String}{e:Ent}{r:Store}(h:l.length.ble 1000=true):setB (.cell st.length) (.str x) e (st++⟨true,.dict l⟩::r)=some (st++⟨true,.dict (put x e l)⟩::r):=(V8 ..).trans (bf (aj h))
theorem alm(st:Store)(b:Bool)(l:List (String×Ent))(x:String)(r:Store)(v:V)(h:lk x l=some (.val v)):Pu (.cell st.length) (.str x) (st++⟨b,.dict l⟩::r)=some v:=by
 unfold Pu;dsimp only;rw[tu];show(match(generalizing:=false) lk x l with
  |some (.val v)=>some v
  | _=>none)=_
 rw[h]
theorem in3(a b c:Option Nat):inV .none [oV a,oV b,oV c]=some (a.isNone||b.isNone||c.isNone):=by
 cases a<;>cases b<;>cases c<;>rfl
theorem ap6(st:Store)(b:Bool)(l:List (String×Ent))(r:Store):freeze (.cell st.length) (st++⟨b,.dict l⟩::r)=.ok (.dict (l.map λ p=>(p.1,p.2.toV))) (st++⟨false,.dict l⟩::r):=by
 unfold freeze;dsimp only;rw[tu];exact au (R.ok _) (Je ..)
noncomputable def Vr(t:Ir):List (String×V):=[("kind",.int t.kind),("access",.list (t.access.map Gj)),("signature",aqq t.sig),("chain",.int t.chain),("nonce",.int t.nonce),("priority",.int t.priority),("cap",.int t.cap),("limit",.int t.limit),
 ("target",tgV t.target),("value",.int t.value),("data",t.data)]
theorem aho(t:Ir):Gq (Vr t) t:=⟨rfl,rfl,rfl,rfl,rfl,rfl,rfl,rfl,rfl,rfl,rfl⟩
noncomputable def hV'(o:Option Tx):V:=match o with
 |some t=>.dict (Vr t.raw)
 |none=>.none
theorem azr{x:It}(hx:Fx x){bound:Nat}(hb:bound<=256^39){B:Int}(hB:B=(bound:Int))(n:Nat)(st:Store):CT (n+1) "_law_number" [.val x.v,.val (.int B)] st=.ok (oV (yp x bound)) st:=by
 subst hB;exact afn n x hx.b bound hb st
noncomputable def Ym:u9:=(.cons (.ifs (.cmp .iss (.idx (.nm "law_tx") (.nm "law_name")) .non) (.cons (.ret .non)
 .nil) .nil)
 .nil)
theorem ad2(cf:CF)(can:Bool)(st:Store) (E:List (String×Ent)):∀(l:List (String×V))(ρ:Loc),lk "law_tx" ρ=some (.cell st.length)->(∀p∈l,lk p.1 E=some (.val p.2))->
 ((l.any λ p=>isNone p.2)=true/\N6 cf can (.nm "law_name") Ym (l.map λ p=>.str p.1) ρ (st++[⟨true,.dict E⟩])=.ok (.ret .none) (st++[⟨true,.dict E⟩]))\/
 ((l.any λ p=>isNone p.2)=false/\∃ρ',(∀x,¬x = "law_name"->lk x ρ'=lk x ρ)/\N6 cf can (.nm "law_name") Ym (l.map λ p=>.str p.1) ρ (st++[⟨true,.dict E⟩])=.ok (.next ρ') (st++[⟨true,.dict E⟩]))
 |[],ρ,_,_=>.inr ⟨rfl,ρ,λ _ _=>rfl,rfl⟩
 |p::r,ρ,h,hv=>by
  have hp:=hv p f9;have h':lk "law_tx" (put "law_name" (.val (.str p.1)) ρ)=some (.cell st.length):=m6 (by decide) h
  have hb:ug cf (put "law_name" (.val (.str p.1)) ρ) (.cmp .iss (.idx (.nm "law_tx") (.nm "law_name")) .non) (st++[⟨true,.dict E⟩])=.ok (isNone p.2) (st++[⟨true,.dict E⟩]):=jk (jz (gw h') (dj Ce) (alm _ _ _ _ _ _ hp)) rfl rfl;rw[je,List.any_cons];cases c:isNone p.2 with
  |true=>
   rw[c]at hb;exact .inl ⟨rfl,Dh (Wg _ _ _ _ _) (v9 hb (jr rfl (zc asw)))⟩
  |false=>
   rw[c]at hb;have e:∀{q},N6 cf can (.nm "law_name") Ym (r.map λ p=>.str p.1) (put "law_name" (.val (.str p.1)) ρ) (st++[⟨true,.dict E⟩])=q->N6 cf can (.nm "law_name") Ym (.str p.1::r.map λ p=>.str p.1) ρ (st++[⟨true,.dict E⟩])=q:=λ k=>
    Dh (Wg _ _ _ _ _) (su hb (yd (Nu k)))
   rcases ad2 cf can st E r _ h' (λ q hq=>hv q (bk _ hq))with⟨k1,k2⟩|⟨k1,ρ',k2,k3⟩
   ·exact .inl ⟨k1,e k2⟩
   ·exact .inr ⟨k1,ρ',λ x hx=>(k2 x hx).trans (by rw[lkp,bx hx]),e k3⟩
noncomputable def E11(k a g c n p q l t v d:V):List (String×Ent):=[("kind",.val k),("access",.val a),("signature",.val g),("chain",.val c),("nonce",.val n),("priority",.val p),("cap",.val q),("limit",.val l),("target",.val t),("value",.val v),("data",.val d)]
noncomputable def Q0:u9:=.cons (.for (.nm "law_name") (.tup (.cons (.str "chain") (.cons (.str "access") (.cons (.str "nonce") (.cons (.str "priority") (.cons (.str "cap") (.cons (.str "limit") (.cons (.str "value") (.cons (.str "data") .nil))))))))) Ym)
 (.cons (.ret (.ife (.andE (.cons (.cmp .iss (.idx (.nm "law_tx") (.str "target")) .non) (.cons (.cmp .ne (.idx (.nm "law_rows") (.int 3)) (.byt [])) .nil))) .non (.nm "law_tx")))
 .nil)
noncomputable def oB(o:Option (List UInt8)):V:=match o with
 |some l=>.bytes l
 |none=>.none
theorem azp(o:Option (List UInt8)):isNone (oB o)=o.isNone:=by cases o<;>rfl
theorem ay8(o:Option (List (Nat×List Nat))):isNone (Tw o)=o.isNone:=by cases o<;>rfl
theorem Xf{α β : Type}{o:Option α}{f : α->Option β}{b:Bool}(h:(o.isNone||b)=true)(k:b=true->∀a,f a=none):o.bind f=none:=by
 cases o with
 |none=>rfl
 |some a=>exact k h a
theorem Xr{α : Type}{o:Option α}{b:Bool}(h:(o.isNone||b)=false):(∃a,o=some a)/\b=false:=by
 cases o with
 |none=>cases h
 |some a=>exact⟨⟨a,rfl⟩,h⟩
theorem ab3{α β : Type}{o:Option α}{f : α->Option β}(k:∀a,f a=none):o.bind f=none:=by
 cases o with
 |none=>rfl
 |some a=>exact k a
theorem atb(t:Tx):Vr t.raw=[("kind",.int t.kind),("access",.list (t.access.map accN)),("signature",.tuple [.int t.p,.int t.r,.int t.s]),("chain",.int t.chain),("nonce",.int t.nonce),("priority",.int t.priority),("cap",.int t.cap),("limit",.int t.limit),
 ("target",oV t.target),("value",.int t.value),("data",.bytes t.data)]:=by
 rw[Vr,Tx.raw,agu,Nb];rfl
noncomputable def nB(t:It):Bool:=match t with
 |.b []=>false
 | _=>true
theorem ne_nil(t:It):Qo t.v (.bytes [])=some (nB t):=by
 cases t with
 |b l=>rw[Ox,au8];cases l<;>rfl
 |l xs=>rw[Nj];rfl
theorem a0m{t:It}(h:nB t=true):t≠.b []:=λ e=>by rw[e]at h;cases h
theorem azh{t:It}(h:nB t=false):t=.b []:=by
 cases t with
 |b l=>cases l with
  |nil=>rfl
  |cons=>cases h
 |l xs=>cases h
theorem aax(cf:CF)(can:Bool)(st:Store) (E:List (String×Ent))(vc va vn vp vq vl vv vd T:V)(t:It)(ρ:Loc)
 (h:lk "law_tx" ρ=some (.cell st.length)) (w0 w1 w2 w4 w5:V) (hr:lk "law_rows" ρ=some (.val (.list [w0,w1,w2,t.v,w4,w5])))
 (hE:∀p∈[("chain",vc),("access",va),("nonce",vn),("priority",vp),("cap",vq),("limit",vl),("value",vv),("data",vd)],lk p.1 E=some (.val p.2)) (hT:lk "target" E=some (.val T)):
 ((([("chain",vc),("access",va),("nonce",vn),("priority",vp),("cap",vq),("limit",vl),("value",vv),("data",vd)].any λ p=>isNone p.2)||(isNone T&&nB t))=true/\dw cf can Q0 ρ (st++[⟨true,.dict E⟩])=.ok (.ret .none) (st++[⟨true,.dict E⟩]))\/
 ((([("chain",vc),("access",va),("nonce",vn),("priority",vp),("cap",vq),("limit",vl),("value",vv),("data",vd)].any λ p=>isNone p.2)||(isNone T&&nB t))=false/\dw cf can Q0 ρ (st++[⟨true,.dict E⟩])=.ok (.ret (.dict (E.map λ p=>(p.1,p.2.toV)))) (st++[⟨false,.dict E⟩])):=by
 rcases ad2 cf can st E _ ρ h hE with⟨c,hf⟩|⟨c,ρ',hl,hf⟩<;>rw[c]
 ·exact .inl ⟨rfl,(Dg rfl rfl hf (zc rfl):Is _ (dw _ _ _ _ _))⟩
 ·have h':=(hl "law_tx" (by decide)).trans h
  have hr':=(hl "law_rows" (by decide)).trans hr
  have et:=Dl (jk (o:=.iss) (jz (gw h') (cf:=cf) (g:=.str "target") rfl (alm st true E "target" [] _ hT)) (g:=.non) rfl rfl) λ _=>Ks (jk (o:=.ne) (jz (gw hr') (g:=.int 3) rfl rfl) (g:=.byt []) rfl (ne_nil t));cases c2:(isNone T&&nB t)with
  |true=>
   rw[c2]at et;exact .inl ⟨rfl,(Dg rfl rfl hf (Bu (jr (yu et rfl) rfl)):Is _ (dw _ _ _ _ _))⟩
  |false=>
   rw[c2]at et;exact .inr ⟨rfl,(Dg rfl rfl hf (Bu (jr (wg et (Nk h' (ap6 _ _ _ _))) rfl)):Is _ (dw _ _ _ _ _))⟩
theorem aor(t:It):((isNone (oV (Ey t 20))&&nB t)=true/\Pz t=none)\/((isNone (oV (Ey t 20))&&nB t)=false/\Pz t=some (Ey t 20)):=by
 cases hb:nB t with
 |false=>rw[azh hb];exact .inr ⟨rfl,rfl⟩
 |true=>
  rw[Qm (a0m hb)];cases Ey t 20 with
  |none=>exact .inl ⟨rfl,rfl⟩
  |some x=>exact .inr ⟨rfl,rfl⟩
theorem ay3(oc on op oq ol ov:Option Nat)(od:Option (List UInt8))(oa:Option (List (Nat×List Nat))):([("chain",oV oc),("access",Tw oa),("nonce",oV on),("priority",oV op),("cap",oV oq),("limit",oV ol),("value",oV ov),("data",oB od)].any λ p=>isNone p.2) =
 (oc.isNone||(oa.isNone||(on.isNone||(op.isNone||(oq.isNone||(ol.isNone||(ov.isNone||(od.isNone||false)))))))):=by
 rw[<-O7 oc,<-O7 on,<-O7 op,<-O7 oq,<-O7 ol,<-O7 ov,<-azp,<-ay8];rfl
theorem Ru(cf:CF)(can:Bool)(st:Store)(kind p r s:Nat)(on op oq ol ov oc:Option Nat)(t:It)(od:Option (List UInt8))(oa:Option (List (Nat×List Nat)))(ρ:Loc)
 (h:lk "law_tx" ρ=some (.cell st.length)) (w0 w1 w2 w4 w5:V) (hr:lk "law_rows" ρ=some (.val (.list [w0,w1,w2,t.v,w4,w5]))):
 ∃b E,dw cf can Q0 ρ (st++[⟨true,.dict (E11 (.int kind) (Tw oa) (.tuple [.int p,.int r,.int s]) (oV oc) (oV on) (oV op) (oV oq) (oV ol) (oV (Ey t 20)) (oV ov) (oB od))⟩]) =
 .ok (.ret (hV' (oc.bind λ c=>oa.bind λ a=>on.bind λ n=>op.bind λ pr=>oq.bind λ q=>ol.bind λ l=>(Pz t).bind λ t=>ov.bind λ v=>od.bind λ d=>
  some ⟨kind,c,n,pr,q,l,t,v,d,a,p,r,s⟩))) (st++[⟨b,.dict E⟩]):=by
 rcases aax cf can st (E11 (.int kind) (Tw oa) (.tuple [.int p,.int r,.int s]) (oV oc) (oV on) (oV op) (oV oq) (oV ol) (oV (Ey t 20)) (oV ov) (oB od)) (oV oc) (Tw oa) (oV on) (oV op) (oV oq) (oV ol) (oV ov) (oB od) (oV (Ey t 20)) t ρ h _ _ _ _ _ hr
  (by simp only[dg];exact⟨rfl,rfl,rfl,rfl,rfl,rfl,rfl,rfl,λ _ h=>nomatch h⟩) rfl with⟨c,hw⟩|⟨c,hw⟩<;>
  refine⟨_,_,hw.trans (au (λ v=>R.ok (Fl.ret v) _) ?_)⟩<;>rw[ay3]at c
 ·rcases aor t with⟨_,e⟩|⟨e,_⟩
  ·exact au hV' (ab3 λ _=>ab3 λ _=>ab3 λ _=>ab3 λ _=>ab3 λ _=>ab3 λ _=>by rw[e];rfl).symm
  ·rw[e,Bool.or_false]at c;exact au hV' (Xf c λ c _=>Xf c λ c _=>Xf c λ c _=>Xf c λ c _=>Xf c λ c _=>Xf c λ c _=>ab3 λ _=>Xf c λ c _=>Xf c λ c=>nomatch c).symm
 ·clear hw
  obtain⟨c0,c9⟩:=Bool.or_eq_false_iff.mp c
  clear c
  obtain⟨⟨c',rfl⟩,c1⟩:=Xr c0;obtain⟨⟨a,rfl⟩,c2⟩:=Xr c1;obtain⟨⟨n,rfl⟩,c3⟩:=Xr c2;obtain⟨⟨pr,rfl⟩,c4⟩:=Xr c3;obtain⟨⟨q,rfl⟩,c5⟩:=Xr c4;obtain⟨⟨l,rfl⟩,c6⟩:=Xr c5;obtain⟨⟨v,rfl⟩,c7⟩:=Xr c6;obtain⟨⟨d,rfl⟩,c8⟩:=Xr c7;rcases aor t with⟨e,_⟩|⟨_,e⟩
  ·exact nomatch e.symm.trans c9
  ·rw[e];exact au V.dict (atb ⟨kind,c',n,pr,q,l,Ey t 20,v,d,a,p,r,s⟩).symm
noncomputable def Yc(rest:u9):u9:=(.cons (.asg (.nm "law_rows") (.slc (.nm "law_rows") .none (.some (.neg (.int 3)))))
 (.cons (.asg (.tup (.cons (.idx "law_tx" (.str "nonce")) (.cons (.idx "law_tx" (.str "priority")) .nil))) (.tup (.cons (.call "_law_number" (.cons (.idx (.nm "law_rows") (.int 0)) (.cons (.bin .pow (.int 2) (.int 64)) .nil))) (.cons (.call "_law_number" (.cons (.idx (.nm "law_rows") (.int 1)) (.cons (.bin .pow (.int 2) (.int 256)) .nil))) .nil))))
 (.cons (.ifs (.cmp .eq (.nm "law_kind") (.int 2)) (.cons (.asg (.nm "law_rows") (.bin .add (.slc (.nm "law_rows") .none (.some (.int 1))) (.slc (.nm "law_rows") (.some (.int 2)) .none)))
  .nil) .nil) rest)))
noncomputable def Oo(rest:u9):u9:=
 (.cons (.asg (.tup (.cons (.idx "law_tx" (.str "cap")) (.cons (.idx "law_tx" (.str "limit")) .nil))) (.tup (.cons (.call "_law_number" (.cons (.idx (.nm "law_rows") (.int 1)) (.cons (.bin .pow (.int 2) (.int 256)) .nil))) (.cons (.call "_law_number" (.cons (.idx (.nm "law_rows") (.int 2)) (.cons (.bin .pow (.int 2) (.int 64)) .nil))) .nil))))
 (.cons (.asg (.tup (.cons (.idx "law_tx" (.str "target")) (.cons (.idx "law_tx" (.str "value")) .nil))) (.tup (.cons (.call "_law_fixed" (.cons (.idx (.nm "law_rows") (.int 3)) (.cons (.int 20) .nil))) (.cons (.call "_law_number" (.cons (.idx (.nm "law_rows") (.int 4)) (.cons (.bin .pow (.int 2) (.int 256)) .nil))) .nil))))
 (.cons (.asg (.idx "law_tx" (.str "data")) (.ife (.isl (.idx (.nm "law_rows") (.int 5))) .non (.idx (.nm "law_rows") (.int 5)))) rest)))
noncomputable def E4(k a g c:V):List (String×Ent):=[("kind",.val k),("access",.val a),("signature",.val g),("chain",.val c)]
noncomputable def E6(k a g c n p:V):List (String×Ent):=[("kind",.val k),("access",.val a),("signature",.val g),("chain",.val c),("nonce",.val n),("priority",.val p)]
noncomputable def Zz(o k T R y:V)(i:Nat):Loc:=[("octets",.val o),("law_kind",.val k),("law_told",.val T),("law_rows",.val R),("law_tx",.cell i),("law_parity",.val y)]
theorem Qu{n:Nat}{ρ:Loc}{st:Store}{x:V}{l:List V}{i:Int}{k:Nat}{o:Option Nat}(h:lk "law_rows" ρ=some (.val (.list l)))(g:zp (.list l) (.int i)=some x)(hp:Cd .pow (.int 2) (.int k)=some (.int (P2 k)))
 (hc:∀n st,CT (n+1) "_law_number" [.val x,.val (.int (P2 k))] st=.ok (oV o) st):iu (CT (n+1)) ρ (.call "_law_number" (.cons (.idx (.nm "law_rows") (.int i)) (.cons (.bin .pow (.int 2) (.int k)) .nil))) st=.ok (oV o) st:=
 gj (b_1 (v7 rfl (jz (gw h) rfl g)) (b_1 (v7 rfl (gk rfl rfl hp)) rfl)) (hc _ _)
theorem ava(n:Nat)(can:Bool)(st:Store)(k a g c on op o T y:V)(q l t v d n':It)(oq ol ov:Option Nat)(rest:u9)
 (aq:∀n st,CT (n+1) "_law_number" [.val q.v,.val (.int (P2 256))] st=.ok (oV oq) st) (al:∀n st,CT (n+1) "_law_number" [.val l.v,.val (.int (P2 64))] st=.ok (oV ol) st)
 (av:∀n st,CT (n+1) "_law_number" [.val v.v,.val (.int (P2 256))] st=.ok (oV ov) st) (at20:∀n st,CT (n+2) "_law_fixed" [.val t.v,.val (.int 20)] st=.ok (oV (Ey t 20)) st):
 dw (CT (n+9)) can (Oo rest) (Zz o k T (.list [n'.v,q.v,l.v,t.v,v.v,d.v]) y st.length) (st++[⟨true,.dict (E6 k a g c on op)⟩]) =
 dw (CT (n+9)) can rest (Zz o k T (.list [n'.v,q.v,l.v,t.v,v.v,d.v]) y st.length) (st++[⟨true,.dict (E11 k a g c on op (oV oq) (oV ol) (oV (Ey t 20)) (oV ov) (oB (J0 d)))⟩]):=by
 refine(?_:Is (dw (CT (n+9)) can rest _ _) (dw _ _ (Oo rest) _ _));have hd:∀st',iu (CT (n+9)) (Zz o k T (.list [n'.v,q.v,l.v,t.v,v.v,d.v]) y st.length) (.ife (.isl (.idx (.nm "law_rows") (.int 5))) .non (.idx (.nm "law_rows") (.int 5))) st'=.ok (oB (J0 d)) st':=λ _=>by
  cases d with
  |b dl=>exact wg (Ci (jz (gw rfl) rfl (au some (Ox dl))) rfl) (jz (gw rfl) rfl (au some (Ox dl)))
  |l dl=>exact yu (Ci (jz (gw rfl) rfl (au some (Nj dl))) rfl) rfl
 refine z7 (q8 (s_1 (Qu rfl rfl Dm aq) (s_1 (Qu rfl rfl S5 al) rfl)) (aj rfl)) (aas rfl rfl (sbp rfl) rfl (sbp rfl)) ?_;refine z7 (q8 (s_1 (gj (b_1 (v7 rfl (jz (gw rfl) rfl rfl)) (b_1 (v7 rfl rfl) rfl)) (at20 (n+7) _)) (s_1 (Qu rfl rfl Dm av) rfl)) (aj rfl)) (aas rfl rfl (sbp rfl) rfl (sbp rfl)) ?_;exact Ih rfl (hd _) rfl rfl (sbp rfl) (J9 rfl)
theorem avi(n:Nat)(can:Bool)(st:Store)(k:Int)(hk:¬k=2)(a g c o T y:V)(n' q l t v d x1 x2 x3:It)(on oq ol ov:Option Nat)(rest:u9)
 (an:∀n st,CT (n+1) "_law_number" [.val n'.v,.val (.int (P2 64))] st=.ok (oV on) st) (aq:∀n st,CT (n+1) "_law_number" [.val q.v,.val (.int (P2 256))] st=.ok (oV oq) st):
 dw (CT (n+9)) can (Yc rest) (Zz o (.int k) T (.list [n'.v,q.v,l.v,t.v,v.v,d.v,x1.v,x2.v,x3.v]) y st.length) (st++[⟨true,.dict (E4 (.int k) a g c)⟩]) =
 dw (CT (n+9)) can rest (Zz o (.int k) T (.list [n'.v,q.v,l.v,t.v,v.v,d.v]) y st.length) (st++[⟨true,.dict (E6 (.int k) a g c (oV on) (oV oq))⟩]):=by
 have c6:wk (.list [n'.v,q.v,l.v,t.v,v.v,d.v,x1.v,x2.v,x3.v]) none (some (.int (-3)))=some (.list [n'.v,q.v,l.v,t.v,v.v,d.v]):=rfl;refine(?_:Is (dw (CT (n+9)) can rest _ _) (dw _ _ (Yc rest) _ _));refine qb rfl (vf (dj rfl) rfl (zj rfl) c6) (z7 (q8 (s_1 (Qu rfl rfl S5 an) (s_1 (Qu rfl rfl Dm aq) rfl)) (aj rfl)) (aas rfl rfl (sbp rfl) rfl (sbp rfl)) ?_);exact su (jk (dj rfl) rfl (au some (ig hk):xg .eq (.int k) (.int 2)=some false)) (J9 rfl)
theorem axv(n:Nat)(can:Bool)(st:Store)(a g c o T y:V)(n' p q l t v d x1 x2 x3:It)(on op:Option Nat)(rest:u9)
 (an:∀n st,CT (n+1) "_law_number" [.val n'.v,.val (.int (P2 64))] st=.ok (oV on) st) (ap:∀n st,CT (n+1) "_law_number" [.val p.v,.val (.int (P2 256))] st=.ok (oV op) st):
 dw (CT (n+9)) can (Yc rest) (Zz o (.int 2) T (.list [n'.v,p.v,q.v,l.v,t.v,v.v,d.v,x1.v,x2.v,x3.v]) y st.length) (st++[⟨true,.dict (E4 (.int 2) a g c)⟩]) =
 dw (CT (n+9)) can rest (Zz o (.int 2) T (.list [n'.v,q.v,l.v,t.v,v.v,d.v]) y st.length) (st++[⟨true,.dict (E6 (.int 2) a g c (oV on) (oV op))⟩]):=by
 have c6:wk (.list [n'.v,p.v,q.v,l.v,t.v,v.v,d.v,x1.v,x2.v,x3.v]) none (some (.int (-3)))=some (.list [n'.v,p.v,q.v,l.v,t.v,v.v,d.v]):=rfl;have c7:wk (.list [n'.v,p.v,q.v,l.v,t.v,v.v,d.v]) none (some (.int 1))=some (.list [n'.v]):=rfl;have c8:wk (.list [n'.v,p.v,q.v,l.v,t.v,v.v,d.v]) (some (.int 2)) none=some (.list [q.v,l.v,t.v,v.v,d.v]):=rfl;refine(?_:Is (dw (CT (n+9)) can rest _ _) (dw _ _ (Yc rest) _ _));refine qb rfl (vf (dj rfl) rfl (zj rfl) c6) (z7 (q8 (s_1 (Qu rfl rfl S5 an) (s_1 (Qu rfl rfl Dm ap) rfl)) (aj rfl)) (aas rfl rfl (sbp rfl) rfl (sbp rfl)) ?_);exact v9 (jk (dj rfl) rfl rfl) (qb rfl (gk (vf (dj rfl) rfl (zj rfl) c7) (vf (dj rfl) (zj rfl) rfl c8) rfl) (yd (Bu (J9 rfl))))
noncomputable def a0g(rest:u9):u9:=(.cons (.asg (.nm "law_kind") (.ife (.cmp .inn (.slc (.nm "octets") .none (.some (.int 1))) (.tup (.cons (.byt [1]) (.cons (.byt [2]) .nil)))) (.idx (.nm "octets") (.int 0)) (.int 0)))
 (.cons (.asg (.nm "law_told") (.call "_law_item" (.cons (.nm "octets") (.cons (.ife (.cmp .gt (.nm "law_kind") (.int 0)) (.int 1) (.int 0)) .nil))))
 (.cons (.ifs (.orE (.cons (.cmp .iss (.nm "law_told") .non) (.cons (.cmp .ne (.idx (.nm "law_told") (.int 1)) (.len (.nm "octets"))) (.cons (.notE (.isl (.idx (.nm "law_told") (.int 0)))) .nil)))) (.cons (.ret .non)
  .nil) .nil) rest)))
noncomputable def au3(rest:u9):u9:=(.cons (.asg (.nm "law_rows") (.idx (.nm "law_told") (.int 0)))
 (.cons (.ifs (.cmp .ne (.len (.nm "law_rows")) (.idx (.tup (.cons (.int 9) (.cons (.int 11) (.cons (.int 12) .nil)))) (.nm "law_kind"))) (.cons (.ret .non)
  .nil) .nil) rest))
noncomputable def at6(rest:u9):u9:=(.cons (.asg (.nm "law_tx") (.dct ["kind","access"] (.cons (.nm "law_kind") (.cons (.lst .nil) .nil))))
 (.cons (.asg (.nm "law_parity") (.call "_law_number" (.cons (.idx (.nm "law_rows") (.neg (.int 3))) (.cons (.ife (.cmp .eq (.nm "law_kind") (.int 0)) (.bin .add (.int 35) (.bin .pow (.int 2) (.int 257))) (.int 2)) .nil))))
 (.cons (.asg (.idx "law_tx" (.str "signature")) (.tup (.cons (.nm "law_parity") (.cons (.call "_law_number" (.cons (.idx (.nm "law_rows") (.neg (.int 2))) (.cons (.bin .pow (.int 2) (.int 256)) .nil))) (.cons (.call "_law_number" (.cons (.idx (.nm "law_rows") (.neg (.int 1))) (.cons (.bin .pow (.int 2) (.int 256)) .nil))) .nil)))))
 (.cons (.ifs (.cmp .inn .non (.idx (.nm "law_tx") (.str "signature"))) (.cons (.ret .non)
  .nil) .nil) rest))))
noncomputable def amj(rest:u9):u9:=(.cons (.ifs (.cmp .eq (.nm "law_kind") (.int 0)) (.cons (.ifs (.andE (.cons (.cmp .lt (.nm "law_parity") (.int 37)) (.cons (.cmp .nin (.nm "law_parity") (.tup (.cons (.int 27) (.cons (.int 28) .nil)))) .nil))) (.cons (.ret .non)
 .nil) .nil)
 (.cons (.asg (.idx "law_tx" (.str "chain")) (.ife (.cmp .lt (.nm "law_parity") (.int 37)) (.int 0) (.bin .fdiv (.bin .sub (.nm "law_parity") (.int 35)) (.int 2))))
 (.cons (.asg (.idx "law_tx" (.str "signature")) (.bin .add (.tup (.cons (.bin .mod (.bin .add (.nm "law_parity") (.int 1)) (.int 2)) .nil)) (.slc (.idx (.nm "law_tx") (.str "signature")) (.some (.int 1)) .none)))
 .nil))) (.cons (.asg (.tup (.cons (.idx "law_tx" (.str "chain")) (.cons (.idx "law_tx" (.str "access")) .nil))) (.tup (.cons (.call "_law_number" (.cons (.idx (.nm "law_rows") (.int 0)) (.cons (.bin .pow (.int 2) (.int 256)) .nil))) (.cons (.call "_law_access" (.cons (.idx (.nm "law_rows") (.neg (.int 4))) .nil)) .nil))))
 (.cons (.asg (.nm "law_rows") (.slc (.nm "law_rows") (.some (.int 1)) (.some (.neg (.int 1)))))
 .nil))) rest)
theorem aaq:Fi.body=a0g (au3 (at6 (amj (Yc (Oo Q0))))):=rfl
theorem af8(v:V)(st t:Store):back st.length (kb Ay (.ok (.ret v) (st++t)))=.ok v st:=(Vd st.length v (st++t)).trans (by rw[Kw])
noncomputable def sT(a b c:V):V:=.tuple [a,b,c]
theorem nR{β : Type}(a b c:Option Nat)(f:Nat->Nat->Nat->Option β)(h:(a.isNone||b.isNone||c.isNone)=true):(a.bind λ y=>b.bind λ r=>c.bind λ s=>f y r s)=none:=by
 cases a with
 |none=>rfl
 |some _=>cases b with
  |none=>rfl
  |some _=>cases c with
   |none=>rfl
   |some _=>cases h
theorem nS{a b c:Option Nat}(h:(a.isNone||b.isNone||c.isNone)=false):∃y r s,a=some y/\b=some r/\c=some s:=by
 cases a with
 |none=>cases h
 |some y=>cases b with
  |none=>cases h
  |some r=>cases c with
   |none=>cases h
   |some s=>exact⟨y,r,s,rfl,rfl,rfl⟩
theorem Rm(n:Nat)(can:Bool)(st:Store)(o T y:V)(k p' r' s':Nat)(hk:¬(k:Int)=2)(n' q l t v d x1 x2 x3:It)(on oq ol ov oc:Option Nat)(oa:Option (List (Nat×List Nat)))(w:V)
 (an:∀n st,CT (n+1) "_law_number" [.val n'.v,.val (.int (P2 64))] st=.ok (oV on) st) (aq:∀n st,CT (n+1) "_law_number" [.val q.v,.val (.int (P2 256))] st=.ok (oV oq) st)
 (al:∀n st,CT (n+1) "_law_number" [.val l.v,.val (.int (P2 64))] st=.ok (oV ol) st) (av:∀n st,CT (n+1) "_law_number" [.val v.v,.val (.int (P2 256))] st=.ok (oV ov) st)
 (at20:∀n st,CT (n+2) "_law_fixed" [.val t.v,.val (.int 20)] st=.ok (oV (Ey t 20)) st)
 (hw:hV' (oc.bind λ c=>oa.bind λ a=>on.bind λ n=>oq.bind λ pr=>oq.bind λ q=>ol.bind λ l=>(Pz t).bind λ t=>ov.bind λ v=>(J0 d).bind λ d=>some ⟨k,c,n,pr,q,l,t,v,d,a,p',r',s'⟩)=w):
 back st.length (kb Ay (dw (CT (n+9)) can (Yc (Oo Q0)) (Zz o (.int k) T (.list [n'.v,q.v,l.v,t.v,v.v,d.v,x1.v,x2.v,x3.v]) y st.length)
  (st++[⟨true,.dict (E4 (.int k) (Tw oa) (sT (.int p') (.int r') (.int s')) (oV oc))⟩])))=.ok w st:=by
 obtain⟨b,E,ht⟩:=Ru (CT (n+9)) can st k p' r' s' on oq oq ol ov oc t (J0 d) oa (Zz o (.int k) T (.list [n'.v,q.v,l.v,t.v,v.v,d.v]) y st.length) rfl _ _ _ _ _ rfl;subst hw;exact(au (λ r=>back st.length (kb Ay r)) ((avi n can st k hk _ _ _ _ _ _ n' q l t v d x1 x2 x3 on oq ol ov (Oo Q0) an aq).trans ((ava n can st _ _ _ _ _ _ _ _ _ q l t v d n' oq ol ov Q0 aq al av at20).trans ht))).trans (af8 _ _ _)
theorem ab0(n:Nat)(can:Bool)(st:Store)(o T y:V)(p' r' s':Nat)(n' p q l t v d x1 x2 x3:It)(on op oq ol ov oc:Option Nat)(oa:Option (List (Nat×List Nat)))(w:V)
 (an:∀n st,CT (n+1) "_law_number" [.val n'.v,.val (.int (P2 64))] st=.ok (oV on) st) (ap:∀n st,CT (n+1) "_law_number" [.val p.v,.val (.int (P2 256))] st=.ok (oV op) st)
 (aq:∀n st,CT (n+1) "_law_number" [.val q.v,.val (.int (P2 256))] st=.ok (oV oq) st)
 (al:∀n st,CT (n+1) "_law_number" [.val l.v,.val (.int (P2 64))] st=.ok (oV ol) st) (av:∀n st,CT (n+1) "_law_number" [.val v.v,.val (.int (P2 256))] st=.ok (oV ov) st)
 (at20:∀n st,CT (n+2) "_law_fixed" [.val t.v,.val (.int 20)] st=.ok (oV (Ey t 20)) st)
 (hw:hV' (oc.bind λ c=>oa.bind λ a=>on.bind λ n=>op.bind λ pr=>oq.bind λ q=>ol.bind λ l=>(Pz t).bind λ t=>ov.bind λ v=>(J0 d).bind λ d=>some ⟨2,c,n,pr,q,l,t,v,d,a,p',r',s'⟩)=w):
 back st.length (kb Ay (dw (CT (n+9)) can (Yc (Oo Q0)) (Zz o (.int 2) T (.list [n'.v,p.v,q.v,l.v,t.v,v.v,d.v,x1.v,x2.v,x3.v]) y st.length)
  (st++[⟨true,.dict (E4 (.int 2) (Tw oa) (sT (.int p') (.int r') (.int s')) (oV oc))⟩])))=.ok w st:=by
 obtain⟨b,E,ht⟩:=Ru (CT (n+9)) can st 2 p' r' s' on op oq ol ov oc t (J0 d) oa (Zz o (.int 2) T (.list [n'.v,q.v,l.v,t.v,v.v,d.v]) y st.length) rfl _ _ _ _ _ rfl;subst hw;exact(au (λ r=>back st.length (kb Ay r)) ((axv n can st _ _ _ _ _ _ n' p q l t v d x1 x2 x3 on op (Oo Q0) an ap).trans ((ava n can st _ _ _ _ _ _ _ _ _ q l t v d n' oq ol ov Q0 aq al av at20).trans ht))).trans (af8 _ _ _)
noncomputable def E3(k:Int)(g:V):List (String×Ent):=[("kind",.val (.int k)),("access",.val (.list [])),("signature",.val g)]
theorem Wt(n:Nat)(can:Bool)(st:Store)(o T Rw:V)(k:Int) (B:Int)(y r s:It)(oy or os:Option Nat)(rest:u9){W:R Fl->Prop}
 (hB:∀ρ st,lk "law_kind" ρ=some (.val (.int k))->iu (CT (n+9)) ρ (.ife (.cmp .eq (.nm "law_kind") (.int 0)) (.bin .add (.int 35) (.bin .pow (.int 2) (.int 257))) (.int 2)) st=.ok (.int B) st)
 (g3:zp Rw (.int (-3))=some y.v) (g2:zp Rw (.int (-2))=some r.v) (g1:zp Rw (.int (-1))=some s.v)
 (ay:∀n st,CT (n+1) "_law_number" [.val y.v,.val (.int B)] st=.ok (oV oy) st) (ar:∀n st,CT (n+1) "_law_number" [.val r.v,.val (.int (P2 256))] st=.ok (oV or) st) (as:∀n st,CT (n+1) "_law_number" [.val s.v,.val (.int (P2 256))] st=.ok (oV os) st)
 (h0:(oy.isNone||or.isNone||os.isNone)=true->∀t,W (.ok (.ret .none) (st++t)))
 (h1:∀y' r' s',oy=some y'->or=some r'->os=some s'->W (dw (CT (n+9)) can rest (Zz o (.int k) T Rw (.int (y':Nat)) st.length) (st++[⟨true,.dict (E3 k (sT (.int (y':Nat)) (.int (r':Nat)) (.int (s':Nat))))⟩]))):
 W (dw (CT (n+9)) can (at6 rest) [("octets",.val o),("law_kind",.val (.int k)),("law_told",.val T),("law_rows",.val Rw)] st):=by
 refine Di rfl (aob (s_1 (dj rfl) (s_1 rfl rfl)) ⟨rfl,by decide,by decide⟩) rfl ?_
 have num:∀{ρ st g y x}{o:Option Nat},lk "law_rows" ρ=some (.val Rw)->iu (CT (n+9)) ρ g st=.ok y st->zp Rw y=some x->(∀n st,CT (n+1) "_law_number" [.val x,.val (.int (P2 256))] st=.ok (oV o) st)->
  iu (CT (n+9)) ρ (.call "_law_number" (.cons (.idx (.nm "law_rows") g) (.cons (.bin .pow (.int 2) (.int 256)) .nil))) st=.ok (oV o) st:=
  λ a b c d=>gj (b_1 (v7 rfl (jz (gw a) b c)) (b_1 (v7 rfl (gk rfl rfl Dm)) rfl)) (d _ _)
 refine qb rfl (gj (b_1 (v7 rfl (jz (gw rfl) rfl g3)) (b_1 (v7 rfl (hB _ _ rfl)) rfl)) (ay _ _)) ?_;refine Ih rfl (q8 (s_1 (dj rfl) (s_1 (num rfl rfl g2 ar) (s_1 (num rfl rfl g1 as) rfl))) (aj rfl)) rfl rfl ((V8 _ _ _ _ _).trans (bf (aj rfl))) ?_;refine uz (jk rfl (jz (gw rfl) rfl (alm _ _ _ _ _ _ rfl)) (in3 oy or os)) (λ c=>jr rfl (zc (h0 c _))) λ c=>?_;obtain⟨y',r',s',rfl,rfl,rfl⟩:=nS c;exact h1 y' r' s' rfl rfl rfl
theorem azi(n:Nat)(can:Bool)(st:Store)(o T Rw:V)(y r s:Nat)(rest:u9){W:R Fl->Prop}
 (h0:Bg y=none->∀t,W (.ok (.ret .none) (st++t)))
 (h1:∀c p,Bg y=some (c,p)->W (dw (CT (n+9)) can rest (Zz o (.int 0) T Rw (.int y) st.length) (st++[⟨true,.dict (E4 (.int 0) (.list []) (sT (.int (p:Nat)) (.int r) (.int s)) (.int (c:Nat)))⟩]))):
 W (dw (CT (n+9)) can (amj rest) (Zz o (.int 0) T Rw (.int y) st.length) (st++[⟨true,.dict (E3 0 (sT (.int y) (.int r) (.int s)))⟩]) ):=by
 refine R0 (c:=true) (jk (dj rfl) rfl rfl) (λ _=> ?_) λ c=>nomatch c;refine uz (Dl (jk (dj rfl) rfl rfl) λ _=>Ks (jk (dj rfl) rfl (au (Option.map λ b=>!b) (ajn _ _ _)))) (λ c=>jr rfl (zc (zc (h0 ?_ _)))) λ c=>?_
 ·obtain⟨c1,c2⟩:=jd.mp c;exact(bx λ h=>by rcases h with rfl|rfl<;>cases c2).trans (bf (of_lt (b:=37) c1))
 ·obtain⟨ch,p,hs,hch,hp⟩:∃ch p:Nat,Bg y=some (ch,p)/\(∀ρ st,lk "law_parity" ρ=some (.val (.int y))->iu (CT (n+9)) ρ (.ife (.cmp .lt (.nm "law_parity") (.int 37)) (.int 0) (.bin .fdiv (.bin .sub (.nm "law_parity") (.int 35)) (.int 2))) st=.ok (.int ch) st)/\((y:Int)+1)%2=p:=by
   by_cases h37:y<37
   ·have h28:y=27\/y=28:=by
     rw[show decide ((y:Int)<37)=true from fu (jw.2 h37)]at c;have c:=(Bool.not_eq_false' _).mp c;rcases Bool.or_eq_true_iff.mp c with c|c
     ·exact .inl (ju (dh c)).symm
     ·exact .inr (ju (dh ((Bool.or_false _).symm.trans c))).symm
    refine⟨0,y-27,bf h28,λ ρ st h=>yu (jk (dj h) rfl (Vt h37)) rfl,?_⟩;rcases h28 with rfl|rfl<;>rfl
   ·have h36:=nj h37;have e35:(y:Int)-35=((y-35:Nat):Int):=(Int.ofNat_sub (ak (by decide) h36)).symm
    refine⟨(y-35)/2,(y-35)%2,(bx λ h=>by rcases h with rfl|rfl<;>exact h37 (by decide)).trans (bx h37),λ ρ st h=>wg (jk (dj h) rfl (I9 h37)) (gk (gk (dj h) rfl (au (λ i=>some (V.int i)) e35)) rfl rfl),?_⟩
    obtain⟨w,rfl⟩:∃w,y=w+35:=⟨y-35,(Nat.sub_add_cancel (ak (by decide) h36)).symm⟩
    exact au Int.ofNat (Nat.add_mul_mod_self_right w 18 2)
  refine Ih rfl (hch _ _ rfl) rfl rfl ((V8 _ _ _ _ _).trans (bf (aj rfl))) ?_;refine Ih rfl (gk (q8 (s_1 (gk (gk (dj rfl) rfl rfl) rfl (show _ = some (V.int p) by rw[<-hp];rfl)) rfl) (aj rfl)) (vf (jz (gw rfl) rfl (alm _ _ _ _ _ _ rfl)) (zj rfl) rfl rfl) rfl) rfl rfl ((V8 _ _ _ _ _).trans (bf (aj rfl))) ?_
  exact yd (Bu (h1 ch p hs))
theorem an5(n:Nat)(can:Bool)(st:Store)(o T Rw Rw':V)(k:Int)(hk:(k==0)=false)(c a:It)(oc:Option Nat)(oa:Option (List (Nat×List Nat)))(y g:V)(rest:u9){W:R Fl->Prop}
 (g0:zp Rw (.int 0)=some c.v) (g4:zp Rw (.int (-4))=some a.v) (gs:wk Rw (some (.int 1)) (some (.int (-1)))=some Rw')
 (ac:∀n st,CT (n+1) "_law_number" [.val c.v,.val (.int (P2 256))] st=.ok (oV oc) st) (aa:∀n st,CT (n+3) "_law_access" [.val a.v] st=.ok (Tw oa) st)
 (h1:W (dw (CT (n+9)) can rest (Zz o (.int k) T Rw' y st.length) (st++[⟨true,.dict (E4 (.int k) (Tw oa) g (oV oc))⟩]))):
 W (dw (CT (n+9)) can (amj rest) (Zz o (.int k) T Rw y st.length) (st++[⟨true,.dict (E3 k g)⟩])):=by
 refine R0 (c:=false) (jk (dj rfl) rfl (au some hk)) (λ c=>nomatch c) λ _=> ?_;refine z7 (q8 (s_1 (gj (b_1 (v7 rfl (jz (gw rfl) rfl g0)) (b_1 (v7 rfl (gk rfl rfl Dm)) rfl)) (ac _ _)) (s_1 (gj (b_1 (v7 rfl (jz (gw rfl) rfl g4)) rfl) (aa _ _)) rfl)) (aj rfl)) (aas rfl rfl ((V8 _ _ _ _ _).trans (bf (aj rfl))) rfl ((V8 _ _ _ _ _).trans (bf (aj rfl)))) ?_;exact qb rfl (vf (dj rfl) (zj rfl) (zj rfl) gs) (yd (Bu h1))
noncomputable def rdX(k:Nat)(x:It)(e n:Nat):Option Tx:=match x with
 |.l rows=>if e=n then Jw k rows else none
 |.b _=>none
theorem Vn{m k:Nat}{o:List UInt8}(hk:kindOf o=k){x:It}{e:Nat}(h:D m o (if 0<k then 1 else 0)=some (x,e)):rd m o=rdX k x e o.length:=by
 unfold rd;rw[hk,h];cases x<;>rfl
theorem V0{m k:Nat}{o:List UInt8}(hk:kindOf o=k)(h:D m o (if 0<k then 1 else 0)=none):rd m o=none:=by
 unfold rd;rw[hk,h]
theorem anw(o:List UInt8):kindOf o=0\/kindOf o=1\/kindOf o=2:=by
 rcases Lk o with⟨k,_⟩|⟨_,_,k⟩|⟨_,_,k⟩
 ·exact .inl k
 ·exact .inr (.inl k)
 ·exact .inr (.inr k)
theorem aiu{k:Nat}(hk:k=0\/k=1\/k=2):∃z:Nat,zp (.tuple [.int 9,.int 11,.int 12]) (.int k)=some (.int z)/\(∀rows,rows.length≠z->Jw k rows=none)/\z=9+(if 0<k then k+1 else 0):=by
 have no:∀{k z},(∀{rows t},Jw k rows=some t->rows.length=z)->∀rows,rows.length≠z->Jw k rows=none:=λ h rows hn=>by
  cases hh:Jw _ rows with
  |none=>rfl
  |some t=>exact absurd (h hh) hn
 rcases hk with rfl|rfl|rfl
 ·exact⟨9,rfl,no λ h=>Oc (y:=none) h,rfl⟩
 ·exact⟨11,rfl,no λ h=>Oc (y:=none) h,rfl⟩
 ·exact⟨12,rfl,no λ h=>Oc (y:=none) h,rfl⟩
theorem Z2(n k:Nat)(hk:k=0\/k=1\/k=2)(o:List UInt8) (T:V)(rows:List It)(h5:rows.length<=5000)(m2:∀x∈rows,Fx x)(can:Bool)(st:Store):
 Fin st.length (.ok (hV' (Jw k rows)) st) (dw (CT (n+9)) can (.cons (.ifs (.cmp .ne (.len (.nm "law_rows")) (.idx (.tup (.cons (.int 9) (.cons (.int 11) (.cons (.int 12) .nil)))) (.nm "law_kind"))) (.cons (.ret .non)
  .nil) .nil) (at6 (amj (Yc (Oo Q0))))) [("octets",.val (.bytes o)),("law_kind",.val (.int k)),("law_told",.val T),("law_rows",.val (It.l rows).v)] st):=by
 obtain⟨z,hz1,hz2,hzz⟩:=aiu hk;refine uz (jk (ux (gw rfl) (ai3 h5 st)) (jz (v7 rfl rfl) (dj rfl) hz1) rfl) (λ c=>?_) λ c=>?_
 ·rw[hz2 rows λ e=>by rw[e]at c;exact absurd rfl (bne_iff_ne.mp c)]
  exact jr rfl (zc mz)
 have hl:rows.length=9+(if 0<k then k+1 else 0):=(ju (bne_eq_false_iff_eq.mp c)).trans hzz
 clear c hz1 hz2 hzz h5
 rw[Nj];have F:∀{x:It}{bound:Nat},Fx x->bound<=256^39->∀{B:Int},B=bound->∀n st,CT (n+1) "_law_number" [.val x.v,.val (.int B)] st=.ok (oV (yp x bound)) st:=λ h b _ e n st=>azr h b e n st;have M:∀i (h:i<rows.length),Fx rows[i]:=λ i h=>m2 _ (List.getElem_mem h)
 clear m2
 rcases hk with rfl|rfl|rfl
 ·cases ag8 hl with|mk n' q l t v d y r s=>
  rw[ac0];refine Wt n _ st _ _ _ 0 (35+P2 257) y r s _ _ _ _ (λ ρ st h=>yu (jk (dj h) rfl rfl) (gk rfl (gk rfl rfl apw) rfl)) rfl rfl rfl (F (x:=y) (M 6 (aj rfl)) (bound:=35+2^257) (by decide) rfl) (F (x:=r) (M 7 (aj rfl)) (bound:=2^256) (by decide) rfl) (F (x:=s) (M 8 (aj rfl)) (bound:=2^256) (by decide) rfl) (λ h t=>?_) λ y' r' s' e1 e2 e3=>?_
  ·rw[nR _ _ _ _ h];exact Bo
  ·rw[e1,e2,e3];show Fin _ (.ok (hV' ((Bg y').bind _)) st) _;refine azi n _ st _ _ _ y' r' s' _ (λ h t=>?_) λ c p h=>?_
   ·rw[h];exact Bo
   ·rw[h];exact Rm n _ st _ _ _ 0 p r' s' (by decide) n' q l t v d y r s _ _ _ _ (some c) (some []) _ (F (x:=n') (M 0 (aj rfl)) (bound:=2^64) (by decide) rfl) (F (x:=q) (M 1 (aj rfl)) (bound:=2^256) (by decide) rfl) (F (x:=l) (M 2 (aj rfl)) (bound:=2^64) (by decide) rfl) (F (x:=v) (M 4 (aj rfl)) (bound:=2^256) (by decide) rfl) (λ n st=>Ml n t (M 3 (aj rfl)).b 20 (Or.inl rfl) st) rfl
 ·cases ahx hl with|mk c n' q l t v d a y r s=>
  rw[adu];refine Wt n _ st _ _ _ 1 2 y r s _ _ _ _ (λ ρ st h=>wg (jk (dj h) rfl rfl) rfl) rfl rfl rfl (F (x:=y) (M 8 (aj rfl)) (bound:=2) (by decide) rfl) (F (x:=r) (M 9 (aj rfl)) (bound:=2^256) (by decide) rfl) (F (x:=s) (M 10 (aj rfl)) (bound:=2^256) (by decide) rfl) (λ h t=>?_) λ y' r' s' e1 e2 e3=>?_
  ·rw[nR _ _ _ _ h];exact Bo
  ·rw[e1,e2,e3];exact an5 n _ st _ _ _ _ 1 rfl c a _ _ _ _ _ rfl rfl rfl (F (x:=c) (M 0 (aj rfl)) (bound:=2^256) (by decide) rfl) (λ n st=>J2 n a (M 7 (aj rfl)) st)
    (Rm n _ st _ _ _ 1 y' r' s' (by decide) n' q l t v d a y r _ _ _ _ _ _ _ (F (x:=n') (M 1 (aj rfl)) (bound:=2^64) (by decide) rfl) (F (x:=q) (M 2 (aj rfl)) (bound:=2^256) (by decide) rfl) (F (x:=l) (M 3 (aj rfl)) (bound:=2^64) (by decide) rfl) (F (x:=v) (M 5 (aj rfl)) (bound:=2^256) (by decide) rfl) (λ n st=>Ml n t (M 4 (aj rfl)).b 20 (Or.inl rfl) st) rfl)
 ·cases ajj hl with|mk c n' p' q l t v d a y r s=>
  rw[acs];refine Wt n _ st _ _ _ 2 2 y r s _ _ _ _ (λ ρ st h=>wg (jk (dj h) rfl rfl) rfl) rfl rfl rfl (F (x:=y) (M 9 (aj rfl)) (bound:=2) (by decide) rfl) (F (x:=r) (M 10 (aj rfl)) (bound:=2^256) (by decide) rfl) (F (x:=s) (M 11 (aj rfl)) (bound:=2^256) (by decide) rfl) (λ h t=>?_) λ y' r' s' e1 e2 e3=>?_
  ·rw[nR _ _ _ _ h];exact Bo
  ·rw[e1,e2,e3];exact an5 n _ st _ _ _ _ 2 rfl c a _ _ _ _ _ rfl rfl rfl (F (x:=c) (M 0 (aj rfl)) (bound:=2^256) (by decide) rfl) (λ n st=>J2 n a (M 8 (aj rfl)) st)
    (ab0 n _ st _ _ _ y' r' s' n' p' q l t v d a y r _ _ _ _ _ _ _ _ (F (x:=n') (M 1 (aj rfl)) (bound:=2^64) (by decide) rfl) (F (x:=p') (M 2 (aj rfl)) (bound:=2^256) (by decide) rfl) (F (x:=q) (M 3 (aj rfl)) (bound:=2^256) (by decide) rfl) (F (x:=l) (M 4 (aj rfl)) (bound:=2^64) (by decide) rfl) (F (x:=v) (M 6 (aj rfl)) (bound:=2^256) (by decide) rfl) (λ n st=>Ml n t (M 5 (aj rfl)).b 20 (Or.inl rfl) st) rfl)
theorem W0(n m:Nat)(o:List UInt8)(hm:m<=n+8)(ho:o.length<=5000)(hc:cnt o<m)(st:Store):CT (n+10) "_law_heard" [.val (.bytes o)] st=.ok (hV' (rd m o)) st:=by
 have ho':o.length<=1000000:=ak ho (by decide)
 have h01:=ac9 o 1 1 rfl ho' (by decide)
 obtain⟨k,hk⟩:∃k,kindOf o=k:=⟨_,rfl⟩;obtain⟨p,hp⟩:∃p,(if 0<k then 1 else 0)=p:=⟨_,rfl⟩
 have hi:=Yw m (n+8) o p st hm ho (fj (I6 o (n6 p)) hc);rw[Xu];refine(?_:Fin _ _ (dw _ _ _ _ _));rw[aaq];refine qb (v:=.int k) (st':=st) rfl ?_ ?_
 ·by_cases h0:k=0
  ·subst h0;exact wg (jk (vf (dj rfl) rfl (zj rfl) h01) rfl (ajd hk)) rfl
  ·obtain⟨a,b⟩:=aji hk h0 ho';exact yu (jk (vf (dj rfl) rfl (zj rfl) h01) rfl b) (jz (gw rfl) rfl a)
 have ea:∀ρ,lk "law_kind" ρ=some (.val (.int k))->iu (CT (n+9)) ρ (.ife (.cmp .gt (.nm "law_kind") (.int 0)) (.int 1) (.int 0)) st=.ok (.int p) st:=λ ρ h=>by
  by_cases h0 : 0<k
  ·rw[bf h0]at hp;subst hp;exact yu (jk (dj h) rfl (show xg .gt (.int k) (.int 0)=some true from au some (fu (jw.2 h0)))) rfl
  ·rw[bx h0]at hp;subst hp;exact wg (jk (dj h) rfl (show xg .gt (.int k) (.int 0)=some false from au some (ig λ q=>h0 (jw.1 q)))) rfl
 refine qb rfl (gj (b_1 (gw rfl) (b_1 (v7 rfl (ea _ rfl)) rfl)) hi) ?_;cases hD:D m o p with
 |none=>
  rw[V0 hk (by rw[hp];exact hD)]
  exact v9 (Aw (c:=true) (d:=true) (jk (dj rfl) rfl rfl) λ c=>nomatch c) (jr rfl (zc mz))
 |some xe=>
 obtain⟨x,e⟩:=xe;have hsm:=Fx.of ho hD;rw[Vn hk (by rw[hp];exact hD)]
 have cond:∀{ρ b},z6 x.v=some b->lk "octets" ρ=some (.val (.bytes o))->lk "law_told" ρ=some (.val (.tuple [x.v,.int e]))->ug (CT (n+9)) ρ (.orE (.cons (.cmp .iss (.nm "law_told") .non) (.cons (.cmp .ne (.idx (.nm "law_told") (.int 1)) (.len (.nm "octets"))) (.cons (.notE (.isl (.idx (.nm "law_told") (.int 0)))) .nil)))) st=.ok (((e:Int) != o.length)||!b) st:=λ il a b=>
  Aw (c:=false) (jk (dj b) rfl rfl) λ _=>Dn (jk (jz (gw b) rfl rfl) (ux (gw a) (lB o ho')) rfl) (s7 (Ci (jz (gw b) rfl rfl) il))
 cases x with
 |b q=>exact uz (cond (O8 q) rfl rfl) (λ _=>jr rfl (zc mz)) λ c=>nomatch (Bool.or_eq_false_iff.mp c).2
 |l rows=>
  obtain⟨m1,m2⟩:=hsm.sub;refine uz (cond (M4 rows) rfl rfl) (λ c=>?_) λ c=>?_
  ·rw[show rdX k (.l rows) e o.length=none from bx λ h=>by rw[h]at c;exact absurd rfl (bne_iff_ne.mp ((Bool.or_false _).symm.trans c))]
   exact jr rfl (zc mz)
  rw[show rdX k (.l rows) e o.length=Jw k rows from bf (ju (bne_eq_false_iff_eq.mp ((Bool.or_false _).symm.trans c)))];exact qb rfl (jz (gw rfl) rfl rfl) (Z2 n k (hk▸anw o) o _ rows m1 m2 _ st)
theorem rnF{x:It}(hx:Fx x){bound:Nat}(hb:bound<=256^34){B:Int}(hB:B=(bound:Int))(n:Nat)(st:Store):CT (n+6) "read_number" [.val x.v,.val (.int B)] st =
 match yp x bound with|some a=>.ok (.int a) st|none=>.exc .rlp st:=by
 subst hB;exact Rv n x hx.b bound hb st
theorem ag9(n:Nat)(st:Store):∀ss:List It,(∀s∈ss,Fx s)->cmp (CT (n+5)) (.call "read_fixed" (.cons (.nm "slot") (.cons (.int 32) .nil))) "slot" .none [] (ss.map It.v) st =
 match xu ss with|some l=>.ok (l.map λ (s:Nat)=>V.int (s:Int)) st|none=>.exc .rlp st
 |[],_=>rfl
 |s::r,h=>by
  have ih:=ag9 n st r λ x hx=>h x (bk _ hx);rw[je,Y0,show xu (s::r)=(Ey s 32).bind λ a=>(xu r).bind λ l=>some (a::l) from rfl,gj (b_1 (gw rfl) (b_1 (v7 rfl rfl) rfl)) (Gh n s (h s f9).b 32 (by decide) st)]
  cases hf:Ey s 32 with
  |none=>rfl
  |some a=>
   rw[mq,ac7,ih];cases hl:xu r<;>rfl
noncomputable def as5:u9:=(.cons (.ifs (.orE (.cons (.notE (.isl (.nm "row"))) (.cons (.cmp .ne (.len (.nm "row")) (.int 2)) (.cons (.notE (.isl (.idx (.nm "row") (.int 1)))) .nil)))) (.cons (.rai .rlp)
 .nil) .nil)
 (.cons (.app "found" none (.tup (.cons (.call "read_fixed" (.cons (.idx (.nm "row") (.int 0)) (.cons (.int 20) .nil))) (.cons (.comp (.call "read_fixed" (.cons (.nm "slot") (.cons (.int 32) .nil))) "slot" (.idx (.nm "row") (.int 1)) .none []) .nil))))
 .nil))
theorem ak5(n:Nat)(st:Store)(x:It)(hx:Fx x)(acc:List (Nat×List Nat))(hacc:acc.length<=100000)(ρ:Loc)(hr:lk "row" ρ=some (.val x.v))(h:lk "found" ρ=some (.cell st.length)){W:R Fl->Prop}
 (h0:Eu x=none->W (.exc .rlp (st++[⟨true,.list (acc.map accN)⟩]))) (h1:∀a,Eu x=some a->W (.ok (.next ρ) (st++[⟨true,.list ((acc++[a]).map accN)⟩]))):
 W (dw (CT (n+5)) true as5 ρ (st++[⟨true,.list (acc.map accN)⟩])):=by
 cases x with
 |b q=>exact v9 (Aw (c:=true) (d:=true) (s7 (Ci (dj hr) (O8 q))) λ c=>nomatch c) (za (z8 (h0 rfl)))
 |l ys=>
  obtain⟨hy1,hy2⟩:=hx.sub;have il:=M4 ys;have ln:=ai3 hy1
  by_cases h2:ys.length=2
  case neg=>
   exact v9 (Aw (c:=false) (d:=true) (s7 (Ci (dj hr) il)) λ _=>Aw (c:=true) (d:=true) (jk (ux (gw hr) (ln _)) rfl (aae (b:=2) h2)) λ c=>nomatch c) (za (z8 (h0 (Xg h2))))
  obtain⟨a,c,rfl⟩:=len2 h2;have ha:=hy2 a f9;have hc:=hy2 c (bk _ f9);have g1:zp (It.l [a,c]).v (.int 1)=some c.v:=by rw[Nj];rfl
  have g0:zp (It.l [a,c]).v (.int 0)=some a.v:=by rw[Nj];rfl
  have cond:∀{b},z6 c.v=some b->ug (CT (n+5)) ρ (.orE (.cons (.notE (.isl (.nm "row"))) (.cons (.cmp .ne (.len (.nm "row")) (.int 2)) (.cons (.notE (.isl (.idx (.nm "row") (.int 1)))) .nil)))) (st++[⟨true,.list (acc.map accN)⟩])=.ok (!b) (st++[⟨true,.list (acc.map accN)⟩]):=λ hb=>
   Aw (c:=false) (s7 (Ci (dj hr) il)) λ _=>Aw (c:=false) (jk (ux (gw hr) (ln _)) rfl rfl) λ _=>Zj (s7 (Ci (jz (gw hr) rfl g1) hb))
  cases c with
  |b q=>exact v9 (cond (b:=false) (by rw[Ox];rfl)) (za (z8 (h0 rfl)))
  |l ss=>
   refine su (cond (b:=true) (by rw[Nj];rfl)) ?_
   obtain⟨hs1,hs2⟩:=hc.sub;have hrow:Eu (.l [a,.l ss])=(Ey a 20).bind λ a=>(xu ss).bind λ l=>some (a,l):=rfl;have e20:iu (CT (n+5)) ρ (.call "read_fixed" (.cons (.idx (.nm "row") (.int 0)) (.cons (.int 20) .nil))) (st++[⟨true,.list (acc.map accN)⟩])=_:=gj (b_1 (v7 rfl (jz (gw hr) rfl g0)) (b_1 (v7 rfl rfl) rfl)) (Gh n a ha.b 20 (by decide) _)
   have f32:=ag9 n (st++[⟨true,.list (acc.map accN)⟩]) ss hs2;have hi:=ait hs1;cases e:Ey a 20 with
   |none=>
    rw[e]at e20;exact ag5 h (tu _ _ _) (H7 (Te e20)) (h0 (by rw[hrow,e];rfl))
   |some b=>
    rw[e]at e20;cases e2:xu ss with
    |none=>
     rw[e2]at f32;exact ag5 h (tu _ _ _) (H7 (afq e20 (Te (ahi (jz (gw hr) rfl g1) hi f32)))) (h0 (by rw[hrow,e,e2];rfl))
    |some l=>
     rw[e2]at f32;have hll:l.length=ss.length:=by have:=au List.length (Ny e2);rw[bw,bw]at this;exact this.symm
     have:=h1 (b,l) (by rw[hrow,e,e2];rfl)
     rw[nu,je,M6]at this;exact K6 h (tu _ _ _) (q8 (s_1 e20 (s_1 (Dp (jz (gw hr) rfl g1) hi f32 (by rw[bw,hll];exact ak hs1 (by decide))) rfl)) (aj rfl)) (Ow (by rw[bw];exact ak hacc (by decide))) (yd this)
theorem amr(n:Nat)(st:Store):∀(xs:List It)(acc:List (Nat×List Nat))(ρ:Loc),(∀x∈xs,Fx x)->acc.length+xs.length<=100000->lk "found" ρ=some (.cell st.length)->
 (∃g,N6 (CT (n+5)) true (.nm "row") as5 (xs.map It.v) ρ (st++[⟨true,.list (acc.map accN)⟩])=.exc .rlp (st++[⟨true,.list g⟩])/\Dj xs=none)\/
 (∃(ρ':Loc) (l:List (Nat×List Nat)),N6 (CT (n+5)) true (.nm "row") as5 (xs.map It.v) ρ (st++[⟨true,.list (acc.map accN)⟩])=.ok (.next ρ') (st++[⟨true,.list ((acc++l).map accN)⟩])/\
  lk "found" ρ'=some (.cell st.length)/\Dj xs=some l):=by
 intro xs
 induction xs with
 |nil=>intro acc ρ _ _ h;exact .inr ⟨ρ,[],by rw[jo];rfl,h,rfl⟩
 |cons x xs ih=>
  intro acc ρ hx hacc h;have hx1:=hx x f9;have hx2:=λ y hy=>hx y (bk _ hy);rw[pq]at hacc;have hac:acc.length<=100000:=ak (dz _ _) hacc;have h':lk "found" (put "row" (.val x.v) ρ)=some (.cell st.length):=m6 (by decide) h
  have step:=λ {q} h0 h1=>Dh (q:=q) (tg:=.nm "row") (l:=xs.map It.v) (Wg (CT (n+5)) ρ (st++[⟨true,.list (acc.map accN)⟩]) "row" x.v) (ak5 n st x hx1 acc hac _ Ce h' h0 h1);rw[je,show Dj (x::xs)=(Eu x).bind λ a=>(Dj xs).bind λ l=>some (a::l) from rfl];cases hr:Eu x with
  |none=>exact .inl ⟨_,step (λ _=>am2) (λ a e=>by rw[hr]at e;cases e),rfl⟩
  |some a=>
   rcases ih (acc++[a]) (put "row" (.val x.v) ρ) hx2 (ah2 hacc) h' with⟨g,k1,k2⟩|⟨ρ',l',k1,k2,k3⟩
   ·exact .inl ⟨g,step (λ e=>by rw[hr]at e;cases e) (λ b e=>by rw[hr]at e;cases e;exact Nu k1),by rw[k2];rfl⟩
   ·refine .inr ⟨ρ',a::l',step (λ e=>by rw[hr]at e;cases e) (λ b e=>by rw[hr]at e;cases e;refine Nu (k1.trans ?_);rw[jc];rfl),k2,by rw[k3];rfl⟩
theorem R6(n:Nat)(x:It)(hx:Fx x)(st:Store):CT (n+6) "read_access" [.val x.v] st =
 match Fq x with|some l=>.ok (.list (l.map accN)) st|none=>.exc .rlp st:=by
 rw[Tp,show decide (4<=n+5)=true from fu (ak (by decide) (iy 5 n))]
 refine(?_:Fin _ _ (dw _ _ _ _ _));cases x with
 |b q=>exact v9 (s7 (c:=false) (Ci (dj rfl) (O8 q))) (za (z8 uy))
 |l xs=>
  obtain⟨h1,h2⟩:=hx.sub;have hi:=ait h1;refine su (s7 (c:=true) (Ci (dj rfl) (M4 xs))) (Di rfl rfl rfl ?_);rw[Fq];rcases amr n st xs [] [("item",.val (It.l xs).v),("found",.cell st.length)] h2 (by rw[List.length_nil,lg];exact ak h1 (by decide)) rfl with⟨g,h4,h5⟩|⟨ρ',l,h4,h5,h6⟩
  ·rw[h5];exact Dg (dj rfl) hi h4 (z8 Od)
  ·rw[h6];exact Dg (dj rfl) hi h4 (Bu (jr (Nk h5 (aa4 _ _ _ _)) Bo))
noncomputable def tV(o:Option Tx)(st:Store):R V:=match o with
 |some t=>.ok (.obj (objOf t.raw)) st
 |none=>.exc .rlp st
theorem eq_nil{t:It}(h:t≠.b []):ahs t.v (.bytes [])=some false:=by
 cases t with
 |b tl=>rw[Ox,au5];exact au some (ig λ e=>h (by rw[e]))
 |l xs=>rw[Nj];rfl
theorem J4(n:Nat)(kind c' p0 r s:Nat)(acc:List (Nat×List Nat))(rows:V)(prs:List V)(n' pf q l t v d:It)(hn:Fx n')(hl:Fx l)(ht:Fx t)(hv:Fx v)
 (g0:zp rows (.int 0)=some n'.v) (g4:zp rows (.int (-4))=some l.v) (gs:wk rows (some (.int 1)) (some (.int (-4)))=some (.list prs)) (g3:zp rows (.int (-3))=some t.v) (g1:zp rows (.int (-1))=some d.v) (g2:zp rows (.int (-2))=some v.v) (hpl:itemsOf (.list prs)=some prs)
 (st:Store) (hc:(∃xp xq L,yp pf (2^256)=some xp/\yp q (2^256)=some xq/\cmp (CT (n+9)) (.call "read_number" (.cons (.nm "row") (.cons (.gl "WORD") .nil))) "row" .none [] prs st=.ok L st/\L.length<=lim/\zp (.list L) (.int 0)=some (.int (xp:Nat))/\zp (.list L) (.int (-1))=some (.int (xq:Nat)))\/
  (cmp (CT (n+9)) (.call "read_number" (.cons (.nm "row") (.cons (.gl "WORD") .nil))) "row" .none [] prs st=.exc .rlp st/\(yp pf (2^256)=none\/yp q (2^256)=none))):
 CT (n+10) "read_rest" [.val (.int kind),.val (.int c'),.val rows,.val (.list (acc.map accN)),.val (.tuple [.int p0,.int r,.int s])] st=tV (wz kind c' p0 r s acc n' pf q l t v d) st:=by
 rw[X4,show decide (4<=n+9)=true from fu (ak (by decide) (iy 9 n))]
 refine(?_:Fin _ _ (dw _ _ _ _ _));have no:wz kind c' p0 r s acc n' pf q l t v d=none->Fin st.length (tV (wz kind c' p0 r s acc n' pf q l t v d) st) (.exc .rlp st):=λ h=>by rw[h];exact uy
 have row:∀{ρ g y x},lk "rows" ρ=some (.val rows)->iu (CT (n+9)) ρ g st=.ok y st->zp rows y=some x->iu (CT (n+9)) ρ (.idx (.nm "rows") g) st=.ok x st:=λ a b c=>jz (gw a) b c;have num:∀{ρ e g B}{x:It}(bound:Nat),Fx x->bound<=256^34->B=(bound:Int)->iu (CT (n+9)) ρ (.idx e g) st=.ok x.v st->∀G,J3 G=some (.int B)->iu (CT (n+9)) ρ (.call "read_number" (.cons (.idx e g) (.cons (.gl G) .nil))) st=match yp x bound with|some a=>.ok (.int a) st|none=>.exc .rlp st:=
  λ bound hx hb hB h G hG=>gj (b_1 (v7 rfl h) (b_1 (v7 rfl (Cp hG)) rfl)) (rnF hx hb hB _ _)
 have e0:=num (ρ:=[("kind",.val (.int kind)),("chain",.val (.int c')),("rows",.val rows),("access",.val (.list (acc.map accN))),("told",.val (.tuple [.int p0,.int r,.int s]))]) (g:=.int 0) (2^64) hn (by decide) rfl (row rfl rfl g0) "LONG" Qi
 have e4:=num (ρ:=[("kind",.val (.int kind)),("chain",.val (.int c')),("rows",.val rows),("access",.val (.list (acc.map accN))),("told",.val (.tuple [.int p0,.int r,.int s]))]) (g:=.neg (.int 4)) (2^64) hl (by decide) rfl (row rfl rfl g4) "LONG" Qi
 cases hN:yp n' (2^64)with
 |none=>rw[hN]at e0;exact Gi (H7 (Te e0)) (no (by unfold wz;rw[hN];rfl))
 |some xn=>
 rw[hN]at e0;cases hL:yp l (2^64)with
 |none=>rw[hL]at e4;exact Gi (H7 (afq e0 (Te e4))) (no (by unfold wz;rw[hN,hL];cases yp pf (2^256)<;>cases yp q (2^256)<;>rfl))
 |some xl=>
 rw[hL]at e4;refine z7 (q8 (s_1 e0 (s_1 e4 rfl)) (aj rfl)) rfl ?_;rcases hc with⟨xp,xq,L,h1,h2,h3,h4,h5,h6⟩|⟨h3,h4⟩
 case inr=>
  refine K1 rfl (ahi (vf (dj rfl) (zj rfl) (zj rfl) gs) hpl h3) (no ?_);unfold wz;rw[hN];rcases h4 with h4|h4<;>rw[h4]
  ·rfl
  ·cases yp pf (2^256)<;>rfl
 refine qb rfl (Dp (vf (dj rfl) (zj rfl) (zj rfl) gs) hpl h3 h4) ?_;have hR:wz kind c' p0 r s acc n' pf q l t v d=(Pz t).bind λ t=>(yp v (2^256)).bind λ v=>(J0 d).bind λ d=>some ⟨kind,c',xn,xp,xq,xl,t,v,d,acc,p0,r,s⟩:=by
  unfold wz;rw[hN,hL,h1,h2];rfl
 rw[hR]at no ⊢;have go:∀(o:Option Nat),(Pz t=some o)->Fin st.length (tV ((Pz t).bind λ t=>(yp v (2^256)).bind λ v=>(J0 d).bind λ d=>some ⟨kind,c',xn,xp,xq,xl,t,v,d,acc,p0,r,s⟩) st)
  (dw (CT (n+9)) true (.cons (.ifs (.isl (.idx (.nm "rows") (.neg (.int 1)))) (.cons (.rai .rlp) .nil) .nil)
   (.cons (.asg (.nm "value") (.call "read_number" (.cons (.idx (.nm "rows") (.neg (.int 2))) (.cons (.gl "WORD") .nil))))
   (.cons (.ret (.new (.cons (.nm "kind") (.cons (.nm "chain") (.cons (.nm "nonce") (.cons (.idx (.nm "prices") (.int 0)) (.cons (.idx (.nm "prices") (.neg (.int 1))) (.cons (.nm "limit") (.cons (.nm "target") (.cons (.nm "value") (.cons (.idx (.nm "rows") (.neg (.int 1))) (.cons (.nm "access") (.cons (.nm "told") .nil)))))))))))))
   .nil)))
  [("kind",.val (.int kind)),("chain",.val (.int c')),("rows",.val rows),("access",.val (.list (acc.map accN))),("told",.val (.tuple [.int p0,.int r,.int s])),("nonce",.val (.int xn)),("limit",.val (.int xl)),("prices",.val (.list L)),("target",.val (oV o))] st):=λ o ho=>by
  rw[ho]at no ⊢;cases d with
  |l dl=>exact uz (c:=true) (Ci (row rfl rfl g1) (M4 dl)) (λ _=>za (z8 (no (by cases yp v (2^256)<;>rfl)))) (λ c=>nomatch c)
  |b dl=>
   refine uz (c:=false) (Ci (row rfl rfl g1) (O8 dl)) (λ c=>nomatch c) λ _=> ?_;have e2:=num (ρ:=[("kind",.val (.int kind)),("chain",.val (.int c')),("rows",.val rows),("access",.val (.list (acc.map accN))),("told",.val (.tuple [.int p0,.int r,.int s])),("nonce",.val (.int xn)),("limit",.val (.int xl)),("prices",.val (.list L)),("target",.val (oV o))])
    (g:=.neg (.int 2)) (2^256) hv (by decide) rfl (row rfl rfl g2) "WORD" Az
   cases hV:yp v (2^256)with
   |none=>rw[hV]at e2;exact K1 rfl e2 (show Fin _ (tV none st) _ from uy)
   |some xv=>
   rw[hV]at e2;exact qb rfl e2 (jr (anp (b_1 (gw rfl) (b_1 (gw rfl) (b_1 (gw rfl) (b_1 (v7 rfl (jz (gw rfl) rfl h5)) (b_1 (v7 rfl (jz (gw rfl) rfl h6)) (b_1 (gw rfl) (b_1 (gw rfl) (b_1 (gw rfl) (b_1 (v7 rfl (row rfl rfl (g1.trans (au some (Ox dl))))) (b_1 (gw rfl) (b_1 (gw rfl) rfl)))))))))))
    ((awu _ _ _ _ _ _ _ _ _ _ _ _ st).trans (au (λ l=>R.ok (V.obj l) st) (aj8 ⟨kind,c',xn,xp,xq,xl,o,xv,dl,acc,p0,r,s⟩).symm))) mz)
 by_cases hb:t=.b []
 ·subst hb;refine qb rfl (yu (jk (row rfl rfl g3) rfl (by rw[Ox];rfl)) rfl) (go none rfl)
 ·have hT:=Qm hb;have e3:∀ρ,lk "rows" ρ=some (.val rows)->iu (CT (n+9)) ρ (.call "read_fixed" (.cons (.idx (.nm "rows") (.neg (.int 3))) (.cons (.int 20) .nil))) st=match Ey t 20 with|some a=>.ok (.int a) st|none=>.exc .rlp st:=
   λ ρ h=>gj (b_1 (v7 rfl (row h rfl g3)) (b_1 (v7 rfl rfl) rfl)) (Gh (n+4) t ht.b 20 (by decide) st)
  cases hF:Ey t 20 with
  |none=>
   rw[hF]at hT e3;exact K1 rfl (wg (jk (row rfl rfl g3) rfl (eq_nil hb)) (e3 _ rfl)) (no (by rw[hT];rfl))
  |some a=>
   rw[hF]at hT e3;exact qb rfl (wg (jk (row rfl rfl g3) rfl (eq_nil hb)) (e3 _ rfl)) (go (some a) hT)
theorem Ws(n:Nat)(st:Store)(r:List V)(x:It)(hx:Fx x):cmp (CT (n+9)) (.call "read_number" (.cons (.nm "row") (.cons (.gl "WORD") .nil))) "row" .none [] (x.v::r) st =
 match yp x (2^256)with
 |some a=>kb (ae7 (.int (a:Int))) (cmp (CT (n+9)) (.call "read_number" (.cons (.nm "row") (.cons (.gl "WORD") .nil))) "row" .none [] r st)
 |none=>.exc .rlp st:=by
 rw[Y0,gj (b_1 (gw rfl) (b_1 (v7 rfl (Cp Az)) rfl)) (rnF hx (bound:=2^256) (by decide) rfl _ st)]
 cases yp x (2^256)<;>rfl
theorem Rt(n:Nat)(kind c' p0 r s:Nat)(acc:List (Nat×List Nat))(n' q l t v d:It)(hsm:∀x∈[n',q,l,t,v,d],Fx x)(st:Store):
 CT (n+10) "read_rest" [.val (.int kind),.val (.int c'),.val (.list [n'.v,q.v,l.v,t.v,v.v,d.v]),.val (.list (acc.map accN)),.val (.tuple [.int p0,.int r,.int s])] st=tV (wz kind c' p0 r s acc n' q q l t v d) st:=by
 have M:=λ i h=>hsm _ (List.getElem_mem (n:=i) h);refine J4 n kind c' p0 r s acc _ [q.v] n' q q l t v d (M 0 (aj rfl)) (M 2 (aj rfl)) (M 3 (aj rfl)) (M 4 (aj rfl)) rfl rfl rfl rfl rfl rfl rfl st ?_;rw[Ws n st _ q (M 1 (aj rfl))];cases h:yp q (2^256)with
 |none=>exact .inr ⟨rfl,.inl rfl⟩
 |some a=>exact .inl ⟨a,a,_,rfl,rfl,rfl,aj rfl,rfl,rfl⟩
theorem abg(n:Nat)(kind c' p0 r s:Nat)(acc:List (Nat×List Nat))(n' p q l t v d:It)(hsm:∀x∈[n',p,q,l,t,v,d],Fx x)(st:Store):
 CT (n+10) "read_rest" [.val (.int kind),.val (.int c'),.val (.list [n'.v,p.v,q.v,l.v,t.v,v.v,d.v]),.val (.list (acc.map accN)),.val (.tuple [.int p0,.int r,.int s])] st=tV (wz kind c' p0 r s acc n' p q l t v d) st:=by
 have M:=λ i h=>hsm _ (List.getElem_mem (n:=i) h);refine J4 n kind c' p0 r s acc _ [p.v,q.v] n' p q l t v d (M 0 (aj rfl)) (M 3 (aj rfl)) (M 4 (aj rfl)) (M 5 (aj rfl)) rfl rfl rfl rfl rfl rfl rfl st ?_;rw[Ws n st _ p (M 1 (aj rfl))];cases h:yp p (2^256)with
 |none=>exact .inr ⟨rfl,.inl rfl⟩
 |some a=>
  rw[Ws n st _ q (M 2 (aj rfl))];cases h2:yp q (2^256)with
  |none=>exact .inr ⟨rfl,.inr rfl⟩
  |some b=>exact .inl ⟨a,b,_,rfl,rfl,rfl,aj rfl,rfl,rfl⟩
noncomputable def sV(o:Option Nat)(p q:Option Nat)(st:Store):R V:=match o,p,q with
 |some a,some b,some c=>.ok (.tuple [.int a,.int b,.int c]) st
 | _,_,_=>.exc .rlp st
theorem O4(n:Nat)(y r s:It)(hy:Fx y)(hr:Fx r)(hs:Fx s){bound:Nat}(hb:bound<=256^34){B:Int}(hB:B=(bound:Int))(st:Store):
 CT (n+7) "read_signature" [.val (.list [y.v,r.v,s.v]),.val (.int B)] st=sV (yp y bound) (yp r (2^256)) (yp s (2^256)) st:=by
 rw[Oe];refine(?_:Fin _ _ (dw _ _ Ah.body _ _));have ay:=gj (cf:=CT (n+6)) (ρ:=[("rows",.val (.list [y.v,r.v,s.v])),("bound",.val (.int B))]) (es:=.cons (.idx (.nm "rows") (.int 0)) (.cons (.nm "bound") .nil)) (b_1 (v7 rfl (jz (gw rfl) rfl rfl)) (b_1 (gw rfl) rfl)) (rnF hy hb hB n st);have num:∀{x:It}{i:Int},Fx x->zp (.list [y.v,r.v,s.v]) (.int i)=some x.v->iu (CT (n+6)) [("rows",.val (.list [y.v,r.v,s.v])),("bound",.val (.int B))] (.call "read_number" (.cons (.idx (.nm "rows") (.int i)) (.cons (.gl "WORD") .nil))) st = _:=λ {x i} hx g=>
  gj (b_1 (v7 rfl (jz (gw rfl) rfl g)) (b_1 (v7 rfl (Cp Az)) rfl)) (rnF hx (bound:=2^256) (by decide) rfl n st)
 have ar:=num hr (i:=1) rfl;have as:=num hs (i:=2) rfl
 generalize yp y bound=oy at *
 generalize yp r (2^256)=or at *
 generalize yp s (2^256)=os at *
 cases oy with
 |none=>exact Bv (H7 (Te ay)) uy
 |some y'=>cases or with
  |none=>exact Bv (H7 (afq ay (Te ar))) uy
  |some r'=>cases os with
   |none=>exact Bv (H7 (afq ay (afq ar (Te as)))) uy
   |some s'=>exact jr (q8 (s_1 ay (s_1 ar (s_1 as rfl))) (aj rfl)) mz
noncomputable def Ans(r:R V)(o:Option Tx)(st:Store):Prop:=match o with
 |some t=>r=.ok (.obj (objOf t.raw)) st
 |none=>∃c,r=.exc c st
noncomputable def FA(n:Nat)(o:Option Tx)(st:Store)(r:R Fl):Prop:=Ans (back n (kb Ay r)) o st
theorem Ao{st:Store}{x:Exc}:FA st.length none st (.exc x st):=⟨x,uy⟩
theorem apa{st:Store}{o:Option Tx}{cf:CF}{can:Bool}{ρ:Loc}{e:Ex}{ss:u9}(h:iu cf ρ e st=tV o st):FA st.length o st (dw cf can (.cons (.ret e) ss) ρ st):=by
 cases o with
 |none=>exact Bv h Ao
 |some t=>exact jr h (show Ans _ (some t) st from mz)
theorem at4{st:Store}{o:Option Tx}{cf:CF}{can:Bool}{ρ:Loc}{e:Ex}{ss ss':u9}(h:iu cf ρ e st=tV o st):Sq (FA st.length o st) cf can ss' (dw cf can (.cons (.ret e) ss) ρ st):=by
 cases o with
 |none=>exact Bv h (z8 Ao)
 |some t=>exact jr h (zc (show Ans _ (some t) st from mz))
theorem aur{a b c:Option Nat}(h:(a.isNone||b.isNone||c.isNone)=true)(st:Store):sV a b c st=.exc .rlp st:=by
 cases a with
 |none=>rfl
 |some _=>cases b with
  |none=>rfl
  |some _=>cases c with
   |none=>rfl
   |some _=>cases h
theorem Zi(n:Nat)(x:It)(hx:Fx x)(st:Store):Ans (CT (n+20) "read_old" [.val x.v] st) (match x with|.l rows=>Jw 0 rows | _=>none) st:=by
 rw[abt,show decide (4<=n+19)=true from fu (ak (by decide) (iy 19 n))]
 refine(?_:FA _ _ _ (dw _ _ _ _ _));cases x with
 |b q=>exact v9 (Aw (c:=true) (d:=true) (s7 (Ci (dj rfl) (O8 q))) λ c=>nomatch c) (za (z8 Ao))
 |l rows=>
  obtain⟨h1,h2⟩:=hx.sub;refine uz (Aw (c:=false) (s7 (Ci (dj rfl) (M4 rows))) λ _=>Zj (jk (ux (gw rfl) (ai3 h1 st)) rfl rfl)) (λ c=>?_) λ c=>?_
  ·show Sq (FA _ (Jw 0 rows) _) _ _ _ _;rw[show Jw 0 rows=none from bx λ e=>by rw[e]at c;exact nomatch c]
   exact za (z8 Ao)
  have h9:rows.length=9:=ju (bne_eq_false_iff_eq.mp c)
  clear c h1
  cases ag8 h9 with|mk n' q l t v d y r s=>
  have M:=λ i h=>h2 _ (List.getElem_mem (n:=i) h);have hs:=λ st=>O4 (n+12) y r s (M 6 (aj rfl)) (M 7 (aj rfl)) (M 8 (aj rfl)) (bound:=35+2^257) (by decide) (B:=35+2*P2 256) rfl st
  have hrest:∀c' p0 r s,CT (n+19) "read_rest" [.val (.int 0),.val (.int (c':Nat)),.val (.list [n'.v,q.v,l.v,t.v,v.v,d.v]),.val (.list []),.val (.tuple [.int (p0:Nat),.int (r:Nat),.int (s:Nat)])] st=tV (wz 0 c' p0 r s [] n' q q l t v d) st:=
   λ c' p0 r s=>Rt (n+9) 0 c' p0 r s [] n' q l t v d (λ x hx=>h2 x (List.mem_of_mem_take (i:=6) hx)) st
  rw[Nj];show FA _ (Jw 0 _) _ (dw _ _ _ [("item",.val (.list [n'.v,q.v,l.v,t.v,v.v,d.v,y.v,r.v,s.v]))] _);rw[ac0];have ec:iu (CT (n+19)) [("item",.val (.list [n'.v,q.v,l.v,t.v,v.v,d.v,y.v,r.v,s.v]))] (.call "read_signature" (.cons (.slc (.nm "item") (.some (.int 6)) .none) (.cons (.bin .add (.int 35) (.bin .mul (.int 2) (.gl "WORD"))) .nil))) st=sV (yp y (35+2^257)) (yp r (2^256)) (yp s (2^256)) st:=gj (b_1 (v7 rfl (vf (dj rfl) (zj rfl) rfl (show wk _ _ _ = some (.list [y.v,r.v,s.v]) from rfl))) (b_1 (v7 rfl (gk rfl (gk rfl (Cp Az) rfl) rfl)) rfl)) (hs st);cases h3:((yp y (35+2^257)).isNone||(yp r (2^256)).isNone||(yp s (2^256)).isNone)with
  |true=>
   rw[aur h3]at ec;rw[nR _ _ _ _ h3];exact Gi ec Ao
  |false=>
  obtain⟨y',r',s',e1,e2,e3⟩:=nS h3;rw[e1,e2,e3]at ec;rw[e1,e2,e3];refine z7 ec rfl ?_;show FA _ ((Bg y').bind _) _ _;refine uz (jk (dj rfl) rfl (ajn _ _ _)) (λ c=>?_) λ c=>?_
  ·have h28:y'=27\/y'=28:=by
    rcases Bool.or_eq_true_iff.mp c with c|c
    ·exact .inl (ju (dh c)).symm
    ·exact .inr (ju (dh ((Bool.or_false _).symm.trans c))).symm
   rw[show Bg y'=some (0,y'-27) from bf h28];exact at4 (gj (b_1 (v7 rfl rfl) (b_1 (v7 rfl rfl) (b_1 (v7 rfl (vf (dj rfl) rfl (zj rfl) rfl)) (b_1 (v7 rfl rfl) (b_1 (v7 rfl (q8 (s_1 (gk (dj rfl) rfl (au (λ i=>some (V.int i)) (Int.ofNat_sub (by rcases h28 with rfl|rfl<;>decide)).symm)) (s_1 (dj rfl) (s_1 (dj rfl) rfl))) (aj rfl))) rfl))))) (hrest 0 (y'-27) r' s'))
  ·have h28:¬(y'=27\/y'=28):=λ h=>by rcases h with rfl|rfl<;>cases c
   refine uz (jk (dj rfl) rfl rfl) (λ c=>?_) λ c=>?_
   ·have h37:y'<37:=of_lt (b:=37) c;rw[show Bg y'=none from(bx h28).trans (bf h37)];exact za (z8 Ao)
   ·have h37:=jx.2 (Br (b:=37) c);have e35:(y':Int)-35=((y'-35:Nat):Int):=(Int.ofNat_sub (ak (by decide) (Br (b:=37) c))).symm
    rw[show Bg y'=some ((y'-35)/2,(y'-35)%2) from(bx h28).trans (bx h37)];exact apa (gj (b_1 (v7 rfl rfl) (b_1 (v7 rfl (gk (gk (dj rfl) rfl (au (λ i=>some (V.int i)) e35)) rfl rfl)) (b_1 (v7 rfl (vf (dj rfl) rfl (zj rfl) rfl)) (b_1 (v7 rfl rfl) (b_1 (v7 rfl (q8 (s_1 (gk (gk (dj rfl) rfl (au (λ i=>some (V.int i)) e35)) rfl rfl) (s_1 (dj rfl) (s_1 (dj rfl) rfl))) (aj rfl))) rfl))))) (hrest ((y'-35)/2) ((y'-35)%2) r' s'))
theorem asp(m:Nat)(f:Nat->Option (It×Nat))(hf:∀s x s',f s=some (x,s')->Gw m x=true):∀(k s e:Nat)(acc xs:List It),DL f k s e acc=some xs->acc.all (Gw m)=true->xs.all (Gw m)=true:=by
 intro k
 induction k with
 |zero=>intro s e acc xs h;exact nomatch h
 |succ k ih=>
  intro s e acc xs h hacc;rcases aal h with⟨x,s',hfs,h⟩|⟨_,rfl⟩
  ·exact ih _ _ _ _ h (by rw[List.all_append,hacc,List.all_cons,hf _ _ _ hfs];rfl)
  ·exact hacc
theorem agx:∀(m:Nat)(o:List UInt8)(p:Nat)(x:It)(e:Nat),D m o p=some (x,e)->Gw m x=true
 |0,_,_,_,_,h=>nomatch h
 |m+1,o,p,x,e,h=>by
  obtain⟨s,⟨_,rfl⟩|⟨xs,_,rfl,hD⟩⟩:=aiy h
  ·exact Ot _ _
  ·rw[Lf];exact asp m (D m o) (λ s x s' h=>agx m o s x s' h) _ _ _ _ _ hD rfl
theorem anb{m:Nat}{o:List UInt8}{p:Nat}{x:It}{e:Nat}(h:D m o p=some (x,e)):∃r,o.drop p=enc x++r/\(enc x).length=e-p:=by
 have h1:=Wu _ _ _ _ _ h;have h2:=Ld h;refine⟨(o.drop p).drop (e-p),?_,?_⟩
 ·rw[h1,List.take_append_drop]
 ·rw[h1,Qf (ql h2.1) h2.2]
theorem ams(m:Nat)(o:List UInt8)(ho:o.length<=5000):D m (o.drop 1) 0=(D m o 1).map λ q=>(q.1,q.2-1):=by
 cases h:D m o 1 with
 |some q=>
  obtain⟨x,e⟩:=q;obtain⟨r,h1,h2⟩:=anb h;have h3:=Ld h;have hl:(enc x).length<=1000000:=h2▸ak (Nat.sub_le _ _) (ak h3.2 (ak ho (by decide)))
  rw[Vh m x (agx _ _ _ _ _ h) hl (o.drop 1) 0 r h1,h2,lg];rfl
 |none=>
  cases h4:D m (o.drop 1) 0 with
  |none=>rfl
  |some q=>
   obtain⟨x,e⟩:=q;obtain⟨r,h1,h2⟩:=anb h4;have h3:=Ld h4;rw[nq]at h3;exact nomatch h.symm.trans (Vh m x (agx _ _ _ _ _ h4) (h2▸ak (Nat.sub_le _ _) (ak h3.2 (ak (Nat.sub_le _ _) (ak ho (by decide))))) o 1 r h1)
theorem ayi(y:It):yp y 2=(yp y (2^256)).bind λ a=>if a<2 then some a else none:=by
 cases y with
 |l xs=>rfl
 |b l=>
  rw[yp,yp,aep,aep]
  by_cases h0:l.head? = some 0
  ·rw[bf h0,bf h0];rfl
  ·rw[bx h0,bx h0]
   by_cases h1:p7 l<2
   ·rw[bf h1,bf (cu h1 (by decide))];exact(bf h1).symm
   ·rw[bx h1]
    by_cases h2:p7 l<2^256
    ·rw[bf h2];exact(bx h1).symm
    ·rw[bx h2];rfl
noncomputable def rdO(x:It):Option Tx:=match x with
 |.l rows=>Jw 0 rows
 |.b _=>none
theorem adi{k:Nat}{rows:List It}{t:Tx}(h:Jw k rows=some t):Gw 61 (.l rows)=true:=by
 obtain⟨_,_,h3⟩:=ade h;rw[h3];exact Qj 56 t
theorem nR2{a b c:Option Nat}{g:Nat->Option Nat}{β : Type}(f:Nat->Nat->Nat->Option β)(h:(a.isNone||b.isNone||c.isNone)=true):((a.bind g).bind λ y=>b.bind λ r=>c.bind λ s=>f y r s)=none:=by
 cases a with
 |none=>rfl
 |some y=>
  show(g y).bind _ = none;cases g y with
  |none=>rfl
  |some y=>exact nR (some y) b c f h
noncomputable def as6:u9:=(.cons (.ifs (.orE (.cons (.notE (.isl (.nm "item"))) (.cons (.cmp .ne (.len (.nm "item")) (.bin .add (.int 10) (.nm "kind"))) .nil))) (.cons (.rai .rlp)
 .nil) .nil)
 (.cons (.asg (.nm "told") (.call "read_signature" (.cons (.slc (.nm "item") (.some (.neg (.int 3))) .none) (.cons (.gl "WORD") .nil))))
 (.cons (.ifs (.cmp .gt (.idx (.nm "told") (.int 0)) (.int 1)) (.cons (.rai .tx)
  .nil) .nil)
 (.cons (.ret (.call "read_rest" (.cons (.nm "kind") (.cons (.call "read_number" (.cons (.idx (.nm "item") (.int 0)) (.cons (.gl "WORD") .nil))) (.cons (.slc (.nm "item") (.some (.int 1)) (.some (.neg (.int 4)))) (.cons (.call "read_access" (.cons (.idx (.nm "item") (.neg (.int 4))) .nil)) (.cons (.nm "told") .nil)))))))
 .nil))))
theorem U9:Vz.body=(.cons (.ifs (.cmp .nin (.slc (.nm "octets") .none (.some (.int 1))) (.tup (.cons (.byt [1]) (.cons (.byt [2]) .nil)))) (.cons (.ret (.call "read_old" (.cons (.call "decoded" (.cons (.nm "octets") .nil)) .nil)))
 .nil) .nil)
 (.cons (.asg (.tup (.cons (.nm "kind") (.cons (.nm "item") .nil))) (.tup (.cons (.idx (.nm "octets") (.int 0)) (.cons (.call "decoded" (.cons (.slc (.nm "octets") (.some (.int 1)) .none) .nil)) .nil)))) as6)):=rfl
theorem Vb(n k:Nat) (O R mid:V)(y r s c a:It)(hy:Fx y)(hr:Fx r)(hs:Fx s)(hc:Fx c)(ha:Fx a)(st:Store)(hl:z6 R=some true)(hn:Nq (.val R) st=some (.int (10+k)))
 (g3:wk R (some (.int (-3))) none=some (.list [y.v,r.v,s.v])) (g0:zp R (.int 0)=some c.v) (gm:wk R (some (.int 1)) (some (.int (-4)))=some mid) (g4:zp R (.int (-4))=some a.v)
 (rest:Nat->Nat->Nat->Nat->List (Nat×List Nat)->Option Tx) (hrest:∀c' p0 r s acc,CT (n+99) "read_rest" [.val (.int k),.val (.int (c':Nat)),.val mid,.val (.list (acc.map accN)),.val (.tuple [.int (p0:Nat),.int (r:Nat),.int (s:Nat)])] st=tV (rest c' p0 r s acc) st):
 FA st.length ((yp y 2).bind λ y=>(yp r (2^256)).bind λ r=>(yp s (2^256)).bind λ s=>(yp c (2^256)).bind λ c=>(Fq a).bind λ a=>rest c y r s a) st
  (dw (CT (n+99)) true as6 [("octets",.val O),("kind",.val (.int k)),("item",.val R)] st):=by
 refine uz (c:=false) (Dn (c:=false) (d:=false) (s7 (Ci (dj rfl) hl)) (jk (ux (gw rfl) hn) (gk rfl (dj rfl) rfl) (au some (bne_self_eq_false _)))) (λ c=>nomatch c) λ _=> ?_;have ec:iu (CT (n+99)) [("octets",.val O),("kind",.val (.int k)),("item",.val R)] (.call "read_signature" (.cons (.slc (.nm "item") (.some (.neg (.int 3))) .none) (.cons (.gl "WORD") .nil))) st=sV (yp y (2^256)) (yp r (2^256)) (yp s (2^256)) st:=
  gj (b_1 (v7 rfl (vf (dj rfl) (zj rfl) rfl g3)) (b_1 (v7 rfl (Cp Az)) rfl)) (O4 (n+92) y r s hy hr hs (bound:=2^256) (by decide) (B:=P2 256) rfl st)
 rw[ayi];cases h3:((yp y (2^256)).isNone||(yp r (2^256)).isNone||(yp s (2^256)).isNone)with
 |true=>
  rw[aur h3]at ec;rw[nR2 _ h3];exact K1 rfl ec Ao
 |false=>
 obtain⟨y',r',s',e1,e2,e3⟩:=nS h3;rw[e1,e2,e3]at ec ⊢;refine qb rfl ec ?_;show FA _ ((if y'<2 then some y' else none).bind _) _ _
 refine uz (jk (jz (gw rfl) rfl rfl) rfl rfl) (λ c=>?_) λ c=>?_
 ·show Sq (FA _ ((if y'<2 then some y' else none).bind _) _) _ _ _ _
  rw[bx (jx.2 (of_lt (a:=1) c))];exact za (z8 Ao)
 rw[bf (Nat.lt_succ_of_le (Br (a:=1) c))];show FA _ ((yp _ _).bind _) _ _;have en:iu (CT (n+99)) [("octets",.val O),("kind",.val (.int k)),("item",.val R),("told",.val (.tuple [.int y',.int r',.int s']))] (.call "read_number" (.cons (.idx (.nm "item") (.int 0)) (.cons (.gl "WORD") .nil))) st = _:=
  gj (b_1 (v7 rfl (jz (gw rfl) rfl g0)) (b_1 (v7 rfl (Cp Az)) rfl)) (rnF hc (bound:=2^256) (by decide) rfl (n+93) st)
 cases hC:yp _ (2^256)with
 |none=>
  rw[hC]at en;exact Bv (K4 (akb (gw rfl) (agj rfl en))) Ao
 |some c'=>
 rw[hC]at en;have ea:iu (CT (n+99)) [("octets",.val O),("kind",.val (.int k)),("item",.val R),("told",.val (.tuple [.int y',.int r',.int s']))] (.call "read_access" (.cons (.idx (.nm "item") (.neg (.int 4))) .nil)) st = _:=
  gj (b_1 (v7 rfl (jz (gw rfl) rfl g4)) rfl) (R6 (n+93) a ha st)
 have em:iu (CT (n+99)) [("octets",.val O),("kind",.val (.int k)),("item",.val R),("told",.val (.tuple [.int y',.int r',.int s']))] (.slc (.nm "item") (.some (.int 1)) (.some (.neg (.int 4)))) st = _:=vf (dj rfl) (zj rfl) (zj rfl) gm;show FA _ ((Fq a).bind _) _ _;cases hA:Fq a with
 |none=>
  rw[hA]at ea;exact Bv (K4 (akb (gw rfl) (akb (v7 rfl en) (akb (v7 rfl em) (agj rfl ea))))) Ao
 |some acc=>
 rw[hA]at ea;exact apa (gj (b_1 (gw rfl) (b_1 (v7 rfl en) (b_1 (v7 rfl em) (b_1 (v7 rfl ea) (b_1 (gw rfl) rfl))))) (hrest c' y' r' s' acc))
theorem Va(n m k:Nat)(o:List UInt8)(ho:o.length<=5000)(hc:cnt o<m)(hk:kindOf o=k)(h12:k=1\/k=2)(st:Store):Ans (CT (n+100) "read" [.val (.bytes o)] st) (rd m o) st:=by
 have ho':o.length<=1000000:=ak ho (by decide)
 obtain⟨hg0,hkin⟩:=aji hk (by rcases h12 with rfl|rfl<;>decide) ho'
 have h01:=ac9 o 1 1 rfl ho' (by decide)
 have h10:=adx o 1 1 rfl ho' (by decide)
 have hd:=Ss (n+29) m (o.drop 1) st (by rw[nq];exact ak (Nat.sub_le _ _) ho) (fj (I6 o (n6 1)) hc)
 rw[ams m o ho]at hd;rw[agg,show decide (4<=n+99)=true from fu (ak (by decide) (iy 99 n))]
 refine(?_:FA _ _ _ (dw _ _ _ _ _));rw[U9];refine uz (c:=false) (jk (vf (dj rfl) rfl (zj rfl) h01) rfl (au (Option.map λ b=>!b) hkin)) (λ c=>nomatch c) λ _=> ?_;have eg:iu (CT (n+99)) [("octets",.val (.bytes o))] (.idx (.nm "octets") (.int 0)) st=.ok (.int k) st:=jz (gw rfl) rfl hg0;have ed:iu (CT (n+99)) [("octets",.val (.bytes o))] (.call "decoded" (.cons (.slc (.nm "octets") (.some (.int 1)) .none) .nil)) st = _:=gj (b_1 (v7 rfl (vf (dj rfl) (zj rfl) rfl h10)) rfl) hd;have h1k:(if 0<k then 1 else 0)=1:=bf (by rcases h12 with rfl|rfl<;>decide)
 have bad:∀{x:V}{o':Option Tx},o'=none->iu (CT (n+99)) [("octets",.val (.bytes o))] (.call "decoded" (.cons (.slc (.nm "octets") (.some (.int 1)) .none) .nil)) st=.exc .rlp st->
  FA st.length o' st (dw (CT (n+99)) true (.cons (.asg (.tup (.cons (.nm "kind") (.cons (.nm "item") .nil))) (.tup (.cons (.idx (.nm "octets") (.int 0)) (.cons (.call "decoded" (.cons (.slc (.nm "octets") (.some (.int 1)) .none) .nil)) .nil)))) as6) [("octets",.val (.bytes o))] st):=λ e h=>by
  rw[e];exact Gi (H7 (afq eg (Te h))) Ao
 cases hD:D m o 1 with
 |none=>
  rw[hD]at ed;exact bad (x:=.none) (V0 hk (by rw[h1k];exact hD)) ed
 |some xe=>
 obtain⟨x,e⟩:=xe;have hsm:=Fx.of ho hD;have hpos:=Ld hD;have hel:e-1=(o.drop 1).length↔e=o.length:=by
  rw[nq];exact⟨λ h=>Nat.sub_one_cancel (Nat.zero_lt_of_lt hpos.1) (cu (Nat.zero_lt_of_lt hpos.1) hpos.2) h,λ h=>au (· - 1) h⟩
 rw[hD]at ed;rw[Vn hk (by rw[h1k];exact hD)]
 by_cases hok:Gw 61 x=true/\e=o.length
 case neg=>
  refine bad (x:=.none) ?_ (ed.trans (bx (λ h=>hok ⟨h.1,hel.1 h.2⟩)));cases x with
  |b q=>rfl
  |l rows=>
   show(if e=o.length then Jw _ rows else none)=none
   by_cases he:e=o.length
   ·rw[bf he];cases h:Jw k rows with
    |none=>rfl
    |some t=>exact absurd ⟨adi h,he⟩ hok
   ·rw[bx he]
 refine z7 (q8 (s_1 eg (s_1 (ed.trans (bf ⟨hok.1,hel.2 hok.2⟩)) rfl)) (aj rfl)) rfl ?_;cases x with
 |b q=>exact v9 (Aw (c:=true) (d:=true) (s7 (Ci (dj rfl) (O8 q))) λ c=>nomatch c) (za (z8 Ao))
 |l rows=>
  obtain⟨m1,m2⟩:=hsm.sub;have hl:=M4 rows;have hn:=ai3 m1;rw[show rdX k (.l rows) e o.length=Jw k rows from bf hok.2]
  by_cases h:rows.length=10+k
  case neg=>
   rw[show Jw k rows=none from by
    rcases h12 with rfl|rfl
    ·exact bx h
    ·exact bx h]
   exact v9 (Dn (c:=false) (d:=true) (s7 (Ci (dj rfl) hl)) (jk (ux (gw rfl) (hn st)) (gk rfl (dj rfl) rfl) (aae h))) (za (z8 Ao))
  have hn':Nq (.val (It.l rows).v) st=some (.int (10+k)):=by rw[hn,h];rfl
  rw[Nj]at hl hn' ⊢;rcases h12 with rfl|rfl
  ·cases ahx h with|mk c n' q l t v d a y r s=>
   have M:=λ i h=>m2 _ (List.getElem_mem (n:=i) h);rw[adu];exact Vb n 1 _ _ _ y r s c a (M 8 (aj rfl)) (M 9 (aj rfl)) (M 10 (aj rfl)) (M 0 (aj rfl)) (M 7 (aj rfl)) st hl hn' rfl rfl rfl rfl (λ c y r s a=>wz 1 c y r s a n' q q l t v d)
    (λ c' p0 r s acc=>Rt (n+89) 1 c' p0 r s acc n' q l t v d (λ x hx=>m2 x (bk _ (List.mem_of_mem_take (i:=6) hx))) st)
  ·cases ajj h with|mk c n' p q l t v d a y r s=>
   have M:=λ i h=>m2 _ (List.getElem_mem (n:=i) h);rw[acs];exact Vb n 2 _ _ _ y r s c a (M 9 (aj rfl)) (M 10 (aj rfl)) (M 11 (aj rfl)) (M 0 (aj rfl)) (M 8 (aj rfl)) st hl hn' rfl rfl rfl rfl (λ c y r s a=>wz 2 c y r s a n' p q l t v d)
    (λ c' p0 r s acc=>abg (n+89) 2 c' p0 r s acc n' p q l t v d (λ x hx=>m2 x (bk _ (List.mem_of_mem_take (i:=7) hx))) st)
theorem alw(n m:Nat)(o:List UInt8)(ho:o.length<=5000)(hc:cnt o<m)(st:Store):Ans (CT (n+100) "read" [.val (.bytes o)] st) (rd m o) st:=by
 rcases anw o with hk|hk|hk
 case inr.inl=>exact Va n m 1 o ho hc hk (.inl rfl) st
 case inr.inr=>exact Va n m 2 o ho hc hk (.inr rfl) st
 have ho':o.length<=1000000:=ak ho (by decide)
 have h01:=ac9 o 1 1 rfl ho' (by decide)
 have hkin:=ajd hk;have hd:=Ss (n+29) m o st ho hc;rw[agg,show decide (4<=n+99)=true from fu (ak (by decide) (iy 99 n))]
 refine(?_:FA _ _ _ (dw _ _ _ _ _));rw[U9];refine uz (c:=true) (jk (vf (dj rfl) rfl (zj rfl) h01) rfl (au (Option.map λ b=>!b) hkin)) (λ _=> ?_) (λ c=>nomatch c);have ed:iu (CT (n+99)) [("octets",.val (.bytes o))] (.call "decoded" (.cons (.nm "octets") .nil)) st = _:=gj (b_1 (gw rfl) rfl) hd;cases hD:D m o 0 with
 |none=>
  rw[hD]at ed;rw[V0 hk hD];exact Bv (K4 (agj rfl ed)) (z8 Ao)
 |some xe=>
 obtain⟨x,e⟩:=xe;have hsm:=Fx.of ho hD;rw[hD]at ed;rw[Vn hk hD]
 by_cases hok:Gw 61 x=true/\e=o.length
 case neg=>
  have hR:rdX 0 x e o.length=none:=by
   cases x with
   |b q=>rfl
   |l rows=>
    show(if e=o.length then Jw _ rows else none)=none
    by_cases he:e=o.length
    ·rw[bf he];cases h:Jw 0 rows with
     |none=>rfl
     |some t=>exact absurd ⟨adi h,he⟩ hok
    ·rw[bx he]
  rw[hR];exact Bv (K4 (agj rfl (ed.trans (bx hok)))) (z8 Ao)
 have hro:Ans (CT (n+99) "read_old" [.val x.v] st) (rdO x) st:=by
  have:=Zi (n+79) x hsm st;cases x with
  |b q=>exact this
  |l rows=>exact this
 have hR:rdX 0 x e o.length=rdO x:=by
  cases x with
  |b q=>rfl
  |l rows=>exact bf hok.2
 rw[hR];have ec:=gj (f:="read_old") (b_1 (v7 (e:=.call "decoded" (.cons (.nm "octets") .nil)) rfl (ed.trans (bf hok))) (es:=.nil) rfl) (rfl:CT (n+99) "read_old" [.val x.v] st = _)
 generalize rdO x=oo at hro ⊢
 cases oo with
 |none=>
  obtain⟨c,hro⟩:=hro;exact Bv (ec.trans hro) (z8 Ao)
 |some tx=>exact jr (ec.trans hro) (zc (show Ans _ (some tx) st from mz))
noncomputable def fV(o:Option Tx):V:=match o with
 |some t=>.dict (W6 t.raw)
 |none=>.none
theorem adp(n m:Nat)(o:List UInt8)(ho:o.length<=5000)(hc:cnt o<m)(st:Store):CT (n+101) "_law_told" [.val (.bytes o)] st=.ok (fV (rd m o)) st:=by
 have h:=alw n m o ho hc st;rw[aa5];refine(?_:Fin _ _ (dw _ _ H8.body _ _));cases hR:rd m o with
 |none=>
  rw[hR]at h;obtain⟨c,h⟩:=h;exact ahl (Bv (K4 (agj rfl (gj (b_1 (gw rfl) rfl) h))) (J9 rfl):Is _ _) (jr rfl (zc mz))
 |some t=>
  rw[hR]at h;exact ase (jr (gj (b_1 (v7 rfl (gj (b_1 (gw rfl) rfl) h)) rfl) (aee (n+99) t.raw st)) (J9 rfl):Is _ _) (zc mz)
noncomputable def yt(c:Cell):Prop:=∃(xs:List Nat) (p s:Nat),c=⟨true,.list [.list (xs.map λ (x:Nat)=>V.int (x:Int)),.int p,.int s]⟩/\xs.length<=60
inductive Drw{α : Type}(k:Nat) (F:String)(x:V)(w:Cell)(f : α->V) (Q : α->Prop):Prop
 |mk (w':Cell) (a : α) (h:yt w') (q:Q a) (e:∀(n:Nat) (rest:Store),CT (n+k) F [.cell 0,.val x] (w::rest)=.ok (f a) (w'::rest))
noncomputable def El(a:Nat):V:=.int a
theorem adk{p n:Nat}(h:p<n):place p n=some p:=(bf (jy p)).trans (bf (jw.2 h))
theorem a0p{l:List V}{p:Nat}{v:V}(hl:l.length<=1000000)(h:l[p]? = some v):zp (.list l) (.int p)=some v:=by
 rw[ave,adk (iw.mp h).1];exact(bf hl).trans h
theorem azq{l:List V}{p:Nat}{v:V}(hl:l.length<=1000000)(h:l[p]? = some v):zp (.tuple l) (.int p)=some v:=by
 rw[a0b,adk (iw.mp h).1];exact(bf hl).trans h
theorem Bs(w:Cell)(hw:yt w)(k:Nat)(hk : 0<k):Drw 1 "_law_draw" (.int k) w El (· < k):=by
 obtain⟨xs,p,s,rfl,hx⟩:=hw;have hx':(xs.map λ (x:Nat)=>V.int (x:Int)).length<=1000000:=by rw[bw];exact ak hx (by decide)
 have mul:∀x:Int,Cd .mul (.int x) (.int 31)=some (.int (x*31)):=λ x=>(ajb _ _).trans (bf (.inr (by decide)))
 have md:∀g:Nat,Cd .mod (.int g) (.int k)=some (El (g%k)):=λ g=>(anc _ _).trans (bf (Int.natCast_pos.2 hk));have len:∀{cf:CF}{ρ st},iu cf ρ (.idx (.nm "well") (.int 0)) st=.ok (.list (xs.map λ (x:Nat)=>V.int (x:Int))) st->iu cf ρ (.len (.idx (.nm "well") (.int 0))) st=.ok (.int xs.length) st:=λ h=>
  ux (v7 rfl h) ((lL _ hx').trans (by rw[bw]))
 by_cases h:p<xs.length
 ·obtain⟨g,hg⟩:∃g,xs[p]? = some g:=⟨_,gq h⟩;refine .mk ⟨true,.list [.list (xs.map λ (x:Nat)=>V.int (x:Int)),.int (p+1:Nat),.int ((s*31+g+7)%997:Nat)]⟩ (g%k) ⟨xs,_,_,rfl,hx⟩ (Nat.mod_lt _ hk) λ n rest=>?_;rw[S6];refine(?_:Fin _ _ (dw _ _ Es.body _ _));refine v9 (jk (jz (gw rfl) rfl rfl) (len (jz (gw rfl) rfl rfl)) (Vt h)) (qb rfl (jz (v7 rfl (jz (gw rfl) rfl rfl)) (jz (gw rfl) rfl rfl) (a0p hx' (by rw[List.getElem?_map,hg];rfl))) ?_)
  refine Ih rfl (gk (jz (gw rfl) rfl rfl) rfl rfl) rfl rfl rfl (Ih rfl (gk (gk (gk (gk (jz (gw rfl) rfl rfl) rfl (mul _)) (dj rfl) rfl) rfl rfl) rfl rfl) rfl rfl rfl ?_);exact jr (gk (dj rfl) (dj rfl) (md g)) (zc (mz (st:=_::rest)))
 ·refine .mk ⟨true,.list [.list (xs.map λ (x:Nat)=>V.int (x:Int)),.int p,.int ((s*31+7)%997:Nat)]⟩ (((s*31+7)%997)%k) ⟨xs,_,_,rfl,hx⟩ (Nat.mod_lt _ hk) λ n rest=>?_;rw[S6];refine(?_:Fin _ _ (dw _ _ Es.body _ _));refine su (jk (jz (gw rfl) rfl rfl) (len (jz (gw rfl) rfl rfl)) (I9 h)) ?_;refine Ih rfl (gk (gk (gk (jz (gw rfl) rfl rfl) rfl (mul _)) rfl rfl) rfl rfl) rfl rfl rfl ?_;exact jr (gk (jz (gw rfl) rfl rfl) (dj rfl) (md _)) (mz (st:=_::rest))
theorem acd(w:Cell)(hw:yt w)(l:List V)(h0 : 0<l.length)(hl:l.length<=1000):Drw 2 "_law_pick" (.tuple l) w id (·∈l):=by
 obtain⟨w',a,h1,h2,h3⟩:=Bs w hw l.length h0;have hl':=ak hl (by decide : 1000<=1000000)
 refine .mk w' l[a] h1 (List.getElem_mem h2) λ n rest=>?_;rw[aah];refine(?_:Fin _ _ (dw _ _ H6.body _ _));exact jr (jz (gw rfl) (gj (b_1 (gw rfl) (b_1 (v7 rfl (ux (gw rfl) (bf hl'))) rfl)) (h3 n rest)) (azq hl' (gq h2))) (mz (st:=_::rest))
noncomputable def chains:List Nat:=[0,1,137,2^64,2^256-1]
noncomputable def Ke:List Nat:=[0,1,127,128,2^64-1]
noncomputable def Bd:List Nat:=[0,1,1000000000,2^255,2^256-1]
noncomputable def Gy:List Nat:=[0,4097,2^160-1]
theorem acq(k:Nat):Cd .sub (.int (P2 k)) (.int 1)=some (El (2^k-1)):=au (λ i=>some (V.int i)) (Int.ofNat_sub (Nat.pow_pos (n:=k) (by decide : 0<2))).symm
theorem ae6(n:Nat)(st:Store):CT (n+1) "_law_chains" [] st=.ok (.tuple (chains.map El)) st:=by
 rw[Wr];refine(?_:Fin _ _ (dw _ _ Dq.body _ _));exact jr (q8 (s_1 rfl (s_1 rfl (s_1 rfl (s_1 (gk rfl rfl S5) (s_1 (gk (gk rfl rfl Dm) rfl (acq 256)) rfl))))) (aj rfl)) mz
theorem Un(n:Nat)(st:Store):CT (n+1) "_law_short" [] st=.ok (.tuple (Ke.map El)) st:=by
 rw[Xl];refine(?_:Fin _ _ (dw _ _ Fd.body _ _));exact jr (q8 (s_1 rfl (s_1 rfl (s_1 rfl (s_1 rfl (s_1 (gk (gk rfl rfl S5) rfl (acq 64)) rfl))))) (aj rfl)) mz
theorem G3(n:Nat)(st:Store):CT (n+1) "_law_wide" [] st=.ok (.tuple (Bd.map El)) st:=by
 rw[aac];refine(?_:Fin _ _ (dw _ _ Hr.body _ _));exact jr (q8 (s_1 rfl (s_1 rfl (s_1 (gk rfl rfl as7) (s_1 (gk rfl rfl aqm) (s_1 (gk (gk rfl rfl Dm) rfl (acq 256)) rfl))))) (aj rfl)) mz
theorem Xm(n:Nat)(st:Store):CT (n+1) "_law_goals" [] st=.ok (.tuple (.none::Gy.map El)) st:=by
 rw[Xe];refine(?_:Fin _ _ (dw _ _ Fp.body _ _));exact jr (q8 (s_1 rfl (s_1 rfl (s_1 rfl (s_1 (gk (gk rfl rfl aa3) rfl (acq 160)) rfl)))) (aj rfl)) mz
theorem Ia(w:Cell)(hw:yt w)(l:List Nat)(h0 : 0<l.length)(hl:l.length<=1000):Drw 2 "_law_pick" (.tuple (l.map El)) w El (·∈l):=by
 obtain⟨w',v,h1,h2,h3⟩:=acd w hw (l.map El) (by rw[bw];exact h0) (by rw[bw];exact hl)
 obtain⟨a,ha,rfl⟩:=kj.1 h2;exact .mk w' a h1 ha h3
theorem awq(w:Cell)(hw:yt w):Drw 2 "_law_pick" (.tuple (.none::Gy.map El)) w oV (λ o=>∀a,o=some a->a∈Gy):=by
 obtain⟨w',v,h1,h2,h3⟩:=acd w hw (.none::Gy.map El) (aj rfl) (aj rfl);rcases gb.1 h2 with rfl|h2
 ·exact .mk w' none h1 (λ _ h=>nomatch h) h3
 ·obtain⟨a,ha,rfl⟩:=kj.1 h2;exact .mk w' (some a) h1 (λ b hb=>ao hb▸ha) h3
noncomputable def dataOf(seed many:Nat):List UInt8:=(List.range many).map λ i=>((seed+37*i)%256).toUInt8
noncomputable def cn:Nat->Nat->Nat
 | _,0=>0
 |s,k+1=>cn ((s+37)%256) k+if 192<=s then 1 else 0
theorem azj:∀s,s<256->cn s 7<=2:=by decide +kernel
theorem ain:∀(j k s:Nat),s<256->cn s (j+k)=cn s j+cn ((s+37*j)%256) k
 |0,k,s,h=>by rw[lg,Nat.mul_zero,Nat.add_zero,Nat.mod_eq_of_lt h];exact(lg _).symm
 |j+1,k,s,h=>by
  have:=ain j k ((s+37)%256) (Nat.mod_lt _ (by decide))
  rw[Nat.mod_add_mod,jt,j6 37,<-Nat.mul_succ]at this;rw[j9 j 1 k];exact(au (· + if 192<=s then 1 else 0) this).trans (j9 ..)
theorem aon:∀(k s:Nat),s<256->cn s (7*k)<=2*k
 |0,s,_=>jf _
 |k+1,s,h=>by
  rw[show 7*(k+1)=7+7*k from(Nat.mul_succ 7 k).trans (j6 ..),ain 7 (7*k) s h,show 2*(k+1)=2+2*k from(Nat.mul_succ 2 k).trans (j6 ..)];exact j7 (azj s h) (aon k _ (Nat.mod_lt _ (by decide)))
theorem Vw(a b:List UInt8):cnt (a++b)=cnt a+cnt b:=List.countP_append
theorem Ye:∀(k s:Nat),cnt (dataOf s k)=cn (s%256) k
 |0,s=>rfl
 |k+1,s=>by
  have e:dataOf s (k+1)=((s%256).toUInt8)::dataOf (s+37) k:=by
   rw[dataOf,List.range_succ_eq_map,je,List.map_map];exact au (List.cons _) (List.map_congr_left λ i _=>au (λ n=>(n%256).toUInt8) ((au (s + ·) (j6 (37*i) 37)).trans (jt ..).symm))
  rw[e,cn,Nat.mod_add_mod];refine(List.countP_cons ..).trans ?_;rw[<-Ye k (s+37)];exact au (cnt _ + ·) (ite_congr (by rw[decide_eq_true_eq,Mp]) (λ _=>rfl) λ _=>rfl)
theorem ab8:∀(j k s:Nat),j<=k->cn s j<=cn s k
 |0,k,s,_=>n6 _
 |j+1,0,s,h=>absurd h (Nat.not_succ_le_zero j)
 |j+1,k+1,s,h=>jg (ab8 j k _ (o8 h)) _
theorem Xh(s k:Nat)(hk:k<=300):cnt (dataOf s k)<=108:=by
 rw[Ye];exact ak (ab8 k (7*43) (s%256) (ak hk (by decide))) (ak (aon 43 (s%256) (Nat.mod_lt _ (by decide))) (by decide))
theorem sb1{w:Cell}{l:List (String×Ent)}{x:String}{e:Ent}{r:Store}(h:l.length.ble 1000=true):setB (.cell 1) (.str x) e (w::⟨true,.dict l⟩::r)=some (w::⟨true,.dict (put x e l)⟩::r):=bf (aj h)
theorem Yn(w:Cell)(b:Bool)(l:List (String×Ent))(x:String)(r:Store)(v:V)(h:lk x l=some (.val v)):Pu (.cell 1) (.str x) (w::⟨b,.dict l⟩::r)=some v:=by
 show(match(generalizing:=false) lk x l with
  |some (.val v)=>some v
  | _=>none)=_
 rw[h]
theorem axi(w:Cell)(b:Bool)(l:List (String×Ent))(r:Store):freeze (.cell 1) (w::⟨b,.dict l⟩::r)=.ok (.dict (l.map λ p=>(p.1,p.2.toV))) (w::⟨false,.dict l⟩::r):=rfl
noncomputable def ac6:Ex:=.call "_law_pick" (.cons (.nm "well") (.cons (.call "_law_wide" .nil) .nil))
inductive Slots(ls:List V)(w:Cell):Prop
 |mk (w':Cell) (ss:List Nat) (h:yt w') (l:ss.length=ls.length) (m:∀s∈ss,s∈Bd)
  (e:∀(n:Nat) (rest:Store),cmp (CT (n+3)) ac6 "lap" .none [("well",.cell 0)] ls (w::rest)=.ok (ss.map El) (w'::rest))
theorem Ul:∀(ls:List V)(w:Cell),yt w->Slots ls w
 |[],w,h=>.mk w [] h rfl (λ _ h=>nomatch h) λ _ _=>rfl
 |v::r,w,h=>by
  obtain⟨w1,a,h1,h2,h3⟩:=Ia w h Bd (by decide) (by decide)
  obtain⟨w2,ss,h4,h5,h6,h7⟩:=Ul r w1 h1;refine .mk w2 (a::ss) h4 (au (· + 1) h5) (dg.mpr ⟨h2,h6⟩) λ n rest=>?_;rw[Y0,show iu (CT (n+3)) _ ac6 (w::rest)=.ok (El a) (w1::rest) from gj (b_1 (gw rfl) (b_1 (v7 rfl (gj rfl (G3 _ _))) rfl)) (h3 (n+1) rest),mq,ac7,h7 n rest];rfl
noncomputable def D10(k c n q p l t v d:V)(acc:List V):List (String×Ent):=[("kind",.val k),("chain",.val c),("nonce",.val n),("cap",.val q),("priority",.val p),("limit",.val l),("target",.val t),("value",.val v),("data",.val d),("access",.own acc)]
noncomputable def aui:u9:=(.cons (.asg (.nm "law_home") (.call "_law_pick" (.cons (.nm "well") (.cons (.slc (.call "_law_goals" .nil) (.some (.int 1)) .none) .nil))))
 (.cons (.app "law_tx" (some "access") (.tup (.cons (.nm "law_home") (.cons (.comp (.call "_law_pick" (.cons (.nm "well") (.cons (.call "_law_wide" .nil) .nil))) "lap" (.rng (.call "_law_draw" (.cons (.nm "well") (.cons (.int 3) .nil)))) .none ["well"]) .nil))))
 .nil))
theorem V3(k:Nat)(h:k<=100000):Kv (.int (k:Int))=some (.list ((List.range k).map λ (i:Nat)=>.int (i:Int))):=bf ⟨jy k,(Int.ofNat_le.2 h:(k:Int)<=100000)⟩
inductive Turns(ls:List V)(w:Cell)(acc:List (Nat×List Nat)):Prop
 |mk (w':Cell) (rows:List (Nat×List Nat)) (h:yt w') (l:rows.length=ls.length) (m:∀a∈rows,a.1∈Gy/\a.2.length<=2/\∀s∈a.2,s∈Bd)
  (e:∀(n:Nat) (can:Bool) (ρ:Loc) (k c n' q p l t v d:V),lk "well" ρ=some (.cell 0)->lk "law_tx" ρ=some (.cell 1)->∃ρ',
   N6 (CT (n+4)) can (.nm "turn") aui ls ρ [w,⟨true,.dict (D10 k c n' q p l t v d (acc.map accN))⟩]=.ok (.next ρ') [w',⟨true,.dict (D10 k c n' q p l t v d ((acc++rows).map accN))⟩]/\
   lk "well" ρ'=some (.cell 0)/\lk "law_tx" ρ'=some (.cell 1))
theorem aun{w:Cell}{l:List (String×Ent)}{q:List V}{v:V}(h:lk "access" l=some (.own q))(hq:q.length<=1000000):
 Gd (.cell 1) (some "access") v [w,⟨true,.dict l⟩]=some [w,⟨true,.dict (put "access" (.own (q++[v])) l)⟩]:=by
 show(match(generalizing:=false) lk "access" l with
  |some (.own q)=>if q.length<=lim then some [w,⟨true,.dict (put "access" (.own (q++[v])) l)⟩]else none
  | _=>none)=_
 rw[h];exact bf hq
theorem axu{cf:CF}{can:Bool}{ρ:Loc}{ss:u9}{e:Ex}{v:V}{W:R Fl->Prop}{w w':Cell}{l:List (String×Ent)}{q:List V}(hx:lk "law_tx" ρ=some (.cell 1))(hl:lk "access" l=some (.own q))(hq:q.length<=1000000)
 (h:iu cf ρ e [w,⟨false,.hid⟩]=.ok v [w',⟨false,.hid⟩]) (k:W (dw cf can ss ρ [w',⟨true,.dict (put "access" (.own (q++[v])) l)⟩])):
 W (dw cf can (.cons (.app "law_tx" (some "access") e) ss) ρ [w,⟨true,.dict l⟩]):=by
 rw[w_c,axl,hx];dsimp only[List.getElem?_cons_succ,List.getElem?_cons_zero,List.set_cons_succ,List.set_cons_zero];rw[hl];dsimp only;rw[h];dsimp only[R.bind,List.getElem?_cons_succ,List.getElem?_cons_zero,List.set_cons_succ,List.set_cons_zero];rw[aun hl hq];exact k
theorem ad9{ρ:Loc}(h:lk "well" ρ=some (.cell 0)):Bp ["well"] ρ=[("well",.cell 0)]:=by
 unfold Bp;rw[oh,h];rfl
theorem Uo:∀(ls:List V)(w:Cell)(acc:List (Nat×List Nat)),yt w->acc.length+ls.length<=1000->Turns ls w acc
 |[],w,acc,h,_=>.mk w [] h rfl (λ _ h=>nomatch h) λ n can ρ k c n' q p l t v d h1 h2=>⟨ρ,by rw[jo];rfl,h1,h2⟩
 |x::ls,w,acc,h,hl=>by
  obtain⟨w1,a,a1,a2,a3⟩:=Ia w h Gy (by decide) (by decide)
  obtain⟨w2,j,b1,b2,b3⟩:=Bs w1 a1 3 (by decide)
  obtain⟨w3,ss,c1,c2,c3,c4⟩:=Ul ((List.range j).map λ (i:Nat)=>.int (i:Int)) w2 b1;rw[bw,qu]at c2;have hj2:j<=2:=m7 b2;have hj:=ak hj2 (by decide : 2<=1000000)
  obtain⟨w4,rows,e1,e2,e3,e4⟩:=Uo ls w3 (acc++[(a,ss)]) c1 (ah2 hl);refine .mk w4 ((a,ss)::rows) e1 (au (· + 1) e2) (dg.mpr ⟨⟨a2,c2▸hj2,c3⟩,e3⟩) λ n can ρ k c n' q p l t v d h1 h2=>?_;have g1:lk "well" (put "law_home" (.val (El a)) (put "turn" (.val x) ρ))=some (.cell 0):=m6 (by decide) (m6 (by decide) h1)
  have g2:lk "law_tx" (put "law_home" (.val (El a)) (put "turn" (.val x) ρ))=some (.cell 1):=m6 (by decide) (m6 (by decide) h2)
  obtain⟨ρ',f1,f2,f3⟩:=e4 n can _ k c n' q p l t v d g1 g2;have hA:(acc++[(a,ss)]).map accN=acc.map accN++[.tuple [El a,.list (ss.map El)]]:=by rw[nu];exact au (λ y=>_++[y]) (M6 (a,ss))
  rw[hA,jc]at f1;refine⟨ρ',?_,f2,f3⟩;refine Dh rfl (qb rfl (gj (b_1 (gw (m6 (by decide) h1)) (b_1 (v7 rfl (vf (gj rfl (Xm _ _)) (zj rfl) rfl (rfl:wk (.tuple (.none::Gy.map El)) (some (.int 1)) none=some (.tuple (Gy.map El))))) rfl)) (a3 (n+2) _)) ?_)
  refine axu g2 rfl (ak (by rw[bw];exact dz _ _) (ak hl (by decide))) (q8 (s_1 (dj Ce) (s_1 (Dp (Zh (gj (b_1 (gw g1) (b_1 (v7 rfl rfl) rfl)) (b3 (n+3) _)) (V3 j (ak hj2 (by decide)))) (Ed (by rw[bw,qu];exact hj)) (by rw[ad9 g1];exact c4 (n+1) _) (by rw[bw,c2];exact hj)) rfl)) (aj rfl)) (yd (Nu f1))
noncomputable def dOf(t:Tx):List (String×V):=[("kind",.int t.kind),("chain",.int t.chain),("nonce",.int t.nonce),("cap",.int t.cap),("priority",.int t.priority),("limit",.int t.limit),("target",oV t.target),
 ("value",.int t.value),("data",.bytes t.data),("access",.list (t.access.map accN)),("signature",.tuple [.int t.p,.int t.r,.int t.s])]
theorem aj1(t:Tx):Gq (dOf t) t.raw:=by
 refine⟨rfl,rfl,rfl,rfl,rfl,rfl,?_,rfl,rfl,?_,rfl⟩
 ·unfold Tx.raw;rw[agu];rfl
 ·unfold Tx.raw;rw[Nb];rfl
structure Drawn(t:Tx):Prop where
 kind:t.kind<3
 chain:t.chain∈chains
 nonce:t.nonce∈Ke
 cap:t.cap∈Bd
 price:t.kind≠2->t.priority=t.cap
 priority:t.priority∈Bd
 limit:t.limit∈Ke
 target:∀a,t.target=some a->a∈Gy
 value:t.value∈Bd
 data:∃s k,k<=300/\t.data=dataOf s k
 acc0:t.kind=0->t.access=[]
 acc:t.access.length<=2
 rows:∀a∈t.access,a.1∈Gy/\a.2.length<=2/\∀s∈a.2,s∈Bd
 p:t.p<2
 r:t.r∈Bd
 s:t.s∈Bd
noncomputable def sizes:List Nat:=[0,1,55,56,300]
theorem ag3(s k:Nat)(h:k<=300):Bq (.list ((List.range k).map λ (i:Nat)=>V.int (((s+37*i)%256:Nat):Int)))=some (.bytes (dataOf s k)):=by
 have:=ace (dataOf s k) (by rw[dataOf,bw,qu];exact ak h (by decide))
 rw[<-this];unfold dataOf;rw[List.map_map];exact au (λ l=>Bq (.list l)) (List.map_congr_left λ i _=>au (λ n:Nat=>V.int n) (Mp _).symm)
inductive Pri(k:Nat)(w4:Cell)(q:Nat):Prop
 |mk (w5:Cell) (p:Nat) (h:yt w5) (m:p∈Bd) (h1:k≠2->p=q/\w5=w4) (h2:k=2->∀(n:Nat) (rest:Store),CT (n+2) "_law_pick" [.cell 0,.val (.tuple (Bd.map El))] (w4::rest)=.ok (.int (p:Nat)) (w5::rest))
inductive az9(w10:Cell)(k:Nat)(c no q p l t v:V):Prop
 |mk (w11:Cell) (rows:List (Nat×List Nat)) (h:yt w11) (h2:rows.length<=2) (h0:k=0->rows=[]) (m:∀a∈rows,a.1∈Gy/\a.2.length<=2/\∀s∈a.2,s∈Bd)
  (e:∀(n:Nat) (can:Bool) (ρ:Loc) (d:V),lk "well" ρ=some (.cell 0)->lk "law_tx" ρ=some (.cell 1)->∃ρ',
   kF2 (CT (n+4)) can ρ (.nm "turn") aui (kb kF1 (iu (CT (n+4)) ρ (.rng (.ife (.cmp .gt (.idx (.nm "law_tx") (.str "kind")) (.int 0)) (.call "_law_draw" (.cons (.nm "well") (.cons (.int 3) .nil))) (.int 0))) [w10,⟨true,.dict (D10 (.int k) c no q p l t v d [])⟩]))=.ok (.next ρ') [w11,⟨true,.dict (D10 (.int k) c no q p l t v d (rows.map accN))⟩]/\
   lk "well" ρ'=some (.cell 0)/\lk "law_tx" ρ'=some (.cell 1))
theorem aiq(w10:Cell)(a10:yt w10)(k:Nat)(c no q p l t v:V):az9 w10 k c no q p l t v:=by
 by_cases h0:k=0
 ·subst h0;exact .mk w10 [] a10 (n6 _) (λ _=>rfl) (λ _ h=>nomatch h) λ n can ρ d h1 h2=>⟨ρ,ao1 (Zh (wg (jk (jz (gw h2) rfl (Yn _ _ _ _ _ _ rfl)) rfl rfl) rfl) (v:=.int 0) (u:=.list []) rfl) rfl rfl,h1,h2⟩
 ·obtain⟨w11,j,b1,hj,hj3⟩:=Bs w10 a10 3 (by decide)
  have hj2:j<=2:=m7 hj;obtain⟨w12,rows,b2,hr,hr2,hr3⟩:=Uo ((List.range j).map λ (i:Nat)=>.int (i:Int)) w11 [] b1 (by rw[bw,qu,List.length_nil,lg];exact ak hj2 (by decide))
  rw[bw,qu]at hr;refine .mk w12 rows b2 (hr▸hj2) (λ h=>absurd h h0) hr2 λ n can ρ d h1 h2=>?_;obtain⟨ρ',f1,f2,f3⟩:=hr3 n can ρ (.int k) c no q p l t v d h1 h2;exact⟨ρ',ao1 (Zh (yu (jk (jz (gw h2) rfl (Yn _ _ _ _ _ _ rfl)) rfl (show xg .gt (.int k) (.int 0)=some true from au some (fu (jw.2 (Nat.pos_of_ne_zero h0))))) (gj (b_1 (gw h1) (b_1 (v7 rfl rfl) rfl)) (hj3 (n+3) _))) (V3 j (ak hj2 (by decide)))) (Ed (by rw[bw,qu];exact ak hj2 (by decide))) f1,f2,f3⟩
theorem ajh:∀{m},m∈sizes->m<=300:=by decide
theorem af4(w:Cell)(hw:yt w):∃w' t,yt w'/\Drawn t/\∀n,CT (n+5) "_law_drawn" [.cell 0] [w]=.ok (.dict (dOf t)) [w']:=by
 obtain⟨w1,k,a1,hk,hk3⟩:=Bs w hw 3 (by decide)
 obtain⟨w2,c,a2,hc,hc3⟩:=Ia w1 a1 chains (by decide) (by decide)
 obtain⟨w3,no,a3,hn,hn3⟩:=Ia w2 a2 Ke (by decide) (by decide)
 obtain⟨w4,q,a4,hq,hq3⟩:=Ia w3 a3 Bd (by decide) (by decide)
 have hpr:Pri k w4 q:=by
  by_cases h2:k=2
  ·obtain⟨w5,p,a5,hp,hp3⟩:=Ia w4 a4 Bd (by decide) (by decide)
   exact .mk w5 p a5 hp (λ h=>absurd h2 h) λ _=>hp3
  ·exact .mk w4 q a4 hq (λ _=>⟨rfl,rfl⟩) λ h=>absurd h h2
 obtain⟨w5,p,a5,hp,hp1,hp2⟩:=hpr;obtain⟨w6,l,a6,hl,hl3⟩:=Ia w5 a5 Ke (by decide) (by decide)
 obtain⟨w7,t,a7,ht,ht3⟩:=awq w6 a6;obtain⟨w8,v,a8,hv,hv3⟩:=Ia w7 a7 Bd (by decide) (by decide)
 obtain⟨w9,m,a9,hm,hm3⟩:=Ia w8 a8 sizes (by decide) (by decide)
 obtain⟨w10,sd,a10,hsd,hsd3⟩:=Bs w9 a9 256 (by decide)
 have hm300:=ajh hm;have hacc:=aiq w10 a10 k (.int c) (.int no) (.int q) (.int p) (.int l) (oV t) (.int v);obtain⟨w11,rows,a11,hrl,hr0,hrw,hr3⟩:=hacc;obtain⟨w12,sp,a12,hsp,hsp3⟩:=Bs w11 a11 2 (by decide)
 obtain⟨w13,sr,a13,hsr,hsr3⟩:=Ia w12 a12 Bd (by decide) (by decide)
 obtain⟨w14,ss,a14,hss,hss3⟩:=Ia w13 a13 Bd (by decide) (by decide)
 refine⟨w14,⟨k,c,no,p,q,l,t,v,dataOf sd m,rows,sp,sr,ss⟩,a14,⟨hk,hc,hn,hq,λ h=>(hp1 h).1,hp,hl,ht,hv,⟨sd,m,hm300,rfl⟩,hr0,hrl,hrw,hsp,hsr,hss⟩,?_⟩;intro n;rw[W9];refine(?_:Fin [w].length _ (dw _ _ _ _ _));have pk:∀{ρ F x}{l:List V}{wa wb:Cell}{rest:Store},lk "well" ρ=some (.cell 0)->CT (n+4) F [] (wa::rest)=.ok (.tuple l) (wa::rest)->CT (n+4) "_law_pick" [.cell 0,.val (.tuple l)] (wa::rest)=.ok x (wb::rest)->
  iu (CT (n+4)) ρ (.call "_law_pick" (.cons (.nm "well") (.cons (.call F .nil) .nil))) (wa::rest)=.ok x (wb::rest):=λ h k z=>gj (b_1 (gw h) (b_1 (v7 rfl (gj rfl k)) rfl)) z
 have dr:∀{ρ x}{m:Nat}{wa wb:Cell}{rest:Store},lk "well" ρ=some (.cell 0)->CT (n+4) "_law_draw" [.cell 0,.val (.int (m:Nat))] (wa::rest)=.ok x (wb::rest)->
  iu (CT (n+4)) ρ (.call "_law_draw" (.cons (.nm "well") (.cons (.int (m:Nat)) .nil))) (wa::rest)=.ok x (wb::rest):=λ h z=>gj (b_1 (gw h) (b_1 (v7 rfl rfl) rfl)) z
 refine Di rfl (aob (s_1 (dr (m:=3) rfl (hk3 (n+3) _)) (s_1 (pk rfl (ae6 _ _) (hc3 (n+2) _)) (s_1 (pk rfl (Un _ _) (hn3 (n+2) _)) rfl))) ⟨rfl,by decide,by decide⟩) rfl ?_
 refine Ih rfl (pk rfl (G3 _ _) (hq3 (n+2) _)) rfl rfl (sb1 rfl) ?_;refine Ih (v:=.int (p:Nat)) (st':=[w5,⟨true,.dict [("kind",.val (.int k)),("chain",.val (.int c)),("nonce",.val (.int no)),("cap",.val (.int q))]⟩]) rfl ?_ rfl rfl (sb1 rfl) ?_
 ·by_cases h2:k=2
  ·exact yu (jk (jz (gw rfl) rfl (Yn _ _ _ _ _ _ rfl)) rfl (show xg .eq (.int k) (.int 2)=some true from au some (beq_iff_eq.mpr (au Int.ofNat h2)))) (pk rfl (G3 _ _) (hp2 h2 (n+2) _))
  ·obtain⟨rfl,rfl⟩:=hp1 h2;exact wg (jk (jz (gw rfl) rfl (Yn _ _ _ _ _ _ rfl)) rfl (amg (b:=2) h2)) (jz (gw rfl) rfl (Yn _ _ _ _ _ _ rfl))
 refine z7 (q8 (s_1 (pk rfl (Un _ _) (hl3 (n+2) _)) (s_1 (pk rfl (Xm _ _) (ht3 (n+2) _)) rfl)) (aj rfl)) (aas rfl rfl (sb1 rfl) rfl (sb1 rfl)) ?_;have hsz:V.tuple [V.int 0,.int 1,.int 55,.int 56,.int 300]=.tuple (sizes.map El):=rfl;refine z7 (q8 (s_1 (pk rfl (G3 _ _) (hv3 (n+2) _)) (s_1 (gj (b_1 (gw rfl) (b_1 (v7 rfl (Cp rfl)) rfl)) (hm3 (n+2) _)) (s_1 (dr (m:=256) rfl (hsd3 (n+3) _)) rfl))) (aj rfl)) (awn rfl rfl (sb1 rfl)) ?_;refine Ih rfl (Ip (Dp (Zh (dj rfl) (V3 m (ak hm300 (by decide)))) (Ed (by rw[bw,qu];exact ak hm300 (by decide))) (Ab _ _ _ [("law_seed",.val (.int (sd:Int)))] _ (λ (i:Nat)=>V.int (i:Int)) (λ (i:Nat)=>V.int (((sd+37*i)%256:Nat):Int)) (List.range m) λ i _=>
  gk (gk (dj rfl) (gk rfl (dj rfl) ((ajb _ _).trans (bf (.inl (by decide))))) rfl) rfl rfl) (by rw[bw,qu];exact ak hm300 (by decide))) (ag3 sd m hm300)) rfl rfl (sb1 rfl) ?_
 refine avr rfl rfl (sb1 rfl) ?_;obtain⟨ρ',f1,f2,f3⟩:=hr3 n (decide (4<=n+4)) [("well",.cell 0),("law_tx",.cell 1),("law_many",.val (.int (m:Int))),("law_seed",.val (.int (sd:Int)))] (.bytes (dataOf sd m)) rfl rfl;refine arf f1 (Bu ?_);refine Ih rfl (q8 (s_1 (dr (m:=2) f2 (hsp3 (n+3) _)) (s_1 (pk f2 (G3 _ _) (hsr3 (n+2) _)) (s_1 (pk f2 (G3 _ _) (hss3 (n+2) _)) rfl))) (aj rfl)) f3 rfl (sb1 rfl) ?_;exact jr (Nk f3 (axi _ _ _ _)) rfl
theorem Qx{a:Nat}(h:a∈chains):a<2^256:=(show ∀a∈chains,a<2^256 by decide) a h
theorem Ec{a:Nat}(h:a∈Bd):a<2^256:=(show ∀a∈Bd,a<2^256 by decide) a h
theorem Rq{a:Nat}(h:a∈Ke):a<2^64:=(show ∀a∈Ke,a<2^64 by decide) a h
theorem Ux{a:Nat}(h:a∈Gy):a<2^160:=(show ∀a∈Gy,a<2^160 by decide) a h
theorem aw2:∀{k:Nat},k<3->k=0\/k=1\/k=2
 |0,_=>.inl rfl
 |1,_=>.inr (.inl rfl)
 |2,_=>.inr (.inr rfl)
theorem agc{c p:Nat}(h:c<2^256)(hp:p<2):35+2*c+p<35+2^257:=by lia
theorem Drawn.valid{t:Tx}(h:Drawn t):Valid t:=
 ⟨aw2 h.kind,h.price,h.acc0,Rq h.nonce,Rq h.limit,Qx h.chain,Ec h.priority,Ec h.cap,Ec h.value,λ a ha=>Ux (h.target a ha),
  λ a ha=>let⟨h1,_,h3⟩:=h.rows a ha;⟨Ux h1,λ s hs=>Ec (h3 s hs)⟩,(aw2 (Nat.lt_succ_of_lt h.p)).elim .inl λ q=>q.elim .inr λ q=>absurd h.p (by rw[q];decide),Ec h.r,Ec h.s,λ _=>agc (Qx h.chain) h.p⟩
theorem N5{α : Type}{a b:List α}{m n:Nat}(h:a.length<=m)(k:b.length<=n):(a++b).length<=m+n:=cg▸j7 h k
theorem V2(low n:Nat)(h:n<=1000000):(hd low n).length<=4:=by
 have:=Ej n h;unfold hd;split
 ·exact aj rfl
 ·exact qj this
theorem agf(l:List UInt8){k:Nat}(h:(hd 128 l.length).length<=k):(Jv l).length<=k+l.length:=by
 by_cases h1:l.length=1
 ·obtain⟨c,rfl⟩:=List.length_eq_one_iff.1 h1
  by_cases hc:c.toNat<128
  ·rw[Mu c hc];exact iy _ _
  ·rw[Ri c (jx.1 hc)];exact N5 h (jf _)
 ·rw[Nx l h1];exact N5 h (jf _)
theorem ajk(l:List UInt8)(h:l.length<=55):(Jv l).length<=1+l.length:=agf l (by rw[Ep _ _ h];exact jf _)
theorem afl(l:List UInt8)(h:l.length<=1000000):(Jv l).length<=4+l.length:=agf l (V2 128 _ h)
theorem M7{l:List UInt8}{k:Nat}(h:l.length<=k)(hk:k<=55):(enc (.b l)).length<=1+k:=by
 rw[Jz];exact ak (ajk l (ak h hk)) (jh h 1)
theorem Oj{a k:Nat}(h:a<2^(8*k))(hk:k<=55):(enc (bn a)).length<=1+k:=
 M7 (Vv a k (by rw[show(256:Nat)=2^8 from rfl,<-Nat.pow_mul];exact h)) hk
theorem G8(a k:Nat)(hk:k<=55):(enc (.b (yh k a))).length<=1+k:=M7 (Nat.le_of_eq (Ar ..)) hk
theorem akm(o:Option Nat):(enc (tgt o)).length<=21:=by
 cases o with
 |none=>exact M7 (l:=[]) (k:=20) (n6 20) (aj rfl)
 |some a=>exact G8 a 20 (aj rfl)
noncomputable def Lz(xs:List It)(n:Nat):Prop:=((xs.map enc).flatten).length<=n
theorem Xx:Lz [] 0:=jf 0
theorem Ng{x:It}{xs:List It}{m n:Nat}(h:(enc x).length<=m)(k:Lz xs n):Lz (x::xs) (m+n):=N5 h k
theorem Mj(a b:List It):(((a++b).map enc).flatten)=(a.map enc).flatten++(b.map enc).flatten:=by rw[nu,List.flatten_append]
theorem aeh{xs ys:List It}{m n:Nat}(h:Lz xs m)(k:Lz ys n):Lz (xs++ys) (m+n):=by
 unfold Lz;rw[Mj];exact N5 h k
theorem ai1{xs:List It}{m n:Nat}(h:Lz xs m)(k:Nat.ble m n=true):Lz xs n:=ak h (aj k)
theorem ajp(k:Nat)(xs:List It)(h:∀x∈xs,(enc x).length<=k):Lz xs (k*xs.length):=by
 induction xs with
 |nil=>exact n6 _
 |cons x r ih=>
  rw[pq,Nat.mul_succ,j6];exact Ng (h x f9) (ih λ y hy=>h y (bk _ hy))
theorem Yi{α : Type}{k m n:Nat}{f : α->It}{l:List α}(h:∀a∈l,(enc (f a)).length<=k)(hl:l.length<=m)(e:Nat.ble (k*m) n=true):Lz (l.map f) n:=
 ak (ajp k _ λ x hx=>let⟨a,ha,e⟩:=kj.1 hx;e▸h a ha) (ak (Nat.mul_le_mul_left k (ak (Nat.le_of_eq (bw f)) hl)) (aj e))
theorem Jc{xs:List It}{k:Nat}(h:Lz xs k)(hk:k<=1000000):(enc (.l xs)).length<=4+k:=by
 rw[Ib];exact N5 (V2 192 _ (ak h hk)) h
theorem akq{a:Nat×List Nat}(h:a.2.length<=2):(enc (qd a)).length<=95:=
 Jc (k:=91) (Ng (G8 a.1 20 (aj rfl)) (Ng (Jc (Yi (n:=66) (λ s _=>G8 s 32 (aj rfl)) h rfl) (aj rfl)) Xx)) (aj rfl)
theorem al7{l:List (Nat×List Nat)}(h:l.length<=2)(h2:∀a∈l,a.2.length<=2):(enc (.l (l.map qd))).length<=194:=
 Jc (k:=190) (Yi (λ a ha=>akq (h2 a ha)) h rfl) (aj rfl)
theorem ahb{t:Tx}(h:Valid t):Lz (ks t) 171:=by
 have n8:∀{a r m},a<2^64->Lz r m->Lz (bn a::r) (9+m):=λ h=>Ng (Oj (k:=8) h (aj rfl));have n32:∀{a r m},a<2^256->Lz r m->Lz (bn a::r) (33+m):=λ h=>Ng (Oj (k:=32) h (aj rfl));have v:=Ng (akm t.target) (n32 h.value Xx);unfold ks kn
 split
 ·exact ai1 (aeh (n8 h.nonce (n32 h.cap (n8 h.limit Xx))) v) rfl
 ·exact ai1 (aeh (n32 h.chain (n8 h.nonce (n32 h.cap (n8 h.limit Xx)))) v) rfl
 ·exact ai1 (aeh (n32 h.chain (n8 h.nonce (n32 h.priority (n32 h.cap (n8 h.limit Xx))))) v) rfl
theorem acj{t:Tx}(h:Valid t):Lz [bn (par t),bn t.r,bn t.s] 100:=
 Ng (Oj (k:=33) (aa7 h) (aj rfl)) (Ng (Oj (k:=32) h.r (aj rfl)) (Ng (Oj (k:=32) h.s (aj rfl)) Xx))
theorem V5{xs:List It}{n:Nat}(h:(enc (.l xs)).length<=n):Lz xs n:=by
 rw[Ib,cg]at h;exact ak (iy _ _) h
theorem ac4{t:Tx}{n:Nat}(h:(enc (Kc t)).length<=n):Lz (rowsOf t) n:=by
 have:=V5 h;unfold Lz at this;rw[Mj,cg]at this;exact ak (dz _ _) this
theorem aml{t:Tx}(h:Valid t){n:Nat}(hS:(enc (Kc t)).length<=n)(hn:n<=9000):(enc (itU t)).length<=4+(n+35):=by
 refine Jc (aeh (ac4 hS) ?_) (ak (jg hn 35) (aj rfl))
 split
 ·exact Ng (Oj (k:=32) h.chain (aj rfl)) (Ng (M7 (l:=[]) (n6 0) (n6 55)) (Ng (M7 (l:=[]) (n6 0) (n6 55)) Xx))
 ·exact n6 35
theorem V1{x:It}{xs:List It}{n:Nat}(h:x∈xs)(k:Lz xs n):(enc x).length<=n:=ak (Ck h) k
theorem Y8{α : Type}{f : α->It}{l:List α}{n:Nat}(k:Lz (l.map f) n):l.length<=n:=by
 have:=ak (Bb (l.map f)) k;rw[bw]at this;exact this
theorem auj{t:Tx}(h:Valid t)(hS:(enc (Kc t)).length<=900):Sm t:=by
 have hr:=ac4 hS;rw[G4]at hr;have hd:=V1 (x:=.b t.data) (jq _ f9) hr;rw[Jz]at hd;have le:∀{n m},n<=900->Nat.ble 900 m=true->n<=m:=λ h k=>ak h (aj k);have hacc:t.kind≠0->Lz (t.access.map qd) 900:=λ h0=>by
  rw[bx h0]at hr;exact V5 (V1 (jq _ (bk _ f9)) hr)
 refine⟨le (ak (Nh t.data) hd) rfl,?_,λ a ha=>?_,le hS rfl,ak (aml h hS (aj rfl)) (aj rfl)⟩
 ·by_cases h0:t.kind=0
  ·rw[h.acc h0];exact n6 _
  ·exact le (Y8 (hacc h0)) rfl
 ·by_cases h0:t.kind=0
  ·rw[h.acc h0]at ha;exact nomatch ha
  ·have h2:Lz _ 900:=V5 (V1 (List.mem_map_of_mem (f:=qd) ha) (hacc h0));exact le (Y8 (V5 (V1 (bk _ f9) h2))) rfl
theorem Drawn.dlen{t:Tx}(h:Drawn t):t.data.length<=300:=by
 obtain⟨s,k,hk,e⟩:=h.data;rw[e,dataOf,bw,qu];exact hk
noncomputable def auf(t:Tx):List It:=if t.kind=0 then[]else[.l (t.access.map qd)]
theorem Yj{t:Tx}(h:Drawn t):Lz (auf t) 194:=by
 unfold auf
 split
 ·exact n6 _
 ·exact Ng (al7 h.acc λ a ha=>(h.rows a ha).2.1) Xx
theorem aot{t:Tx}(h:Drawn t):t.data.length<=1000000:=ak h.dlen (aj rfl)
theorem ab9{t:Tx}(h:Drawn t):Lz (rowsOf t++[bn (par t),bn t.r,bn t.s]) 769:=by
 rw[G4];exact aeh (m:=669) (aeh (m:=171) (n:=498) (ahb h.valid) (Ng (m:=304) (by rw[Jz];exact ak (afl _ (aot h)) (jh h.dlen 4)) (Yj h))) (acj h.valid)
theorem adw{t:Tx}(h:Drawn t):(enc (Kc t)).length<=780:=ak (Jc (ab9 h) (aj rfl)) (aj rfl)
theorem Kl(l:List UInt8):cnt l<=l.length:=List.countP_le_length
theorem ahd(l:List UInt8)(h:l.length<=1000000):cnt (Jv l)<=4+cnt l:=by
 have g:∀n≤1000000,cnt (hd 128 n++l)<=4+cnt l:=λ n hn=>Vw _ _▸jg (ak (Kl _) (V2 128 n hn)) _
 by_cases h1:l.length=1
 ·obtain⟨c,rfl⟩:=List.length_eq_one_iff.1 h1
  by_cases hc:c.toNat<128
  ·rw[Mu c hc];exact iy _ _
  ·rw[Ri c (jx.1 hc)];exact g 1 (aj rfl)
 ·rw[Nx l h1];exact g _ h
theorem ai6{t:Tx}(h:Drawn t):cnt (Ez t)<=582:=by
 have ap:∀{a b:List UInt8}{m n:Nat},cnt a<=m->cnt b<=n->cnt (a++b)<=m+n:=λ h k=>Vw _ _▸j7 h k;have hd4:cnt t.data<=108:=by
  obtain⟨s,k,hk,e⟩:=h.data;rw[e];exact Xh s k hk
 have all:cnt (((rowsOf t++[bn (par t),bn t.r,bn t.s]).map enc).flatten)<=577:=by
  rw[G4,Mj,Mj];exact ap (m:=477) (ap (m:=171) (n:=306) (ak (Kl _) (ahb h.valid)) (ap (m:=112) (by rw[Jz];exact ak (ahd _ (aot h)) (jh hd4 4)) (ak (Kl _) (Yj h)))) (ak (Kl _) (acj h.valid))
 unfold Ez Kc;rw[Ib];exact ap (m:=1) (ak (Kl _) (Jl t)) (ap (m:=4) (ak (Kl _) (V2 192 _ (ak (ab9 h) (aj rfl)))) all)
theorem ahc{t:Tx}(h:Drawn t):(Ez t).length<=781:=N5 (m:=1) (n:=780) (Jl t) (adw h)
theorem R4(f:V->V->Option Bool):∀l:List V,(∀v∈l,f v v=some true)->Mv f l l=some true
 |[],_=>rfl
 |v::r,h=>by
  have e:Mv f (v::r) (v::r)=(match f v v,Mv f r r with
   |some x,some y=>some (x&&y)
   | _,_=>Option.none):=rfl
  rw[e,h v (f9 ..),R4 f r λ w hw=>h w (bk _ hw)];rfl
theorem vg(n:Nat)(i:Int):Qd (n+1) (.int i) (.int i)=some true:=au some (uq i)
theorem Ut(n:Nat)(l:List UInt8):Qd (n+1) (.bytes l) (.bytes l)=some true:=au some (uq l)
theorem Ni(n:Nat):Qd (n+1) .none .none=some true:=rfl
theorem Y5(n:Nat)(l:List V)(h:∀v∈l,Qd n v v=some true):Qd (n+1) (.list l) (.list l)=some true:=(bf rfl:(if l.length=l.length then Mv (Qd n) l l else some false)=_).trans (R4 (Qd n) l h)
theorem Nr(n:Nat)(l:List V)(h:∀v∈l,Qd n v v=some true):Qd (n+1) (.tuple l) (.tuple l)=some true:=(bf rfl:(if l.length=l.length then Mv (Qd n) l l else none)=_).trans (R4 (Qd n) l h)
theorem aco(n:Nat)(l:List (Int×List Int)):Qd (n+4) (.list (l.map Gj)) (.list (l.map Gj))=some true:=by
 refine Y5 _ _ (λ v hv=>?_);obtain⟨a,_,rfl⟩:=kj.1 hv;refine Nr _ _ (λ w hw=>?_);simp at hw;rcases hw with rfl|rfl
 ·exact vg _ _
 ·refine Y5 _ _ (λ u hu=>?_);obtain⟨b,_,rfl⟩:=kj.1 hu;exact vg _ _
theorem akp(t:Ir)(d:List (String×V))(h:Gq d t)(hd:∃l,t.data=.bytes l):Zy (W6 t) d=some true:=by
 have e1:∀(k:String) (v:V) (r:List (String×V)),lk k d=some v->Qd 9 v v=some true->Zy r d=some true->Zy ((k,v)::r) d=some true:=by
  intro k v r h1 h2 h3;rw[Zy,h1];simp only[];rw[h2,h3];rfl
 obtain⟨l,hl⟩:=hd;unfold W6 objOf;refine e1 _ _ _ h.kind (vg _ _) ?_;refine e1 _ _ _ h.chain (vg _ _) ?_;refine e1 _ _ _ h.nonce (vg _ _) ?_;refine e1 _ _ _ h.priority (vg _ _) ?_;refine e1 _ _ _ h.cap (vg _ _) ?_;refine e1 _ _ _ h.limit (vg _ _) ?_;refine e1 _ _ _ h.target (by cases t.target<;>first|exact Ni _|exact vg _ _) ?_
 refine e1 _ _ _ h.value (vg _ _) ?_;refine e1 _ _ _ h.data (by rw[hl];exact Ut _ _) ?_
 refine e1 _ _ _ h.access (aco 5 _) ?_;refine e1 _ _ _ h.sig ?_ rfl;cases t.sig with
 |none=>exact Ni _
 |some x=>
  refine Nr _ _ (λ v hv=>?_);simp at hv;rcases hv with rfl|rfl|rfl<;>exact vg _ _
theorem atu(t:Ir)(d:List (String×V))(h:Gq d t)(hd:∃l,t.data=.bytes l):Zy (Vr t) d=some true:=by
 have e1:∀(k:String) (v:V) (r:List (String×V)),lk k d=some v->Qd 9 v v=some true->Zy r d=some true->Zy ((k,v)::r) d=some true:=by
  intro k v r h1 h2 h3;rw[Zy,h1];simp only[];rw[h2,h3];rfl
 obtain⟨l,hl⟩:=hd;unfold Vr;refine e1 _ _ _ h.kind (vg _ _) ?_;refine e1 _ _ _ h.access (aco 5 _) ?_;refine e1 _ _ _ h.sig ?_ ?_
 ·cases t.sig with
  |none=>exact Ni _
  |some x=>
   refine Nr _ _ (λ v hv=>?_);simp at hv;rcases hv with rfl|rfl|rfl<;>exact vg _ _
 refine e1 _ _ _ h.chain (vg _ _) ?_;refine e1 _ _ _ h.nonce (vg _ _) ?_;refine e1 _ _ _ h.priority (vg _ _) ?_;refine e1 _ _ _ h.cap (vg _ _) ?_;refine e1 _ _ _ h.limit (vg _ _) ?_;refine e1 _ _ _ h.target (by cases t.target<;>first|exact Ni _|exact vg _ _) ?_
 refine e1 _ _ _ h.value (vg _ _) ?_;refine e1 _ _ _ h.data (by rw[hl];exact Ut _ _) rfl
theorem ah4(t:Ir)(d:List (String×V))(h:Gq d t)(hd:∃l,t.data=.bytes l)(hlen:d.length=11):Qo (.dict (W6 t)) (.dict d)=some false:=by
 rw[aod,bf (by rw[hlen];rfl),akp t d h hd];rfl
theorem au6(t:Ir)(d:List (String×V))(h:Gq d t)(hd:∃l,t.data=.bytes l)(hlen:d.length=11):Qo (.dict (Vr t)) (.dict d)=some false:=by
 rw[aod,bf (by rw[hlen];rfl),atu t d h hd];rfl
theorem Rr(t:Tx):∃l,t.raw.data=.bytes l:=⟨t.data,rfl⟩
theorem meas{f:List UInt8->Nat}(hf:∀a b,f (a++b)=f a+f b)(h1:∀x,f [x]<=1){o A B:List UInt8}{c:UInt8}(ho:o=A++c::B):
 (∀x,f (A++[x]++B)<=f o+1)/\(∀x,f (A++[x]++(c::B))<=f o+1)/\f (A++B)<=f o+1/\f A<=f o+1/\(∀x,f (o++[x])<=f o+1)/\∀x b,f b<=f o->f ([x]++b)<=f o+1:=by
 have e:f o=f A+f (c::B):=by rw[ho,hf]
 have hAB:f A+f B<=f o:=by rw[e];exact jh (by rw[<-List.singleton_append,hf];exact iy _ _) _
 refine⟨λ x=>?_,λ x=>?_,?_,?_,λ x=>?_,λ x b h=>?_⟩
 ·rw[hf,hf,j9];exact j7 hAB (h1 x)
 ·rw[hf,hf,j9,<-e];exact jh (h1 x) _
 ·rw[hf];exact Nat.le_succ_of_le hAB
 ·exact Nat.le_succ_of_le (ak (dz _ _) hAB)
 ·rw[hf];exact jh (h1 x) _
 ·rw[hf,j6];exact j7 h (h1 x)
noncomputable def aue:u9:=(.cons (.ifs (.cmp .lt (.nm "law_way") (.int 2)) (.cons (.ret (.bin .add (.bin .add (.slc (.nm "octets") .none (.some (.nm "at"))) (.mkb (.lst (.cons (.bin .mod (.bin .add (.bin .add (.idx (.nm "octets") (.nm "at")) (.int 1)) (.call "_law_draw" (.cons (.nm "well") (.cons (.int 255) .nil)))) (.int 256)) .nil)))) (.slc (.nm "octets") (.some (.bin .add (.nm "at") (.int 1))) .none)))
 .nil) .nil)
 (.cons (.ifs (.cmp .eq (.nm "law_way") (.int 2)) (.cons (.ret (.bin .add (.bin .add (.slc (.nm "octets") .none (.some (.nm "at"))) (.mkb (.lst (.cons (.call "_law_pick" (.cons (.nm "well") (.cons (.tup (.cons (.int 0) (.cons (.int 1) (.cons (.int 128) (.cons (.int 192) (.cons (.int 255) .nil)))))) .nil))) .nil)))) (.slc (.nm "octets") (.some (.nm "at")) .none)))
  .nil) .nil)
 (.cons (.ifs (.cmp .eq (.nm "law_way") (.int 3)) (.cons (.ret (.bin .add (.slc (.nm "octets") .none (.some (.nm "at"))) (.slc (.nm "octets") (.some (.bin .add (.nm "at") (.int 1))) .none)))
  .nil) .nil)
 (.cons (.ifs (.cmp .eq (.nm "law_way") (.int 4)) (.cons (.ret (.slc (.nm "octets") .none (.some (.nm "at"))))
  .nil) .nil)
 (.cons (.ifs (.cmp .eq (.nm "law_way") (.int 5)) (.cons (.ret (.bin .add (.nm "octets") (.mkb (.lst (.cons (.call "_law_draw" (.cons (.nm "well") (.cons (.int 256) .nil))) .nil)))))
  .nil) .nil)
 (.cons (.ret (.bin .add (.mkb (.lst (.cons (.call "_law_draw" (.cons (.nm "well") (.cons (.int 4) .nil))) .nil))) (.ife (.cmp .lt (.idx (.nm "octets") (.int 0)) (.int 3)) (.slc (.nm "octets") (.some (.int 1)) .none) (.nm "octets"))))
 .nil))))))
theorem ald:Ht.body=(.cons (.asg (.tup (.cons (.nm "law_way") (.cons (.nm "at") .nil))) (.tup (.cons (.call "_law_draw" (.cons (.nm "well") (.cons (.int 7) .nil))) (.cons (.call "_law_draw" (.cons (.nm "well") (.cons (.len (.nm "octets")) .nil))) .nil)))) aue):=rfl
theorem alv:∀{g:Nat},g∈[0,1,128,192,255]->g<256:=by decide
inductive ar5(w:Cell)(o:List UInt8):Prop
 |mk (w':Cell) (b:List UInt8) (h:yt w') (l:b.length<=o.length+1) (c:cnt b<=cnt o+1) (e:∀n,CT (n+4) "_law_bent" [.cell 0,.val (.bytes o)] [w]=.ok (.bytes b) [w'])
theorem al9(w:Cell)(hw:yt w)(o:List UInt8)(h0 : 0<o.length)(ho:o.length<=5000):ar5 w o:=by
 obtain⟨w1,way,a1,hway,hway3⟩:=Bs w hw 7 (by decide)
 obtain⟨w2,p,a2,hp,hp3⟩:=Bs w1 a1 o.length h0;have ho':o.length<=1000000:=ak ho (by decide)
 have hp':p+1<=1000000:=ak hp ho';obtain⟨c,hc⟩:∃c,o[p]? = some c:=⟨_,gq hp⟩;have hsp:o=o.take p++c::o.drop (p+1):=by rw[<-drop_cons hc,List.take_append_drop]
 have L:=meas (f:=List.length) (λ _ _=>cg) (λ _=>jf _) hsp;have C:=meas (f:=cnt) Vw (λ x=>Kl [x]) hsp;have mk:∀{cf ρ e st st'}{i:Nat},i<256->iu cf ρ e st=.ok (.int (i:Nat)) st'->iu cf ρ (.mkb (.lst (.cons e .nil))) st=.ok (.bytes [i.toUInt8]) st':=λ hi h=>Ip (qt (s_1 h rfl) (aj rfl)) (mk1 hi);have pre:∀{w' b},yt w'->b.length<=o.length+1->cnt b<=cnt o+1->(∀n,Fin 1 (.ok (.bytes b) [w']) (dw (CT (n+3)) (decide (4<=n+3)) aue [("well",.cell 0),("octets",.val (.bytes o)),("law_way",.val (.int way)),("at",.val (.int p))] [w2]))->ar5 w o:=λ h1 h2 h3 h=>.mk _ _ h1 h2 h3 λ n=>by
  rw[abq];refine(?_:Fin 1 _ (dw _ _ _ _ _));rw[ald];exact z7 (q8 (s_1 (gj (b_1 (gw rfl) (b_1 (v7 rfl rfl) rfl)) (hway3 (n+2) [])) (s_1 (gj (b_1 (gw rfl) (b_1 (v7 rfl (ux (gw rfl) (lB o ho'))) rfl)) (hp3 (n+2) [])) rfl)) (aj rfl)) rfl (h n)
 have dr:∀{ρ}{m n:Nat}{g:Nat}{wa wb:Cell},lk "well" ρ=some (.cell 0)->(∀(n:Nat) (rest:Store),CT (n+1) "_law_draw" [.cell 0,.val (.int (m:Nat))] (wa::rest)=.ok (El g) (wb::rest))->
  iu (CT (n+3)) ρ (.call "_law_draw" (.cons (.nm "well") (.cons (.int (m:Nat)) .nil))) [wa]=.ok (.int (g:Nat)) [wb]:=λ h k=>gj (b_1 (gw h) (b_1 (v7 rfl rfl) rfl)) (k _ [])
 have et:∀{cf ρ st},lk "octets" ρ=some (.val (.bytes o))->lk "at" ρ=some (.val (.int p))->iu cf ρ (.slc (.nm "octets") .none (.some (.nm "at"))) st=.ok (.bytes (o.take p)) st:=λ h k=>vf (dj h) rfl (zj (dj k)) (ac9 o p p rfl ho' (ql hp'));have ed:∀{cf ρ st},lk "octets" ρ=some (.val (.bytes o))->lk "at" ρ=some (.val (.int p))->iu cf ρ (.slc (.nm "octets") (.some (.nm "at")) .none) st=.ok (.bytes (c::o.drop (p+1))) st:=λ h k=>vf (dj h) (zj (dj k)) rfl ((adx o p p rfl ho' (ql hp')).trans (by rw[drop_cons hc]))
 have ed1:∀{cf ρ st},lk "octets" ρ=some (.val (.bytes o))->lk "at" ρ=some (.val (.int p))->iu cf ρ (.slc (.nm "octets") (.some (.bin .add (.nm "at") (.int 1))) .none) st=.ok (.bytes (o.drop (p+1))) st:=λ h k=>vf (dj h) (zj (gk (dj k) rfl rfl)) rfl (adx o (p+1) ((p:Int)+1) rfl ho' hp');have no:∀{k:Nat},¬way=k->∀{cf ρ st},lk "law_way" ρ=some (.val (.int way))->ug cf ρ (.cmp .eq (.nm "law_way") (.int (k:Nat))) st=.ok false st:=λ h _ _ _ k=>jk (dj k) rfl (amg h);have yes:∀{k:Nat},way=k->∀{cf ρ st},lk "law_way" ρ=some (.val (.int way))->ug cf ρ (.cmp .eq (.nm "law_way") (.int (k:Nat))) st=.ok true st:=λ h _ _ _ k=>jk (dj k) rfl (h▸ayr);have add:∀{a b:List UInt8},(a++b).length<=o.length+1->Cd .add (.bytes a) (.bytes b)=some (.bytes (a++b)):=λ h=>Pr (ak (by rw[<-cg];exact h) (ak (qj ho) (by decide)))
 have le1:∀{a b:List UInt8},(a++b).length<=o.length+1->a.length<=o.length+1:=λ h=>ak (by rw[cg];exact dz _ _) h
 by_cases h2:way<2
 ·obtain⟨w3,g,a3,hg1,hg3⟩:=Bs w2 a2 255 (by decide)
  have l1:=L.1 ((c.toNat+1+g)%256).toUInt8;exact pre a3 l1 (C.1 _) λ n=>v9 (jk (dj rfl) rfl (Vt (b:=2) h2)) (jr (gk (gk (et rfl rfl) (mk (Nat.mod_lt _ (by decide)) (gk (gk (gk (jz (gw rfl) (dj rfl) (J7 o p c ho' hc)) rfl rfl) (dr (m:=255) rfl hg3) rfl) rfl rfl)) (add (le1 l1))) (ed1 rfl rfl) (add l1)) (zc rfl))
 have n2:∀{cf ρ st},lk "law_way" ρ=some (.val (.int way))->ug cf ρ (.cmp .lt (.nm "law_way") (.int 2)) st=.ok false st:=λ k=>jk (dj k) rfl (I9 (b:=2) h2)
 by_cases h3:way=2
 ·obtain⟨w3,g,a3,hg1,hg3⟩:=Ia w2 a2 [0,1,128,192,255] (by decide) (by decide)
  have l1:=L.2.1 g.toUInt8;exact pre a3 l1 (C.2.1 _) λ n=>su (n2 rfl) (v9 (yes h3 rfl) (jr (gk (gk (et rfl rfl) (mk (alv hg1) (gj (b_1 (gw rfl) (b_1 (v7 rfl rfl) rfl)) (hg3 (n+1) []))) (add (le1 l1))) (ed rfl rfl) (add l1)) (zc rfl)))
 by_cases h4:way=3
 ·exact pre a2 L.2.2.1 C.2.2.1 λ n=>su (n2 rfl) (su (no h3 rfl) (v9 (yes h4 rfl) (jr (gk (et rfl rfl) (ed1 rfl rfl) (add L.2.2.1)) (zc rfl))))
 by_cases h5:way=4
 ·exact pre a2 L.2.2.2.1 C.2.2.2.1 λ n=>su (n2 rfl) (su (no h3 rfl) (su (no h4 rfl) (v9 (yes h5 rfl) (jr (et rfl rfl) (zc rfl)))))
 by_cases h6:way=5
 ·obtain⟨w3,g,a3,hg1,hg3⟩:=Bs w2 a2 256 (by decide)
  exact pre a3 (L.2.2.2.2.1 g.toUInt8) (C.2.2.2.2.1 _) λ n=>su (n2 rfl) (su (no h3 rfl) (su (no h4 rfl) (su (no h5 rfl) (v9 (yes h6 rfl) (jr (gk (dj rfl) (mk hg1 (dr (m:=256) rfl hg3)) (add (L.2.2.2.2.1 _))) (zc rfl))))))
 obtain⟨w3,g,a3,hg1,hg3⟩:=Bs w2 a2 4 (by decide)
 obtain⟨c0,hc0⟩:∃c,o[0]? = some c:=⟨_,gq h0⟩;have hg0:=J7 o 0 c0 ho' hc0;have key:∀b',(∀{cf ρ st},lk "octets" ρ=some (.val (.bytes o))->iu cf ρ (.ife (.cmp .lt (.idx (.nm "octets") (.int 0)) (.int 3)) (.slc (.nm "octets") (.some (.int 1)) .none) (.nm "octets")) st=.ok (.bytes b') st)->b'.length<=o.length->cnt b'<=cnt o->ar5 w o:=λ b' h k1 k2=>
  pre a3 (L.2.2.2.2.2 g.toUInt8 b' k1) (C.2.2.2.2.2 _ b' k2) λ n=>su (n2 rfl) (su (no h3 rfl) (su (no h4 rfl) (su (no h5 rfl) (su (no h6 rfl) (jr (gk (mk (cu hg1 (by decide)) (dr (m:=4) rfl hg3)) (h rfl) (add (L.2.2.2.2.2 _ b' k1))) rfl)))))
 by_cases h7:c0.toNat<3
 ·exact key (o.drop 1) (λ h=>yu (jk (jz (gw h) rfl hg0) rfl (Vt (b:=3) h7)) (vf (dj h) (zj rfl) rfl (adx o 1 1 rfl ho' (by decide)))) (by rw[nq];exact Nat.sub_le _ _) (I6 o (n6 1))
 ·exact key o (λ h=>wg (jk (jz (gw h) rfl hg0) rfl (I9 (b:=3) h7)) (dj h)) (jf _) (jf _)
theorem refused(n:Nat)(d:List (String×V))(t:Ir)(h:Gq d t)(st:Store)(c:Exc)(hx:CT (n+91) "written" [.val (.obj (objOf t))] st=.exc c st):
 CT (n+92) "_law_is_refused" [.val (.dict d)] st=.ok (.bool true) st:=by
 rw[Og];refine(?_:Fin _ _ (dw _ _ Aj.body _ _));exact ahl (aha (gj (b_1 (v7 rfl (gj (b_1 (gw rfl) rfl) (Vg (n+87) d t h st))) rfl) hx) (J9 rfl):Is _ _) (jr rfl (zc mz))
theorem M8(x:String)(v:V):∀d:List (String×V),(put x (.val v) (d.map λ p=>(p.1,Ent.val p.2)))=(put x v d).map λ p=>(p.1,Ent.val p.2)
 |[]=>rfl
 |(y,w)::r=>by
  rw[je,Cm,Cm]
  by_cases h:x=y
  ·rw[bf h,bf h];rfl
  ·rw[bx h,bx h,je,M8 x v r]
theorem acw(x:String)(v:V):∀d:List (String×V),(put x v d).length<=d.length+1
 |[]=>jf _
 |(y,w)::r=>by
  rw[Cm]
  by_cases h:x=y
  ·rw[bf h];exact Nat.le_succ _
  ·rw[bx h];exact qj (acw x v r)
theorem acn(d:List (String×V)):((d.map λ p=>(p.1,Ent.val p.2)).map λ p=>(p.1,p.2.toV))=d:=by
 rw[List.map_map];have:((λ p:String×Ent=>(p.1,p.2.toV))∘λ p:String×V=>(p.1,Ent.val p.2))=id:=by funext p;rfl
 rw[this,List.map_id]
theorem a0q(j:Nat) (S:Store)(l:List V)(v:V)(h:S[j]? = some ⟨true,.list l⟩)(hl:l.length<=1000):Gd (.cell j) none v S=some (S.set j ⟨true,.list (l++[v])⟩):=by
 show(match(generalizing:=false) S[j]? with
  |some ⟨true,.list l⟩=>if l.length<=lim then some (S.set j ⟨true,.list (l++[v])⟩)else none
  | _=>none)=_
 rw[h];exact bf (ak hl (by decide))
noncomputable def awo:u9:=(.cons (.asg (.nm "law_other") (.mkd (.nm "law_tx")))
 (.cons (.asg (.idx "law_other" (.nm "law_name")) (.nm "law_worth"))
 (.cons (.app "law_found" none (.nm "law_other"))
 .nil)))
noncomputable def mV(p:String×V):V:=.tuple [.str p.1,p.2]
theorem Sy(j:Nat)(hj : 1<=j)(cf:CF)(can:Bool)(d:List (String×V))(hd:d.length<=900):∀(ms:List (String×V)) (S:Store)(found:List V)(ρ:Loc),S[j]? = some ⟨true,.list found⟩->found.length+ms.length<=100->
 lk "law_tx" ρ=some (.val (.dict d))->lk "law_found" ρ=some (.cell j)->
 ∃ρ' S',N6 cf can (.tup (.cons (.nm "law_name") (.cons (.nm "law_worth") .nil))) awo (ms.map mV) ρ S=.ok (.next ρ') S'/\
  lk "law_tx" ρ'=some (.val (.dict d))/\lk "law_found" ρ'=some (.cell j)/\S'.take 1=S.take 1/\S'[j]? = some ⟨true,.list (found++ms.map λ p=>.dict (put p.1 p.2 d))⟩
 |[],S,found,ρ,h1,_,h2,h3=>⟨ρ,S,rfl,h2,h3,rfl,h1.trans (by rw[List.map_nil,jo])⟩
 |(x,v)::ms,S,found,ρ,h1,hl,h2,h3=>by
  have hS:=(iw.mp h1).1;have g1:∀c:Cell,(S++[c])[j]? = some ⟨true,.list found⟩:=λ c=>by rw[List.getElem?_append_left hS];exact h1
  have hset:∀c y:Cell,((S++[c]).set j y)[j]? = some y:=λ c y=>List.getElem?_set_self (by rw[cg];exact cu hS (dz _ _))
  have htk:∀c y:Cell,((S++[c]).set j y).take 1=S.take 1:=λ c y=>by
   cases S with
   |nil=>exact nomatch hS
   |cons a r=>cases j with
    |zero=>exact nomatch hj
    |succ i=>rfl
  have hf:found.length<=1000:=ak (dz _ _) (ak hl (by decide))
  have hd1:=ak hd (by decide : 900<=1000)
  have hfz:=ap6 S true ((put x v d).map λ p=>(p.1,Ent.val p.2)) [];rw[acn]at hfz;have hsb:=V8 S (d.map λ p=>(p.1,Ent.val p.2)) x (.val v) [];rw[M8,bf (by rw[bw];exact hd1)]at hsb
  have k1:lk "law_tx" (put "law_other" (.cell S.length) (put "law_worth" (.val v) (put "law_name" (.val (.str x)) ρ)))=some (.val (.dict d)):=m6 (by decide) (m6 (by decide) (m6 (by decide) h2))
  have k2:lk "law_found" (put "law_other" (.cell S.length) (put "law_worth" (.val v) (put "law_name" (.val (.str x)) ρ)))=some (.cell j):=m6 (by decide) (m6 (by decide) (m6 (by decide) h3))
  obtain⟨ρ',S',e1,e2,e3,e4,e5⟩:=Sy j hj cf can d hd ms ((S++[(⟨false,CD.dict ((put x v d).map λ p=>(p.1,Ent.val p.2))⟩:Cell)]).set j (⟨true,CD.list (found++[V.dict (put x v d)])⟩:Cell)) (found++[V.dict (put x v d)]) _ (hset _ _) (ah2 hl) k1 k2;rw[jc]at e5;exact⟨ρ',S',Dh Td (Di rfl (aoq (dj (m6 (by decide) (m6 (by decide) h2))) hd1) rfl (Ih rfl (dj (m6 (by decide) Ce)) Ce (dj (m6 (by decide) (m6 (by decide) Ce))) hsb (K6 k2 (g1 _) (Nk Ce hfz) (a0q j _ found _ (g1 _) hf) (yd (Nu e1))))),e2,e3,e4.trans (htk _ _),e5⟩
noncomputable def menu:List (String×V):=[("kind",.int 3),("kind",.int (-1)),("chain",.int (-1)),("chain",.int (P2 256)),("nonce",.int (-1)),("nonce",.int (P2 64)),("limit",.int (-1)),("limit",.int (P2 64)),
 ("target",.int (-1)),("target",.int (P2 160)),("value",.int (-1)),("value",.int (P2 256)),("cap",.int (P2 256)),("signature",.none),("data",.str "ab"),
 ("access",.list [.tuple [.int (P2 160),.list []]]),("access",.list [.tuple [.int 1,.list [.int (-1)]]]),("access",.list [.tuple [.int 1,.list [.int (P2 256)]]])]
noncomputable def bump(q:Int):Int:=if q%2=0 then q+1 else q-1
theorem a0v(q:Nat):Cd .xor (.int (q:Int)) (.int 1)=some (.int (bump q)):=by
 show(if(0<=(q:Int)/\(1:Int)=1)then some (V.int (if(q:Int)%2=0 then(q:Int)+1 else q-1))else none)=_
 rw[bf ⟨by lia,rfl⟩];rfl
theorem ayf(w:Cell)(b:Bool)(l:List V)(r:Store):freeze (.cell 1) (w::⟨b,.list l⟩::r)=.ok (.list l) (w::⟨false,.list l⟩::r):=by
 simp[freeze,CD.toV]
theorem azd(j:Nat) (S:Store)(b:Bool)(l:List V)(h:S[j]? = some ⟨b,.list l⟩):freeze (.cell j) S=.ok (.list l) (S.set j ⟨false,.list l⟩):=by
 simp[freeze,h,CD.toV]
noncomputable def aht:Ex:=(.lst (.cons (.tup (.cons (.str "kind") (.cons (.int 3) .nil))) (.cons (.tup (.cons (.str "kind") (.cons (.neg (.int 1)) .nil))) (.cons (.tup (.cons (.str "chain") (.cons (.neg (.int 1)) .nil))) (.cons (.tup (.cons (.str "chain") (.cons (.bin .pow (.int 2) (.int 256)) .nil))) (.cons (.tup (.cons (.str "nonce") (.cons (.neg (.int 1)) .nil))) (.cons (.tup (.cons (.str "nonce") (.cons (.bin .pow (.int 2) (.int 64)) .nil))) (.cons (.tup (.cons (.str "limit") (.cons (.neg (.int 1)) .nil))) (.cons (.tup (.cons (.str "limit") (.cons (.bin .pow (.int 2) (.int 64)) .nil))) (.cons (.tup (.cons (.str "target") (.cons (.neg (.int 1)) .nil))) (.cons (.tup (.cons (.str "target") (.cons (.bin .pow (.int 2) (.int 160)) .nil))) (.cons (.tup (.cons (.str "value") (.cons (.neg (.int 1)) .nil))) (.cons (.tup (.cons (.str "value") (.cons (.bin .pow (.int 2) (.int 256)) .nil))) (.cons (.tup (.cons (.str "cap") (.cons (.bin .pow (.int 2) (.int 256)) .nil))) (.cons (.tup (.cons (.str "signature") (.cons .non .nil))) (.cons (.tup (.cons (.str "data") (.cons (.str "ab") .nil))) (.cons (.tup (.cons (.str "access") (.cons (.lst (.cons (.tup (.cons (.bin .pow (.int 2) (.int 160)) (.cons (.lst .nil) .nil))) .nil)) .nil))) (.cons (.tup (.cons (.str "access") (.cons (.lst (.cons (.tup (.cons (.int 1) (.cons (.lst (.cons (.neg (.int 1)) .nil)) .nil))) .nil)) .nil))) (.cons (.tup (.cons (.str "access") (.cons (.lst (.cons (.tup (.cons (.int 1) (.cons (.lst (.cons (.bin .pow (.int 2) (.int 256)) .nil)) .nil))) .nil)) .nil))) .nil)))))))))))))))))))
theorem ar0(cf:CF)(ρ:Loc)(st:Store):iu cf ρ aht st=.ok (.list (menu.map mV)) st:=by
 have p:∀{k v},Cd .pow (.int 2) (.int k)=some v->∀st,iu cf ρ (.bin .pow (.int 2) (.int k)) st=.ok v st:=λ h st=>gk rfl rfl h;have q:∀{x e v} st,iu cf ρ e st=.ok v st->iu cf ρ (.tup (.cons (.str x) (.cons e .nil))) st=.ok (mV (x,v)) st:=λ st h=>q8 (s_1 rfl (s_1 h rfl)) (aj rfl);have r:∀{e g u v} st,iu cf ρ e st=.ok u st->iu cf ρ g st=.ok v st->iu cf ρ (.lst (.cons (.tup (.cons e (.cons g .nil))) .nil)) st=.ok (.list [.tuple [u,v]]) st:=λ st h k=>qt (s_1 (q8 (s_1 h (s_1 k rfl)) (aj rfl)) rfl) (aj rfl);have l1:∀{e v} st,iu cf ρ e st=.ok v st->iu cf ρ (.lst (.cons e .nil)) st=.ok (.list [v]) st:=λ st h=>qt (s_1 h rfl) (aj rfl);exact qt (s_1 (q _ rfl) (s_1 (q _ rfl) (s_1 (q _ rfl) (s_1 (q _ (p Dm _)) (s_1 (q _ rfl) (s_1 (q _ (p S5 _)) (s_1 (q _ rfl) (s_1 (q _ (p S5 _)) (s_1 (q _ rfl) (s_1 (q _ (p aa3 _)) (s_1 (q _ rfl) (s_1 (q _ (p Dm _)) (s_1 (q _ (p Dm _)) (s_1 (q _ rfl) (s_1 (q _ rfl) (s_1 (q _ (r _ (p aa3 _) rfl)) (s_1 (q _ (r _ rfl (l1 _ rfl))) (s_1 (q _ (r _ rfl (l1 _ (p Dm _)))) rfl)))))))))))))))))) (aj rfl)
theorem aav:Cu.body=(.cons (.asg (.nm "law_menu") aht)
 (.cons (.asg (.nm "law_found") (.lst .nil))
 (.cons (.for (.tup (.cons (.nm "law_name") (.cons (.nm "law_worth") .nil))) (.nm "law_menu") awo)
 (.cons (.asg (.nm "law_other") (.mkd (.nm "law_tx")))
 (.cons (.asg (.tup (.cons (.idx "law_other" (.str "kind")) (.cons (.idx "law_other" (.str "priority")) .nil))) (.tup (.cons (.bin .mod (.idx (.nm "law_tx") (.str "kind")) (.int 2)) (.cons (.bin .xor (.idx (.nm "law_tx") (.str "cap")) (.int 1)) .nil))))
 (.cons (.ret (.bin .add (.nm "law_found") (.lst (.cons (.nm "law_other") .nil))))
 .nil)))))):=rfl
theorem abb(n:Nat)(t:Tx)(d:List (String×V))(h:Gq d t.raw)(hd:d.length=11)(w:Cell):
 CT (n+1) "_law_spoiled" [.val (.dict d)] [w]=.ok (.list ((menu.map λ p=>V.dict (put p.1 p.2 d))++[.dict (put "priority" (.int (bump t.cap)) (put "kind" (.int ((t.kind:Int)%2)) d))])) [w]:=by
 rw[Tr];have d1:lk "kind" d=some (.int (t.kind:Nat)):=h.kind;have d2:lk "cap" d=some (.int (t.cap:Nat)):=h.cap;obtain⟨ρ',S',e1,e2,e3,e4,e5⟩:=Sy 2 (by decide) (CT n) (decide (4<=n)) d (by lia) menu [w,⟨false,.list (menu.map mV)⟩,⟨true,.list []⟩] [] [("law_tx",.val (.dict d)),("law_menu",.cell 1),("law_found",.cell 2)] rfl (by decide) rfl rfl
 have hS : 3<=S'.length:=by
  rcases Nat.lt_or_ge 2 S'.length with h|h
  ·exact h
  ·rw[List.getElem?_eq_none h]at e5;cases e5
 refine(?_:Fin 1 _ (dw _ _ _ _ _));rw[aav];have ex:iu (CT n) ρ' (.mkd (.nm "law_tx")) S'=.ok (.dict d) S':=aoq (dj e2) (by lia)
 have o1:lk "law_other" (put "law_other" (.cell S'.length) ρ')=some (.cell S'.length):=Ce;refine Di rfl (ar0 _ _ _) rfl (Di rfl rfl rfl (Dg (Nk (i:=1) rfl (ayf _ _ _ _)) rfl e1 (Bu (Di rfl ex rfl ?_))));have p1:=acw "kind" (.int ((t.kind:Int)%2)) d;refine z7 (q8 (s_1 (gk (jz (gw (m6 (by decide) e2)) rfl d1) rfl rfl) (s_1 (gk (jz (gw (m6 (by decide) e2)) rfl d2) rfl (a0v _)) rfl)) (aj rfl)) (aas o1 rfl ((V8 _ _ _ _ _).trans (bf (by rw[bw];lia))) rfl ((V8 _ _ _ _ _).trans (bf (by rw[M8,bw];lia)))) ?_
 rw[M8,M8]
 generalize put "priority" (.int (bump t.cap)) (put "kind" (.int ((t.kind:Int)%2)) d)=dd
 have g2:∀c:Cell,(S'++[c])[2]? = some ⟨true,.list (menu.map λ p=>V.dict (put p.1 p.2 d))⟩:=λ c=>by
  rw[List.getElem?_append_left (by lia)];exact e5
 have hfz:=ap6 (S'.set 2 ⟨false,.list (menu.map λ p=>V.dict (put p.1 p.2 d))⟩) true (dd.map λ p=>(p.1,Ent.val p.2)) [];rw[acn,List.length_set,<-List.set_append_left 2 _ (by lia)]at hfz
 refine jr (gk (Nk (m6 (by decide) e3) (azd 2 _ _ _ (g2 _))) (qt (s_1 (Nk o1 hfz) rfl) (aj rfl)) (Vo (aj rfl))) ?_
 show R.ok _ (List.take 1 _)=_;have:S'.take 1=[w]:=e4;cases S' with
 |nil=>cases hS
 |cons a r=>exact au _ this
noncomputable def Ref(d:List (String×V)):Prop:=∃t c,Gq d t/\∀n st,CT (n+91) "written" [.val (.obj (objOf t))] st=.exc c st
theorem an6(d:List (String×V))(t:Ir)(h:Gq d t)(hf:¬Cj t):Ref d:=⟨t,.rlp,h,λ n st=>Ug (n+1) t hf st⟩
theorem Xv(k:Nat):¬inR (-1) k:=λ h=>by have:=h.1;lia
theorem Ue(k:Nat):¬inR (P2 k) k:=λ h=>by have:=h.2;lia
theorem abo{d:List (String×V)}{t:Ir}(h:Gq d t)(v:Int):Gq (put "kind" (.int v) d) { t with kind:=v }:=⟨Ce,m6 (x:="chain") (y:="kind") (by decide) h.chain,m6 (x:="nonce") (y:="kind") (by decide) h.nonce,m6 (x:="priority") (y:="kind") (by decide) h.priority,m6 (x:="cap") (y:="kind") (by decide) h.cap,m6 (x:="limit") (y:="kind") (by decide) h.limit,m6 (x:="target") (y:="kind") (by decide) h.target,m6 (x:="value") (y:="kind") (by decide) h.value,m6 (x:="data") (y:="kind") (by decide) h.data,m6 (x:="access") (y:="kind") (by decide) h.access,m6 (x:="signature") (y:="kind") (by decide) h.sig⟩
theorem ady{d:List (String×V)}{t:Ir}(h:Gq d t)(v:Int):Gq (put "chain" (.int v) d) { t with chain:=v }:=⟨m6 (x:="kind") (y:="chain") (by decide) h.kind,Ce,m6 (x:="nonce") (y:="chain") (by decide) h.nonce,m6 (x:="priority") (y:="chain") (by decide) h.priority,m6 (x:="cap") (y:="chain") (by decide) h.cap,m6 (x:="limit") (y:="chain") (by decide) h.limit,m6 (x:="target") (y:="chain") (by decide) h.target,m6 (x:="value") (y:="chain") (by decide) h.value,m6 (x:="data") (y:="chain") (by decide) h.data,m6 (x:="access") (y:="chain") (by decide) h.access,m6 (x:="signature") (y:="chain") (by decide) h.sig⟩
theorem adq{d:List (String×V)}{t:Ir}(h:Gq d t)(v:Int):Gq (put "nonce" (.int v) d) { t with nonce:=v }:=⟨m6 (x:="kind") (y:="nonce") (by decide) h.kind,m6 (x:="chain") (y:="nonce") (by decide) h.chain,Ce,m6 (x:="priority") (y:="nonce") (by decide) h.priority,m6 (x:="cap") (y:="nonce") (by decide) h.cap,m6 (x:="limit") (y:="nonce") (by decide) h.limit,m6 (x:="target") (y:="nonce") (by decide) h.target,m6 (x:="value") (y:="nonce") (by decide) h.value,m6 (x:="data") (y:="nonce") (by decide) h.data,m6 (x:="access") (y:="nonce") (by decide) h.access,m6 (x:="signature") (y:="nonce") (by decide) h.sig⟩
theorem awl{d:List (String×V)}{t:Ir}(h:Gq d t)(v:Int):Gq (put "cap" (.int v) d) { t with cap:=v }:=⟨m6 (x:="kind") (y:="cap") (by decide) h.kind,m6 (x:="chain") (y:="cap") (by decide) h.chain,m6 (x:="nonce") (y:="cap") (by decide) h.nonce,m6 (x:="priority") (y:="cap") (by decide) h.priority,Ce,m6 (x:="limit") (y:="cap") (by decide) h.limit,m6 (x:="target") (y:="cap") (by decide) h.target,m6 (x:="value") (y:="cap") (by decide) h.value,m6 (x:="data") (y:="cap") (by decide) h.data,m6 (x:="access") (y:="cap") (by decide) h.access,m6 (x:="signature") (y:="cap") (by decide) h.sig⟩
theorem adb{d:List (String×V)}{t:Ir}(h:Gq d t)(v:Int):Gq (put "limit" (.int v) d) { t with limit:=v }:=⟨m6 (x:="kind") (y:="limit") (by decide) h.kind,m6 (x:="chain") (y:="limit") (by decide) h.chain,m6 (x:="nonce") (y:="limit") (by decide) h.nonce,m6 (x:="priority") (y:="limit") (by decide) h.priority,m6 (x:="cap") (y:="limit") (by decide) h.cap,Ce,m6 (x:="target") (y:="limit") (by decide) h.target,m6 (x:="value") (y:="limit") (by decide) h.value,m6 (x:="data") (y:="limit") (by decide) h.data,m6 (x:="access") (y:="limit") (by decide) h.access,m6 (x:="signature") (y:="limit") (by decide) h.sig⟩
theorem adl{d:List (String×V)}{t:Ir}(h:Gq d t)(v:Int):Gq (put "value" (.int v) d) { t with value:=v }:=⟨m6 (x:="kind") (y:="value") (by decide) h.kind,m6 (x:="chain") (y:="value") (by decide) h.chain,m6 (x:="nonce") (y:="value") (by decide) h.nonce,m6 (x:="priority") (y:="value") (by decide) h.priority,m6 (x:="cap") (y:="value") (by decide) h.cap,m6 (x:="limit") (y:="value") (by decide) h.limit,m6 (x:="target") (y:="value") (by decide) h.target,Ce,m6 (x:="data") (y:="value") (by decide) h.data,m6 (x:="access") (y:="value") (by decide) h.access,m6 (x:="signature") (y:="value") (by decide) h.sig⟩
theorem aa2{d:List (String×V)}{t:Ir}(h:Gq d t)(v:Int):Gq (put "priority" (.int v) d) { t with priority:=v }:=⟨m6 (x:="kind") (y:="priority") (by decide) h.kind,m6 (x:="chain") (y:="priority") (by decide) h.chain,m6 (x:="nonce") (y:="priority") (by decide) h.nonce,Ce,m6 (x:="cap") (y:="priority") (by decide) h.cap,m6 (x:="limit") (y:="priority") (by decide) h.limit,m6 (x:="target") (y:="priority") (by decide) h.target,m6 (x:="value") (y:="priority") (by decide) h.value,m6 (x:="data") (y:="priority") (by decide) h.data,m6 (x:="access") (y:="priority") (by decide) h.access,m6 (x:="signature") (y:="priority") (by decide) h.sig⟩
theorem Xk{d:List (String×V)}{t:Ir}(h:Gq d t)(v:Int):Gq (put "target" (.int v) d) { t with target:=some v }:=⟨m6 (x:="kind") (y:="target") (by decide) h.kind,m6 (x:="chain") (y:="target") (by decide) h.chain,m6 (x:="nonce") (y:="target") (by decide) h.nonce,m6 (x:="priority") (y:="target") (by decide) h.priority,m6 (x:="cap") (y:="target") (by decide) h.cap,m6 (x:="limit") (y:="target") (by decide) h.limit,Ce,m6 (x:="value") (y:="target") (by decide) h.value,m6 (x:="data") (y:="target") (by decide) h.data,m6 (x:="access") (y:="target") (by decide) h.access,m6 (x:="signature") (y:="target") (by decide) h.sig⟩
theorem apx{d:List (String×V)}{t:Ir}(h:Gq d t)(v:V):Gq (put "data" v d) { t with data:=v }:=⟨m6 (x:="kind") (y:="data") (by decide) h.kind,m6 (x:="chain") (y:="data") (by decide) h.chain,m6 (x:="nonce") (y:="data") (by decide) h.nonce,m6 (x:="priority") (y:="data") (by decide) h.priority,m6 (x:="cap") (y:="data") (by decide) h.cap,m6 (x:="limit") (y:="data") (by decide) h.limit,m6 (x:="target") (y:="data") (by decide) h.target,m6 (x:="value") (y:="data") (by decide) h.value,Ce,m6 (x:="access") (y:="data") (by decide) h.access,m6 (x:="signature") (y:="data") (by decide) h.sig⟩
theorem ayn{d:List (String×V)}{t:Ir}(h:Gq d t):Gq (put "signature" .none d) { t with sig:=none }:=⟨m6 (x:="kind") (y:="signature") (by decide) h.kind,m6 (x:="chain") (y:="signature") (by decide) h.chain,m6 (x:="nonce") (y:="signature") (by decide) h.nonce,m6 (x:="priority") (y:="signature") (by decide) h.priority,m6 (x:="cap") (y:="signature") (by decide) h.cap,m6 (x:="limit") (y:="signature") (by decide) h.limit,m6 (x:="target") (y:="signature") (by decide) h.target,m6 (x:="value") (y:="signature") (by decide) h.value,m6 (x:="data") (y:="signature") (by decide) h.data,m6 (x:="access") (y:="signature") (by decide) h.access,Ce⟩
theorem agh{d:List (String×V)}{t:Ir}(h:Gq d t)(v:List (Int×List Int)):Gq (put "access" (.list (v.map Gj)) d) { t with access:=v }:=⟨m6 (x:="kind") (y:="access") (by decide) h.kind,m6 (x:="chain") (y:="access") (by decide) h.chain,m6 (x:="nonce") (y:="access") (by decide) h.nonce,m6 (x:="priority") (y:="access") (by decide) h.priority,m6 (x:="cap") (y:="access") (by decide) h.cap,m6 (x:="limit") (y:="access") (by decide) h.limit,m6 (x:="target") (y:="access") (by decide) h.target,m6 (x:="value") (y:="access") (by decide) h.value,m6 (x:="data") (y:="access") (by decide) h.data,Ce,m6 (x:="signature") (y:="access") (by decide) h.sig⟩
theorem fm{α : Type}{P : α->Prop}{a : α}{l:List α}(h:P a)(k:∀x∈l,P x):∀x∈a::l,P x:=dg.mpr ⟨h,k⟩
theorem air(t:Tx)(hv:Valid t)(hs:Sm t)(d:List (String×V))(h:Gq d t.raw):∀p∈menu,Ref (put p.1 p.2 d):=by
 have x:∀{d':List (String×V)}{t':Ir},Gq d' t'->¬Cj t'->Ref d':=λ h k=>an6 _ _ h k;have a:∀X,X≠[]->(∀n st,CT (n+5) "access_item" [.val (.list (X.map Gj))] st=.exc .rlp st)->Ref (put "access" (.list (X.map Gj)) d):=λ X h1 h2=>⟨t.rawa X,.rlp,agh h X,λ n st=>X7 (n+1) t hv X h1 h2 st⟩;refine fm (x (abo h 3) λ h=>by have:=h.kind;simp at this) <|fm (x (abo h (-1)) λ h=>by have:=h.kind;simp at this) <|fm (x (ady h (-1)) λ h=>Xv _ h.chain) <|fm (x (ady h (P2 256)) λ h=>Ue _ h.chain) <|
  fm (x (adq h (-1)) λ h=>Xv _ h.nonce) <|fm (x (adq h (P2 64)) λ h=>Ue _ h.nonce) <|fm (x (adb h (-1)) λ h=>Xv _ h.limit) <|fm (x (adb h (P2 64)) λ h=>Ue _ h.limit) <|
  fm (x (Xk h (-1)) λ h=>Xv _ (h.target _ rfl)) <|fm (x (Xk h (P2 160)) λ h=>Ue _ (h.target _ rfl)) <|fm (x (adl h (-1)) λ h=>Xv _ h.value) <|fm (x (adl h (P2 256)) λ h=>Ue _ h.value) <|
  fm (x (awl h (P2 256)) λ h=>Ue _ h.cap) <|fm ⟨t.rawd (.bytes t.data) none,.tx,ayn h,λ n st=>Tf (n+1) t hv hs _ st⟩ <|fm ⟨t.rawd (.str "ab") t.sg,.rlp,apx h _,λ n st=>Yv (n+1) t hv hs _ st⟩ <|
  fm (a _ (by decide) atc) <|fm (a _ (by decide) apn) <|fm (a _ (by decide) atm) λ _ h=>nomatch h
theorem ag0(t:Tx)(hv:Valid t)(d:List (String×V))(h:Gq d t.raw):Ref (put "priority" (.int (bump t.cap)) (put "kind" (.int ((t.kind:Int)%2)) d)):=by
 refine an6 _ _ (aa2 (abo h ((t.kind:Int)%2)) (bump t.cap)) (λ h=>?_);have:=h.price (by show ¬((t.kind:Int)%2=2);lia)
 have e:bump t.cap=(t.cap:Int):=this;unfold bump at e
 split at e<;>lia
theorem all_true:∀l:List V,(∀v∈l,v=.bool true)->boolsOf l=some (List.replicate l.length true)
 |[],_=>rfl
 |v::r,h=>by
  have:=h v (by simp)
  subst this;rw[boolsOf,all_true r (λ w hw=>h w (by simp[hw]))];rfl
theorem aku(n:Nat)(b:List UInt8)(hb:b.length<=800)(hc:cnt b<=590)(st:Store):
 CT (n+619) "_law_heard" [.val (.bytes b)] st=.ok (hV' (rd 600 b)) st/\CT (n+619) "_law_told" [.val (.bytes b)] st=.ok (fV (rd 600 b)) st/\
 Qo (fV (rd 600 b)) (hV' (rd 600 b))=some false/\
 (rd 600 b=none\/∃t,rd 600 b=some t/\CT (n+619) "_law_made" [.val (.dict (Vr t.raw))] st=.ok (.obj (objOf t.raw)) st/\CT (n+619) "written" [.val (.obj (objOf t.raw))] st=.ok (.bytes b) st):=by
 refine⟨W0 (n+609) 600 b (by lia) (by lia) (by lia) st,adp (n+518) 600 b (by lia) (by lia) st,?_,?_⟩
 ·cases h:rd 600 b with
  |none=>rfl
  |some t=>exact ah4 t.raw (Vr t.raw) (aho t.raw) (Rr t) rfl
 ·cases h:rd 600 b with
  |none=>exact Or.inl rfl
  |some t=>
   right
   obtain⟨hv,ho⟩:=atq h;have hlen:(enc (Kc t)).length<=900:=by
    rw[<-ho]at hb;unfold Ez at hb;rw[cg]at hb;lia
   refine⟨t,rfl,Vg (n+615) _ t.raw (aho t.raw) st,?_⟩;rw[<-ho];exact Ry (n+529) t hv (auj hv hlen) st
noncomputable def an2:u9:=(.cons (.asg (.nm "law_bent") (.call "_law_bent" (.cons (.nm "well") (.cons (.nm "octets") .nil))))
 (.cons (.asg (.nm "law_due") (.call "_law_heard" (.cons (.nm "law_bent") .nil)))
 (.cons (.ifs (.orE (.cons (.cmp .ne (.call "_law_told" (.cons (.nm "law_bent") .nil)) (.nm "law_due")) (.cons (.andE (.cons (.cmp .isn (.nm "law_due") .non) (.cons (.cmp .ne (.call "written" (.cons (.call "_law_made" (.cons (.nm "law_due") .nil)) .nil)) (.nm "law_bent")) .nil))) .nil))) (.cons (.ret (.boo false))
  .nil) .nil)
 .nil)))
theorem aqf(b:List UInt8):xg .ne (.bytes b) (.bytes b)=some false:=(au8 b b).trans (by rw[fu rfl];rfl)
theorem W7(w:Cell)(hw:yt w)(o:List UInt8)(h0 : 0<o.length)(ho:o.length<=790)(hc:cnt o<=589):∃w',yt w'/\∀(n:Nat)(can:Bool)(ρ:Loc),lk "well" ρ=some (.cell 0)->lk "octets" ρ=some (.val (.bytes o))->
 ∃ρ',dw (CT (n+619)) can an2 ρ [w]=.ok (.next ρ') [w']/\lk "well" ρ'=some (.cell 0)/\lk "octets" ρ'=some (.val (.bytes o))/\lk "law_tx" ρ'=lk "law_tx" ρ:=by
 obtain⟨w',b,a1,a2,a3,a4⟩:=al9 w hw o h0 (ak ho (by decide))
 refine⟨w',a1,λ n can ρ h1 h2=>?_⟩;obtain⟨b1,b2,b3,b4⟩:=aku n b (ak a2 (ak (jg ho 1) (by decide))) (ak a3 (jg hc 1)) [w']
 refine⟨put "law_due" (.val (hV' (rd 600 b))) (put "law_bent" (.val (.bytes b)) ρ),?_,m6 (by decide) (m6 (by decide) h1),m6 (by decide) (m6 (by decide) h2),(lkp ..).trans ((bx (by decide)).trans ((lkp ..).trans (bx (by decide))))⟩
 refine(?_:Is _ (dw _ _ an2 _ _));refine qb rfl (gj (b_1 (gw h1) (b_1 (gw h2) rfl)) (a4 (n+615))) (qb rfl (gj (b_1 (gw Ce) rfl) b1) ?_);refine su (Dn (c:=false) (d:=false) (jk (gj (b_1 (gw (m6 (by decide) Ce)) rfl) b2) (dj Ce) b3) ?_) (yd (J9 rfl))
 rcases b4 with b4|⟨t,b4,b5,b6⟩
 ·exact Dl (c:=false) (d:=false) (jk (dj Ce) rfl (by rw[b4];rfl)) λ h=>nomatch h
 ·exact Km (c:=true) (d:=false) (jk (dj Ce) rfl (by rw[b4];rfl)) (jk (gj (b_1 (v7 rfl (gj (b_1 (gw Ce) rfl) (by rw[b4];exact b5))) rfl) b6) (dj (m6 (by decide) Ce)) (aqf b))
theorem axb{cf:CF}{ρ:Loc}{st st':Store}{e:Ex}{l:List V}(h:iu cf ρ e st=.ok (.list l) st')(hl:l.length<=1000000)(ht:∀v∈l,v=.bool true):iu cf ρ (.all e) st=.ok (.bool true) st':=by
 rw[axe,h,mq,aqn,all_true l ht];refine(bf hl).trans (au (λ b:Bool=>R.ok (V.bool b) st') ?_);rw[List.all_replicate];split<;>rfl
theorem ah1(n:Nat)(zs:List Int)(hi:zs.length<=63):∃st,CT (n+620) "law" [.val (.list (zs.map .int))] []=.ok (.bool true) st:=by
 have hw0:yt ⟨true,.list [.list ((zs.take 60).map λ (x:Int)=>V.int (x%2147483647)),.int 0,.int 1]⟩:=by
  refine⟨(zs.take 60).map λ x=>(x%2147483647).toNat,0,1,?_,by rw[bw];exact List.length_take_le _ _⟩
  rw[List.map_map];exact au (λ l=>(⟨true,.list [.list l,.int 0,.int 1]⟩:Cell)) (List.map_congr_left λ x _=>au V.int (Int.toNat_of_nonneg (Int.emod_nonneg x (by decide))).symm)
 obtain⟨w1,t,a1,ht,a3⟩:=af4 _ hw0;have hv:=ht.valid;have hits:=adw ht;have hsm:=auj hv (ak hits (by decide))
 have hlen:=ahc ht;have hcnt:=ai6 ht;have hpos : 0<(Ez t).length:=by
  unfold Ez;rw[cg];exact cu (V9 (Kc t)) (iy _ _)
 obtain⟨w2,b1,b2⟩:=W7 w1 a1 (Ez t) hpos (ak hlen (by decide)) (ak hcnt (by decide))
 obtain⟨w3,c1,c2⟩:=W7 w2 b1 (Ez t) hpos (ak hlen (by decide)) (ak hcnt (by decide))
 have hD:=aj1 t;have hrd:=aq6 (m:=600) hv (by decide) (ak hits (by decide))
 have htold:=adp (n+518) 600 (Ez t) (ak hlen (by decide)) (fj hcnt (by decide)) [w1]
 have hheard:=W0 (n+609) 600 (Ez t) (iy 600 (n+17)) (ak hlen (by decide)) (fj hcnt (by decide)) [w1]
 rw[hrd]at htold hheard;obtain⟨ρ1,f1,f2,f3,f4⟩:=b2 n (decide (4<=n+619)) (put "turn" (.val (.int 0)) [("script",.val (.list (zs.map .int))),("well",.cell 0),("law_tx",.val (.dict (dOf t))),("law_one",.val (.obj (objOf t.raw))),("octets",.val (.bytes (Ez t)))]) rfl rfl;obtain⟨ρ2,g1,g2,g3,g4⟩:=c2 n (decide (4<=n+619)) (put "turn" (.val (.int 1)) ρ1) (m6 (by decide) f2) (m6 (by decide) f3)
 have htx:lk "law_tx" ρ2=some (.val (.dict (dOf t))):=g4.trans ((lkp ..).trans ((bx (by decide)).trans f4))
 have h60:wk (.list (zs.map .int)) none (some (.int 60))=some (.list ((zs.take 60).map .int)):=by
  rw[List.map_take,<-aj5];exact bf (by rw[bw];exact ak hi (by decide))
 have l60:∀f:Int->V,((zs.take 60).map f).length<=1000000:=λ f=>by
  rw[bw];exact ak (List.length_take_le _ _) (by decide)
 have hre:∀v∈(menu.map λ (p:String×V)=>V.dict (put p.1 p.2 (dOf t)))++[V.dict (put "priority" (.int (bump t.cap)) (put "kind" (.int ((t.kind:Int)%2)) (dOf t)))],∀st,CT (n+619) "_law_is_refused" [.val v] st=.ok (.bool true) st:=by
  have key:∀d,Ref d->∀st,CT (n+619) "_law_is_refused" [.val (.dict d)] st=.ok (.bool true) st:=by
   rintro d ⟨t',c,h1,h2⟩ st;exact refused (n+527) d t' h1 st c (h2 (n+527) st)
  refine λ v h=>(j4.mp h).elim (λ h=>?_) λ h=>?_
  ·obtain⟨p,hp,rfl⟩:=kj.1 h;exact key _ (air t hv hsm (dOf t) hD p hp)
  ·rw[uo.mp h];exact key _ (ag0 t hv (dOf t) hD)
 refine⟨[],?_⟩;rw[ax5];refine(?_:Fin ([]:Store).length _ (dw _ _ Qz.body _ _));refine Di rfl (qt (s_1 (Dp (vf (dj rfl) rfl rfl h60) (Ed (l60 _)) (Ab _ _ _ _ _ V.int (λ (x:Int)=>V.int (x%2147483647)) _ λ x _=>rfl) (l60 _)) rfl) (aj rfl)) rfl ?_;refine qb rfl (gj (b_1 (gw rfl) rfl) (a3 (n+614))) ?_;refine z7 (q8 (s_1 (gj (b_1 (gw rfl) rfl) (Vg (n+615) (dOf t) t.raw hD _)) (s_1 (gj (b_1 (gw rfl) rfl) (Rz (n+609) t hv hsm (dOf t) hD _)) rfl)) (aj rfl)) Td ?_;refine su (Dn (c:=false) (d:=false) (jk (gj (b_1 (gw rfl) rfl) (abv (n+529) t hv hsm _)) (gj (b_1 (gw rfl) rfl) (Qq (n+609) t hv hsm (dOf t) hD _)) (aqf _)) (jk (gj (b_1 (gw rfl) rfl) (Ry (n+529) t hv hsm _)) (dj rfl) (aqf _))) ?_;refine su (Dn (c:=false) (d:=false) (jk (gj (b_1 (gw rfl) rfl) htold) (dj rfl) (ah4 t.raw (dOf t) hD (Rr t) rfl)) (jk (gj (b_1 (gw rfl) rfl) hheard) (dj rfl) (au6 t.raw (dOf t) hD (Rr t) rfl))) ?_;refine Dg (v:=.list [.int 0,.int 1]) (Zh rfl rfl) rfl (Dh rfl ?_) (Bu (ρ:=ρ2) (st:=[w3]) (jr (axb (Dp (gj (b_1 (gw htx) rfl) (abb (n+618) t (dOf t) hD rfl w3)) (Ed (aj rfl)) (ad4 _ _ _ _ _ (λ _=>V.bool true) _ λ v h=>gj rfl (hre v h _)) (aj rfl)) (aj rfl) λ v h=>?_) (Bo (st:=[]))))
 ·refine(au (Fr _ _ _ _ _ _) f1).mpr (Nu (Dh rfl ((au (Fr _ _ _ _ _ _) g1).mpr (Nu rfl))))
 ·obtain⟨_,_,rfl⟩:=kj.1 h;rfl
end X
end Mine.Internal
set_option maxRecDepth 100000
section
open PySem PySem.W PyProof.Rows PySem.Calls
namespace Mine.Internal
noncomputable def Xi:Obj:={ cls:=.none,data:=.freed }
noncomputable def mask(h:Heap)(p:Addr->Bool):Heap:=⟨h.objs.mapIdx λ i o=>if p i then o else Xi,h.life⟩
theorem Ca(h:Heap)(p:Addr->Bool)(a:Addr):(mask h p).get? a=if p a then h.get? a else none:=by
 unfold mask Heap.get?;simp only[Array.getElem?_mapIdx];cases e:h.objs[a]? with
 |none=>simp
 |some o=>
  by_cases hp:p a=true
  ·simp[hp]
  ·simp[hp,Xi]
theorem wj{h:Heap}{p:Addr->Bool}{a:Addr}{o:Obj}:(mask h p).get? a=some o↔p a=true/\h.get? a=some o:=by
 rw[Ca]
 by_cases hp:p a=true<;>simp[hp]
theorem lu(h:Heap):h.StaysIn h:=λ _ _ e=>e
theorem rz{a b c:Heap}(x:a.StaysIn b)(y:b.StaysIn c):a.StaysIn c:=λ _ _ e=>y _ _ (x _ _ e)
theorem Ku(h:Heap)(p:Addr->Bool):(mask h p).StaysIn h:=λ _ _ e=>(wj.mp e).2
theorem bh{α : Type}{a : α}{p:Prop}(h:(none:Option α)=some a):p:=nomatch h
theorem o7{α : Type}{q:Prop}[Decidable q]{a b : α}(h:(if q then some a else none)=some b):q/\a=b:=by
 by_cases k:q
 ·rw[bf k]at h;exact⟨k,ao h⟩
 ·rw[bx k]at h;exact bh h
variable (prog:Program)(w:World) (C:Addr)
mutual
inductive Rep:Heap->Value->V->Prop
 |none (B):Rep B Value.none V.none
 |bool (B) (b:Bool):Rep B (Value.bool b) (V.bool b)
 |int (B) (i:Int) (t:Tok):Rep B (Value.int i t) (V.int i)
 |str (B) (x:String) (t:Tok):Rep B (Value.str (Str.ofString x) t) (V.str x)
 |bytes (B) (l:List UInt8) (t:Tok):Rep B (Value.bytes l.toArray t) (V.bytes l)
 |tuple{B:Heap}{a:Addr}{vs:List Value}{n:Nat}{ds:List V}:
  B.get? a=some { cls:=.type "tuple",data:=.seq vs.toArray n }->p8 B vs ds->Rep B (Value.ref a) (V.tuple ds)
 |list{B:Heap}{a:Addr}{vs:List Value}{n:Nat}{ds:List V}:
  B.get? a=some { cls:=.type "list",data:=.seq vs.toArray n }->p8 B vs ds->Rep B (Value.ref a) (V.list ds)
 |dict{B:Heap}{a:Addr}{kvs:List (Str×Value)}{ds:List (String×V)}:
  (a==sysModules)=false->B.DictOf (strKind prog w) a kvs->Dr B kvs ds->Rep B (Value.ref a) (V.dict ds)
 |obj{B:Heap}{x dx:Addr}{es:List DictEntry}{n:Nat}{ds:List (String×V)}:
  B.get? x=some (instObj C dx)->B.get? dx=some (dictOf es n)->Df B es ds->Rep B (Value.ref x) (V.obj ds)
inductive p8:Heap->List Value->List V->Prop
 |nil (B):p8 B [] []
 |cons{B:Heap}{v:Value}{vs:List Value}{d:V}{ds:List V}:Rep B v d->p8 B vs ds->p8 B (v::vs) (d::ds)
inductive Dr:Heap->List (Str×Value)->List (String×V)->Prop
 |nil (B):Dr B [] []
 |cons{B:Heap}{k:String}{v:Value}{kvs:List (Str×Value)}{d:V}{ds:List (String×V)}:
  Rep B v d->Dr B kvs ds->Dr B ((Str.ofString k,v)::kvs) ((k,d)::ds)
inductive Df:Heap->List DictEntry->List (String×V)->Prop
 |nil (B):Df B [] []
 |cons{B:Heap}{k:String}{t:Tok}{v:Value}{es:List DictEntry}{d:V}{ds:List (String×V)}:
  Rep B v d->Df B es ds->Df B (⟨PyData.keyHash w.params (Str.ofString k),.str (Str.ofString k) t,v⟩::es) ((k,d)::ds)
end
theorem s8{B B':Heap}(st:B.StaysIn B'){a:Addr}{kvs:List (Str×Value)}(h:B.DictOf (strKind prog w) a kvs):B'.DictOf (strKind prog w) a kvs:=by
 obtain⟨o,es,ep,ho,r⟩:=h;exact⟨o,es,ep,st _ _ ho,r⟩
variable {prog w C}
theorem Rep.mono{B B':Heap}(st:B.StaysIn B'){v:Value}{d:V}(h:Rep prog w C B v d):Rep prog w C B' v d:=
 Rep.rec (motive_1:=λ v d _=>Rep prog w C B' v d) (motive_2:=λ v d _=>p8 prog w C B' v d) (motive_3:=λ v d _=>Dr prog w C B' v d) (motive_4:=λ v d _=>Df prog w C B' v d)
  (.none _) (λ b=>.bool _ b) (λ i t=>.int _ i t) (λ x t=>.str _ x t) (λ l t=>.bytes _ l t)
  (λ h _ ih=>.tuple (st _ _ h) ih) (λ h _ ih=>.list (st _ _ h) ih) (λ n h _ ih=>.dict n (s8 prog w st h) ih) (λ h k _ ih=>.obj (st _ _ h) (st _ _ k) ih)
  (.nil _) (λ _ _ i j=>.cons i j) (.nil _) (λ _ _ i j=>.cons i j) (.nil _) (λ _ _ i j=>.cons i j) h
theorem p8.mono{B B':Heap}(st:B.StaysIn B'){v:List Value}{d:List V}(h:p8 prog w C B v d):p8 prog w C B' v d:=
 p8.rec (motive_1:=λ v d _=>Rep prog w C B' v d) (motive_2:=λ v d _=>p8 prog w C B' v d) (motive_3:=λ v d _=>Dr prog w C B' v d) (motive_4:=λ v d _=>Df prog w C B' v d)
  (.none _) (λ b=>.bool _ b) (λ i t=>.int _ i t) (λ x t=>.str _ x t) (λ l t=>.bytes _ l t)
  (λ h _ ih=>.tuple (st _ _ h) ih) (λ h _ ih=>.list (st _ _ h) ih) (λ n h _ ih=>.dict n (s8 prog w st h) ih) (λ h k _ ih=>.obj (st _ _ h) (st _ _ k) ih)
  (.nil _) (λ _ _ i j=>.cons i j) (.nil _) (λ _ _ i j=>.cons i j) (.nil _) (λ _ _ i j=>.cons i j) h
theorem Dr.mono{B B':Heap}(st:B.StaysIn B'){v:List (Str×Value)}{d:List (String×V)}(h:Dr prog w C B v d):Dr prog w C B' v d:=
 Dr.rec (motive_1:=λ v d _=>Rep prog w C B' v d) (motive_2:=λ v d _=>p8 prog w C B' v d) (motive_3:=λ v d _=>Dr prog w C B' v d) (motive_4:=λ v d _=>Df prog w C B' v d)
  (.none _) (λ b=>.bool _ b) (λ i t=>.int _ i t) (λ x t=>.str _ x t) (λ l t=>.bytes _ l t)
  (λ h _ ih=>.tuple (st _ _ h) ih) (λ h _ ih=>.list (st _ _ h) ih) (λ n h _ ih=>.dict n (s8 prog w st h) ih) (λ h k _ ih=>.obj (st _ _ h) (st _ _ k) ih)
  (.nil _) (λ _ _ i j=>.cons i j) (.nil _) (λ _ _ i j=>.cons i j) (.nil _) (λ _ _ i j=>.cons i j) h
theorem Df.mono{B B':Heap}(st:B.StaysIn B'){v:List DictEntry}{d:List (String×V)}(h:Df prog w C B v d):Df prog w C B' v d:=
 Df.rec (motive_1:=λ v d _=>Rep prog w C B' v d) (motive_2:=λ v d _=>p8 prog w C B' v d) (motive_3:=λ v d _=>Dr prog w C B' v d) (motive_4:=λ v d _=>Df prog w C B' v d)
  (.none _) (λ b=>.bool _ b) (λ i t=>.int _ i t) (λ x t=>.str _ x t) (λ l t=>.bytes _ l t)
  (λ h _ ih=>.tuple (st _ _ h) ih) (λ h _ ih=>.list (st _ _ h) ih) (λ n h _ ih=>.dict n (s8 prog w st h) ih) (λ h k _ ih=>.obj (st _ _ h) (st _ _ k) ih)
  (.nil _) (λ _ _ i j=>.cons i j) (.nil _) (λ _ _ i j=>.cons i j) (.nil _) (λ _ _ i j=>.cons i j) h
theorem adf{a b:Addr}(h:some (Value.ref a)=some (Value.ref b)):a=b:=Value.ref.inj (ao h)
theorem ai8{α : Type}{Q:String->α->Prop}(l:List (String×α))(h:∀p∈l,Q p.1 p.2){x:String}{d : α}:lk x l=some d->Q x d:=by
 induction l with
 |nil=>exact λ e=>bh e
 |cons p r ih=>
  intro e;rw[Al]at e
  by_cases q:x=p.1
  ·rw[bf q]at e;exact q▸ao e▸h p f9
  ·rw[bx q]at e;exact ih (λ y hy=>h y (bk _ hy)) e
theorem yc{B:Heap}{ds:List V}(h:p8 prog w C B [] ds):ds=[]:=by cases h;rfl
theorem uh{B:Heap}{v:Value}{vs:List Value}{ds:List V}(h:p8 prog w C B (v::vs) ds):∃d r,ds=d::r/\Rep prog w C B v d/\p8 prog w C B vs r:=by
 cases h with
 |cons h r=>exact⟨_,_,rfl,h,r⟩
theorem p8.length{B:Heap}{vs:List Value}:∀{ds:List V},p8 prog w C B vs ds->vs.length=ds.length:=by
 induction vs with
 |nil=>intro ds h;obtain rfl:=yc h;rfl
 |cons v vs ih=>intro ds h;obtain⟨d,r,rfl,_,hr⟩:=uh h;exact au Nat.succ (ih hr)
theorem p8.append{B:Heap}{vs ws:List Value}:∀{ds es:List V},p8 prog w C B vs ds->p8 prog w C B ws es->p8 prog w C B (vs++ws) (ds++es):=by
 induction vs with
 |nil=>intro ds es h k;obtain rfl:=yc h;exact k
 |cons v vs ih=>intro ds es h k;obtain⟨d,r,rfl,hd,hr⟩:=uh h;exact .cons hd (ih hr k)
theorem p8.get{B:Heap}{vs:List Value}:∀{ds:List V}{i:Nat}{d:V},p8 prog w C B vs ds->ds[i]? = some d->∃v,vs[i]? = some v/\Rep prog w C B v d:=by
 induction vs with
 |nil=>intro ds i d h e;obtain rfl:=yc h;exact nomatch e
 |cons v vs ih=>
  intro ds i d h e;obtain⟨x,r,rfl,hx,hr⟩:=uh h
  induction i using Nat.casesOn with
  |zero=>obtain rfl:x=d:=ao e;exact⟨_,rfl,hx⟩
  |succ i=>rw[List.getElem?_cons_succ]at e ⊢;exact ih hr e
theorem p8.drop{B:Heap}{vs:List Value}:∀{ds:List V}(n:Nat),p8 prog w C B vs ds->p8 prog w C B (vs.drop n) (ds.drop n):=by
 induction vs with
 |nil=>intro ds n h;obtain rfl:=yc h;rw[List.drop_nil,List.drop_nil];exact .nil _
 |cons v vs ih=>
  intro ds n h
  induction n using Nat.casesOn with
  |zero=>exact h
  |succ n=>obtain⟨x,r,rfl,hx,hr⟩:=uh h;exact ih n hr
theorem p8.take{B:Heap}{vs:List Value}:∀{ds:List V}(n:Nat),p8 prog w C B vs ds->p8 prog w C B (vs.take n) (ds.take n):=by
 induction vs with
 |nil=>intro ds n h;obtain rfl:=yc h;rw[List.take_nil,List.take_nil];exact .nil _
 |cons v vs ih=>
  intro ds n h
  induction n using Nat.casesOn with
  |zero=>exact .nil _
  |succ n=>obtain⟨x,r,rfl,hx,hr⟩:=uh h;exact .cons hx (ih n hr)
theorem p8.one{B:Heap}{v:Value}{d:V}(h:Rep prog w C B v d):p8 prog w C B [v] [d]:=.cons h (.nil _)
theorem p8.reverse{B:Heap}{vs:List Value}:∀{ds:List V},p8 prog w C B vs ds->p8 prog w C B vs.reverse ds.reverse:=by
 induction vs with
 |nil=>intro ds h;obtain rfl:=yc h;exact .nil _
 |cons v vs ih=>
  intro ds h;obtain⟨x,r,rfl,hx,hr⟩:=uh h;rw[List.reverse_cons,List.reverse_cons];exact p8.append (ih hr) (.one hx)
structure Ext(B h B' h':Heap):Prop where
 keep:∀b o,h.get? b=some o->h'.get? b=some o
 base:B.StaysIn B'
 stay:B'.StaysIn h'
 new:∀a,B.get? a=none->B'.get? a≠none->h.get? a=none
theorem Ext.refl{B h:Heap}(st:B.StaysIn h):Ext B h B h:=⟨λ _ _ e=>e,lu _,st,λ a h1 h2=>absurd h1 h2⟩
theorem Ext.trans{B h B' h' B'' h'':Heap}(x:Ext B h B' h')(y:Ext B' h' B'' h''):Ext B h B'' h'' where
 keep b o e:=y.keep b o (x.keep b o e)
 base:=rz x.base y.base
 stay:=y.stay
 new a h1 h2:=by
  cases e:B'.get? a with
  |some o=>exact x.new a h1 (by rw[e];exact λ q=>nomatch q)
  |none=>
   have:=y.new a e h2;cases q:h.get? a with
   |none=>rfl
   |some o=>rw[x.keep a o q]at this;cases this
noncomputable def grow(B h h':Heap):Heap:=mask h' λ a=>(B.get? a).isSome||decide (h.objs.size<=a)
theorem Ext.grow{B h h':Heap}(st:B.StaysIn h)(k:∀b o,h.get? b=some o->h'.get? b=some o):Ext B h (Mine.Internal.grow B h h') h' where
 keep:=k
 base b o e:=wj.mpr ⟨by simp[e],k _ _ (st _ _ e)⟩
 stay:=Ku _ _
 new a h1 h2:=by
  cases q:h.get? a with
  |none=>rfl
  |some o=>
   exfalso
   apply h2
   unfold Mine.Internal.grow;rw[Ca];have hlt:=Heap.lt_size q;have hn:¬h.objs.size<=a:=Nat.not_le.mpr hlt;simp[h1,hn]
theorem I7{B h h':Heap}{a:Addr}{o:Obj}(ha:h.objs.size<=a)(e:h'.get? a=some o):(grow B h h').get? a=some o:=wj.mpr ⟨by simp[ha],e⟩
end Mine.Internal
namespace Mine.Internal
variable{prog:Program}{w:World}{C:Addr}{A:Around}{E:QV}{s:Shared}{B:Heap}
noncomputable def Made(prog:Program)(w:World) (C:Addr) (B:Heap)(s:Shared)(z:V) (Q:QV):Prop:=
 ∀v B' h' tk,Ext B s.heap B' h'->Rep prog w C B' v z->Q v { s with heap:=h',toks:=tk }
theorem Made.flat{z:V}{Q:QV}(k:Made prog w C B s z Q)(st:B.StaysIn s.heap){v:Value}(tk:Nat)(h:Rep prog w C B v z):Q v { s with toks:=tk }:=
 k v B s.heap tk (.refl st) h
theorem Jg(st:B.StaysIn s.heap)(o:Obj)(hf:o.isFreed=false):Ext B s.heap (grow B s.heap (s.heap.push o)) (s.heap.push o)/\(grow B s.heap (s.heap.push o)).get? s.heap.objs.size=some o:=
 ⟨.grow st λ _ _ e=>Heap.get?_push_of_some o e,I7 (jf _) (Heap.get?_push_size _ hf)⟩
theorem Made.list{ds:List V}{vs:List Value}{n:Nat}{Q:QV}(k:Made prog w C B s (.list ds) Q)(st:B.StaysIn s.heap)(r:p8 prog w C B vs ds):
 Q (.ref s.heap.objs.size) { s with heap:=s.heap.push { cls:=.type "list",data:=.seq vs.toArray n } }:=by
 obtain⟨x,y⟩:=Jg st { cls:=.type "list",data:=.seq vs.toArray n } rfl;exact k _ _ _ s.toks x (.list y (r.mono x.base))
theorem Made.tuple{ds:List V}{vs:List Value}{n:Nat}{Q:QV}(k:Made prog w C B s (.tuple ds) Q)(st:B.StaysIn s.heap)(r:p8 prog w C B vs ds):
 Q (.ref s.heap.objs.size) { s with heap:=s.heap.push { cls:=.type "tuple",data:=.seq vs.toArray n } }:=by
 obtain⟨x,y⟩:=Jg st { cls:=.type "tuple",data:=.seq vs.toArray n } rfl;exact k _ _ _ s.toks x (.tuple y (r.mono x.base))
noncomputable def ato:BOp->Operator
 |.add=>.Add|.sub=>.Sub|.mul=>.Mult|.fdiv=>.FloorDiv|.mod=>.Mod|.pow=>.Pow|.xor=>.BitXor
noncomputable def a0j(prog:Program)(w:World) (C:Addr) (B:Heap)(v:Value):V->Prop
 |.none=>v=.none
 |.bool b=>v=.bool b
 |.int i=>∃t,v=.int i t
 |.str x=>∃t,v=.str (Str.ofString x) t
 |.bytes l=>∃t,v=.bytes l.toArray t
 |.tuple ds=>∃a vs n,v=.ref a/\B.get? a=some { cls:=.type "tuple",data:=.seq vs.toArray n }/\p8 prog w C B vs ds
 |.list ds=>∃a vs n,v=.ref a/\B.get? a=some { cls:=.type "list",data:=.seq vs.toArray n }/\p8 prog w C B vs ds
 |.dict ds=>∃a kvs,v=.ref a/\(a==sysModules)=false/\B.DictOf (strKind prog w) a kvs/\Dr prog w C B kvs ds
 |.obj ds=>∃x dx es n,v=.ref x/\B.get? x=some (instObj C dx)/\B.get? dx=some (dictOf es n)/\Df prog w C B es ds
theorem Rep.inv{v:Value}{d:V}(h:Rep prog w C B v d):a0j prog w C B v d:=by
 cases h with
 |none|bool=>rfl
 |int|str|bytes=>exact⟨_,rfl⟩
 |tuple h r|list h r=>exact⟨_,_,_,rfl,h,r⟩
 |dict n h r=>exact⟨_,_,rfl,n,h,r⟩
 |obj h k r=>exact⟨_,_,_,_,rfl,h,k,r⟩
theorem qy{v:Value}{i:Int}(h:Rep prog w C B v (.int i)):∃t,v=.int i t:=h.inv
theorem o9{v:Value}{l:List UInt8}(h:Rep prog w C B v (.bytes l)):∃t,v=.bytes l.toArray t:=h.inv
theorem Iu{v:Value}{b:Bool}(h:Rep prog w C B v (.bool b)):v=.bool b:=h.inv
theorem Jk{v:Value}{x:String}(h:Rep prog w C B v (.str x)):∃t,v=.str (Str.ofString x) t:=h.inv
theorem yg{v:Value}(h:Rep prog w C B v .none):v=.none:=h.inv
theorem qm{v:Value}{ds:List V}(h:Rep prog w C B v (.list ds)):∃a vs n,v=.ref a/\B.get? a=some { cls:=.type "list",data:=.seq vs.toArray n }/\p8 prog w C B vs ds:=h.inv
theorem vm{v:Value}{ds:List V}(h:Rep prog w C B v (.tuple ds)):∃a vs n,v=.ref a/\B.get? a=some { cls:=.type "tuple",data:=.seq vs.toArray n }/\p8 prog w C B vs ds:=h.inv
theorem Io{v:Value}{ds:List (String×V)}(h:Rep prog w C B v (.dict ds)):∃a kvs,v=.ref a/\(a==sysModules)=false/\B.DictOf (strKind prog w) a kvs/\Dr prog w C B kvs ds:=h.inv
theorem alg{v:Value}{ds:List (String×V)}(h:Rep prog w C B v (.obj ds)):∃x dx es n,v=.ref x/\B.get? x=some (instObj C dx)/\B.get? dx=some (dictOf es n)/\Df prog w C B es ds:=h.inv
theorem K5{ds:List (String×V)}(h:Dr prog w C B [] ds):ds=[]:=by cases h;rfl
theorem Jj{p:Str×Value}{kvs:List (Str×Value)}{ds:List (String×V)}(h:Dr prog w C B (p::kvs) ds):∃k v d r,p=(Str.ofString k,v)/\ds=(k,d)::r/\Rep prog w C B v d/\Dr prog w C B kvs r:=by
 cases h with
 |cons h r=>exact⟨_,_,_,_,rfl,rfl,h,r⟩
theorem Yr{p:Addr}{c d:Value}{vs ws:List Value}{n m:Nat}(h:B.get? p=some { cls:=c,data:=.seq vs.toArray n }) (h':B.get? p=some { cls:=d,data:=.seq ws.toArray m }):vs=ws:=by
 have e:=ao (h.symm.trans h');have e:=au (λ o:Obj=>match o.data with|.seq a _=>a.toList | _=> []) e
 exact e
theorem Hz:sizeLine=16777216:=rfl
theorem Rx{n:Nat}(h:n<=lim):n<=sizeLine:=ak h (aj rfl)
theorem Lq{n m:Nat}(e:n=m)(h:m<=lim):n<=sizeLine:=e▸Rx h
theorem Ur{n m:Nat}(e:n=m)(h:m<=1000):n<=sizeLine:=e▸ak h (aj rfl)
theorem ajf{α : Type}{ks:List String}{vs:List α}(h:ks.length<=15):0+((ks.map Str.ofString).zip vs).length<=sizeLine:=by
 rw[lg,List.length_zip,bw];exact ak (Nat.min_le_left ..) (ak h (aj rfl))
theorem Sv{a b c:Nat}(h:a+b<c):a<c:=fj (dz a b) h
theorem u_s{a n c:Nat}(h:a+(n+1)<c):a+1+n<c:=j9 a n 1▸h
theorem apk{a n c:Nat}(h:a+6*n+100<c):a+12<c:=fj (j7 (dz a (6*n)) (aj rfl)) h
theorem az2{a c:Nat}(h:a+12<c):a+10<c:=fj (jh (aj rfl) a) h
theorem amm{n:Nat}(h:n<=lim):(n:Int)<2^63:=Int.lt_of_le_of_lt (Int.ofNat_le.mpr h) (by decide)
theorem ap5{i:Int}{n:Nat}(h:i<n)(hn:n<=lim):i<2^63:=Int.lt_trans h (amm hn)
theorem aze{i:Int}(h : 0<=i):-2^63<=i:=Int.le_trans (by decide) h
theorem awd{i:Int}(h:i<0):i<2^63:=Int.lt_trans h (by decide)
theorem aoy{i:Int}{n:Nat}(h : -(n:Int)<=i)(hn:n<=lim):-2^63<=i:=Int.le_trans (Int.neg_le_neg (Int.le_of_lt (amm hn))) h
theorem Z4{x:Int}(h:x.natAbs<4294967296):Builtin.Int.intBits x<=64:=intBits_le_64 (by lia) (by lia)
theorem nab{y:Int}(h : 0<y/\y<1000000000):y.natAbs<1073741824:=by lia
theorem arh{x y:Int}(hc : 0<=x/\x<1000/\0<=y/\y<1000):(Builtin.Int.intBits x:Int)*y<=2^27:=
 Int.le_trans (Int.mul_le_mul (Int.ofNat_le.mpr (Z4 (x:=x) (by lia))) (Int.le_of_lt hc.2.2.2) hc.2.2.1 (by decide)) (by decide)
theorem aqo(n:Nat):n |||1=2*(n/2)+1:=by
 have h1:(n |||1)/2=n/2:=by rw[Nat.or_div_two];simp
 have h2:(n |||1)%2=1:=Nat.or_mod_two_eq_one.mpr (.inr rfl)
 lia
theorem ak2{a:Int}(h : 0<=a):Builtin.bitXor a 1=if a%2=0 then a+1 else a-1:=by
 obtain⟨n,rfl⟩:=s6 h;have e1:Builtin.bitAnd (n:Int) 1=((n%2:Nat):Int):=by
  unfold Builtin.bitAnd;have:decide ((0:Int)<=(n:Int))=true:=fu h;rw[this];show(((n:Int).toNat &&&(1:Int).toNat:Nat):Int)=_;rw[Int.toNat_natCast,show(1:Int).toNat=1 from rfl,Nat.and_one_is_mod]
 have e2:Builtin.bitOr (n:Int) 1=((2*(n/2)+1:Nat):Int):=by
  unfold Builtin.bitOr Builtin.bitAnd;have h1:decide (0<=Builtin.bitNot (n:Int))=false:=ig (by unfold Builtin.bitNot;lia)
  have h2:decide (0<=Builtin.bitNot 1)=false:=by decide
  rw[h1,h2];show Builtin.bitNot (Builtin.bitNot (((Builtin.bitNot (Builtin.bitNot (n:Int))).toNat |||(Builtin.bitNot (Builtin.bitNot 1)).toNat:Nat):Int))=_;have bb:∀x:Int,Builtin.bitNot (Builtin.bitNot x)=x:=λ x=>by unfold Builtin.bitNot;lia
  rw[bb,bb,bb,Int.toNat_natCast,show(1:Int).toNat=1 from rfl,aqo]
 unfold Builtin.bitXor;rw[e1,e2]
 split<;>lia
open MeetsSeq Builtin in
theorem afa(y:Bool)(l:Addr)(items:Array Value)(n:Nat):
 Meets (Builtin.«int.__rmul__» ⟨[.bool y,.ref l],[]⟩) (λ _ R s=>s.heap.get? l=some { cls:=.type "list",dict:=none,data:=.seq items n,slots:=#[] }/\R (.ok (.ret Value.notImplemented)) s):=
 .of_wp λ prog w A R s h=>by obtain⟨hp,g,d,tk,os⟩:=s;obtain⟨hl,h⟩:=h;wp_walk;exact⟨_,rfl,h⟩
open MeetsSeq Builtin in
theorem Sd(y:Bool)(l:Addr)(items:Array Value)(n:Nat)(hz:items.size<=lim):
 Meets (Builtin.«list.__mul__» ⟨[.ref l,.bool y],[]⟩) (λ _ R s=>s.heap.get? l=some { cls:=.type "list",dict:=none,data:=.seq items n,slots:=#[] }/\R (.ok (.ret (Value.ref s.heap.objs.size))) { s with heap:=s.heap.push { cls:=Value.type "list",data:=Data.seq (List.foldl (λ x1 x2=>x1++x2) #[] (List.replicate (if items.isEmpty=true then 0 else(if y then(1:Int)else 0).toNat) items)) },toks:=s.toks }):=
 .of_wp λ prog w A R s h=>by
  obtain⟨hp,g,d,tk,os⟩:=s;obtain⟨hl,h⟩:=h;unfold lim at hz;have hc0:¬(!Builtin.List.listFitsIndex (if y then(1:Int)else 0))=true:=by cases y<;>decide
  have hc1:¬items.size*(if y then(1:Int)else 0).toNat>(2^63-1)/8:=by cases y<;>simp<;>lia
  have hc2:¬Builtin.List.listTooLong (items.size*(if y then(1:Int)else 0).toNat)=true:=by cases y<;>simp[Builtin.List.listTooLong,sizeLine]<;>lia
  have hsz:=AutoListH.joined_fits hc2
  wp_walk;refine wpAny_ite_false (ig (jx.mpr hsz)) ?_;wp_walk;exact⟨_,rfl,h⟩
theorem Tt{a:Addr}{items:Array Value}{n:Nat}{y:Bool}{Q:QV}(ha:s.heap.get? a=some { cls:=.type "list",data:=.seq items n }) (hz:items.size<=lim)
 (h:∀h' m tk,h'.get? m=some { cls:=.type "list",data:=.seq (if y then items else #[]) }->s.heap.objs.size<=m->(∀b o,s.heap.get? b=some o->h'.get? b=some o)->Q (.ref m) { s with heap:=h',toks:=tk }):
 wpAny (model prog w) A (binaryOp .Mult (.ref a) (.bool y)) Q E s:=by
 refine wpAny_binaryOp_repeat_ref (T:="list") (U:="bool") (by decide) ⟨_,ha,rfl⟩ (λ s'=>PySem.typeIs_bool s' y) noFill_list_mul F.fills_bool_mul F.slot_bool_rmul repeat_list F.slot_bool_index.lookup
  (call_meets F.slot_bool_rmul (PySem.typeIs_bool s y) F.entry_int_rmul (F.args_int_rmul_2 _ _) (afa y a items n)
   ⟨ha,rfl,⟨_,ha,rfl⟩,call_meets F.slot_list_mul ⟨_,ha,rfl⟩ F.entry_list_mul (F.args_list_mul_2 _ _)
    (Sd y a items n hz)
    ⟨ha,?_⟩⟩)
 have e:(List.foldl (λ x1 x2=>x1++x2) #[] (List.replicate (if items.isEmpty=true then 0 else(if y then(1:Int)else 0).toNat) items))=(if y then items else #[]):=by
  induction y with
  |false=>simp
  |true=>
   by_cases hi:items.isEmpty=true
   ·simp[hi];simpa using hi
   ·simp[hi]
 rw[e];exact h _ s.heap.objs.size s.toks (Heap.get?_push_size _ rfl) (jf _) λ _ _ e=>Heap.get?_push_of_some _ e
theorem alk{β : Type}{f:Int->Option β}{a:Value}{x:V}{r : β}(h:Rep prog w C B a x)(e:Nt f x=some r):∃i t,a=.int i t/\f i=some r:=by
 induction x using V.casesOn with
 |int i=>obtain⟨t,rfl⟩:=qy h;exact⟨i,t,rfl,e⟩
 | _=>exact bh e
theorem amc{β : Type}{f:List UInt8->Option β}{a:Value}{x:V}{r : β}(h:Rep prog w C B a x)(e:onB f x=some r):∃i t,a=.bytes (List.toArray i) t/\f i=some r:=by
 induction x using V.casesOn with
 |bytes i=>obtain⟨t,rfl⟩:=o9 h;exact⟨i,t,rfl,e⟩
 | _=>exact bh e
theorem a0o{β : Type}{f:List V->Option β}{a:Value}{x:V}{r : β}(h:Rep prog w C B a x)(e:onL f x=some r):∃l,Rep prog w C B a (.list l)/\f l=some r:=by
 induction x using V.casesOn with
 |list l=>exact⟨l,h,e⟩
 | _=>exact bh e
theorem az5{β : Type}{f:List V->Option β}{a:Value}{x:V}{r : β}(h:Rep prog w C B a x)(e:onT f x=some r):∃l,Rep prog w C B a (.tuple l)/\f l=some r:=by
 induction x using V.casesOn with
 |tuple l=>exact⟨l,h,e⟩
 | _=>exact bh e
theorem au9{β : Type}{f:Option β}{a:Value}{x:V}{r : β}(h:Rep prog w C B a x)(e:onN f x=some r):a=.none/\f=some r:=by
 induction x using V.casesOn with
 |none=>exact⟨yg h,e⟩
 | _=>exact bh e
theorem atk{o:BOp}{x y z:V}{a b:Value}{Q:QV}(st:B.StaysIn s.heap)(hx:Rep prog w C B a x)(hy:Rep prog w C B b y)(e:Cd o x y=some z)
 (k:Made prog w C B s z Q):wpAny (model prog w) A (binaryOp (ato o) a b) Q E s:=by
 have kz:∀{d},d=z->Made prog w C B s d Q:=λ h=>h▸k;have ii:∀{o}{f:Int->Int->Option _},Nt (λ x=>Nt (f x) y) x=some z->(∀i t j u,f i j=some z->wpAny (model prog w) A (binaryOp o (.int i t) (.int j u)) Q E s)->wpAny (model prog w) A (binaryOp o a b) Q E s:=λ e K=>by
  obtain⟨i,t,rfl,e⟩:=alk hx e;obtain⟨j,u,rfl,e⟩:=alk hy e;exact K i t j u e
 clear k
 induction o with
 |add=>
  induction x using V.casesOn with
  |int x=>
   exact ii (f:=λ x y=>some (.int (x+y))) e λ _ _ _ _ e=>P.add_int ((kz (ao e)).flat st _ (.int _ _ _))
  |bytes x=>
   obtain⟨y,u,rfl,e⟩:=amc hy e;obtain⟨hc,e⟩:=o7 e;obtain⟨t,rfl⟩:=o9 hx;refine KBy.add_bytes (by rw[gn,gn];exact ak hc (aj rfl)) λ t' q=>?_
   rw[List.append_toArray];exact(kz e).flat st _ (.bytes _ _ _)
  |list x=>
   obtain⟨y,hy,e⟩:=a0o hy e;obtain⟨hc,e⟩:=o7 e;obtain⟨p,vs,n,rfl,hp,rp⟩:=qm hx;obtain⟨q,ws,m,rfl,hq,rq⟩:=qm hy;refine P.add_list (st _ _ hp) (st _ _ hq) ?_ (by rw[gn,gn,rp.length,rq.length];exact ak hc (aj rfl))
   rw[List.append_toArray];exact(kz e).list st (rp.append rq)
  |tuple x=>
   obtain⟨y,hy,e⟩:=az5 hy e;obtain⟨⟨hc,l1,l2⟩,e⟩:=o7 e;obtain⟨p,vs,n,rfl,hp,rp⟩:=vm hx;obtain⟨q,ws,m,rfl,hq,rq⟩:=vm hy;refine P.add_tuple (st _ _ hp) (st _ _ hq) (λ h=>l1 (rp.length.symm.trans (Array.isEmpty_iff_size_eq_zero.mp h))) (λ h=>l2 (rq.length.symm.trans (Array.isEmpty_iff_size_eq_zero.mp h))) ?_ (by rw[gn,gn,rp.length,rq.length];exact ak hc (aj rfl))
   rw[List.append_toArray];exact(kz e).tuple st (rp.append rq)
  | _=>exact bh e
 |sub=>exact ii (f:=λ x y=>some (.int (x-y))) e λ _ _ _ _ e=>P.sub_int ((kz (ao e)).flat st _ (.int _ _ _))
 |mul=>
  induction x using V.casesOn with
  |int x=>
   refine ii (f:=λ x y=>if x.natAbs<4294967296\/y.natAbs<4294967296 then some (.int (x*y))else none) e λ x _ y _ e=>?_
   obtain⟨hc,e⟩:=o7 e;exact P.mul_int ((kz e).flat st _ (.int _ _ _)) (hc.elim (λ hc=>IntMulOk.of_left (Z4 hc)) λ hc=>IntMulOk.of_right (Z4 hc))
  |list x=>
   induction y using V.casesOn with
   |bool y=>
    obtain⟨hc,e⟩:=o7 e;obtain⟨p,vs,n,rfl,hp,rp⟩:=qm hx;obtain rfl:=Iu hy;refine Tt (st _ _ hp) (by rw[gn,rp.length];exact hc) λ h' m tk hm hge hk=>?_
    have x:=Ext.grow st hk;refine kz e _ _ _ _ x ?_;have hm':=I7 (B:=B) hge hm
    induction y with
    |true=>exact .list (vs:=vs) hm' (rp.mono x.base)
    |false=>exact .list (vs:=[]) hm' (.nil _)
   | _=>exact bh e
  | _=>exact bh e
 |fdiv=>
  refine ii (f:=λ x y=>if 0<y/\y<1000000000 then some (.int (x/y))else none) e λ x _ y _ e=>?_
  obtain⟨hc,e⟩:=o7 e;refine floordiv_int (Int.ne_of_gt hc.1) ?_ (.inl (PyProof.noPylong_small (nab hc)));rw[Int.fdiv_eq_ediv_of_nonneg _ (Int.le_of_lt hc.1)];exact(kz e).flat st _ (.int _ _ _)
 |mod=>
  refine ii (f:=λ x y=>if 0<y then some (.int (x%y))else none) e λ x _ y _ e=>?_
  obtain⟨hc,e⟩:=o7 e;refine mod_int' (Int.ne_of_gt hc) ?_;rw[Int.fmod_eq_emod_of_nonneg _ (Int.le_of_lt hc)];exact(kz e).flat st _ (.int _ _ _)
 |pow=>
  refine ii (f:=λ x y=>if 0<=x/\x<1000/\0<=y/\y<1000 then some (.int (x^y.toNat))else none) e λ x _ y _ e=>?_
  obtain⟨hc,e⟩:=o7 e;exact pow_int hc.2.2.1 (arh hc) ((kz e).flat st _ (.int _ _ _))
 |xor=>
  refine ii (f:=λ x y=>if 0<=x/\y=1 then some (.int (if x%2=0 then x+1 else x-1))else none) e λ x _ y _ e=>?_
  obtain⟨⟨h0,h1⟩,e'⟩:=o7 e;refine xor_int ?_;rw[h1,ak2 h0];exact(kz e').flat st _ (.int _ _ _)
end Mine.Internal
end
section
open PySem PySem.W PyProof.Rows PySem.Calls SeqAt
namespace Mine.Internal
variable{prog:Program}{w:World}{C:Addr}{A:Around}{E:QV}{s:Shared}{B:Heap}
theorem ab1{v u:Value}{r:Bool}(hs:v=u->r=true)(hf:∀x y t q,¬(v=.float x t/\u=.float y q))(h:RcAt A s v u r):EqAt A s v u r:=λ prog w E Q hq=>by
 unfold eqBool;refine wpAny_holding ?_;refine wpAny_ite_split (λ hab=>?_) (λ _=> ?_)
 ·have:=hs (eq_of_beq hab);subst this;exact wpAny_bind (wpAny_rule (wpAny_pure hq))
 ·split
  ·rename_i heq;exact absurd (Prod.mk.inj heq) (hf _ _ _ _)
  ·exact wpAny_bind (h prog w E _ (wpAny_truthy_bool hq))
theorem Yt(a b:List UInt8)(t u:Tok):RcAt A s (.bytes a.toArray t) (.bytes b.toArray u) (a==b):=λ prog w E Q h=>
 eq_bytes (prog:=prog) (w:=w) (b:=a.toArray) (c:=b.toArray) (t:=t) (u:=u) (Q:=Q) (by simpa using h)
theorem R5(a b:List UInt8)(t u:Tok):EqAt A s (.bytes a.toArray t) (.bytes b.toArray u) (a==b):=
 ab1 (λ h=>by
  injection h with h _;have:a=b:=by simpa using h
  simp[this]) (λ _ _ _ _ h=>nomatch h.1) (Yt a b t u)
theorem Li{vs:List Value}{ds:List V}(h:p8 prog w C B vs ds){i:Nat}{v:Value}(e:vs[i]? = some v):∃d,ds[i]? = some d/\Rep prog w C B v d:=by
 induction vs generalizing ds i with
 |nil=>exact nomatch e
 |cons x r ih=>
  obtain⟨d,ds,rfl,h1,h2⟩:=uh h
  induction i using Nat.casesOn with
  |zero=>obtain rfl:x=v:=ao e;exact⟨_,rfl,h1⟩
  |succ i=>exact ih h2 (by rw[List.getElem?_cons_succ]at e;exact e)
theorem ad1{f:V->V->Option Bool}{a b:V}{xs ys:List V}{r:Bool}(e:Mv f (a::xs) (b::ys)=some r):∃x y,f a b=some x/\Mv f xs ys=some y/\(x&&y)=r:=by
 have e:(match f a b,Mv f xs ys with
  |some x,some y=>some (x&&y)
  | _,_=>Option.none)=some r:=e
 cases h1:f a b with
 |none=>rw[h1]at e;exact bh e
 |some x=>
  rw[h1]at e;cases h2:Mv f xs ys with
  |none=>rw[h2]at e;exact bh e
  |some y=>rw[h2]at e;exact⟨x,y,rfl,rfl,ao e⟩
theorem T8{n:Nat}(ih:∀{v:Value}{a b:V}{r:Bool},Rep prog w C B v a->Rep prog w C B v b->Qd n a b=some r->r=true):
 ∀{vs:List Value}{xs ys:List V}{r:Bool},p8 prog w C B vs xs->p8 prog w C B vs ys->Mv (Qd n) xs ys=some r->r=true:=by
 intro vs
 induction vs with
 |nil=>
  intro xs ys r h1 h2 e;obtain rfl:=yc h1;obtain rfl:=yc h2;exact(ao e).symm
 |cons v vs ihl=>
  intro xs ys r h1 h2 e;obtain⟨x,xs,rfl,hx,hxs⟩:=uh h1;obtain⟨y,ys,rfl,hy,hys⟩:=uh h2;obtain⟨p,q,hp,hq,rfl⟩:=ad1 e;rw[ih hx hy hp,ihl hxs hys hq];rfl
theorem Xj:∀(n:Nat){v:Value}{a b:V}{r:Bool},Rep prog w C B v a->Rep prog w C B v b->Qd n a b=some r->r=true:=by
 intro n
 induction n with
 |zero=>intro v a b r _ _ e;exact bh e
 |succ n ih=>
  intro v a b r ha hb e
  induction a using V.casesOn with
  |none=>
   induction b using V.casesOn with
   |none=>exact(ao e).symm
   |int y=>obtain rfl:=yg ha;obtain⟨t,h⟩:=qy hb;exact nomatch h
   | _=>exact bh e
  |int x=>
   induction b using V.casesOn with
   |none=>obtain rfl:=yg hb;obtain⟨t,h⟩:=qy ha;exact nomatch h
   |int y=>
    obtain⟨t,rfl⟩:=qy ha;obtain⟨u,h⟩:=qy hb;exact(ao e).symm.trans (beq_iff_eq.mpr (Value.int.inj h).1)
   | _=>exact bh e
  |bytes x=>
   induction b using V.casesOn with
   |bytes y=>
    obtain⟨t,rfl⟩:=o9 ha;obtain⟨u,h⟩:=o9 hb;exact(ao e).symm.trans (beq_iff_eq.mpr (au Array.toList (Value.bytes.inj h).1))
   | _=>exact bh e
  |list x=>
   induction b using V.casesOn with
   |list y=>
    obtain⟨p,vs,k,rfl,hp,rp⟩:=qm ha;obtain⟨q,ws,m,h,hq,rq⟩:=qm hb;obtain rfl:=Value.ref.inj h;obtain rfl:=Yr hp hq;exact T8 ih rp rq ((bf (rp.length.symm.trans rq.length)).symm.trans e)
   | _=>exact bh e
  |tuple x=>
   induction b using V.casesOn with
   |tuple y=>
    obtain⟨p,vs,k,rfl,hp,rp⟩:=vm ha;obtain⟨q,ws,m,h,hq,rq⟩:=vm hb;obtain rfl:=Value.ref.inj h;obtain rfl:=Yr hp hq;exact T8 ih rp rq ((bf (rp.length.symm.trans rq.length)).symm.trans e)
   | _=>exact bh e
  | _=>exact bh e
theorem R7{f:V->V->Option Bool}:∀{xs ys:List V}{r:Bool},xs.length=ys.length->Mv f xs ys=some r->
 ∃e:Nat->Bool,r=(List.range xs.length).all e/\∀(i:Nat) (x y:V),xs[i]? = some x->ys[i]? = some y->f x y=some (e i)
 |[],[],r,_,e=>⟨λ _=>true,(ao e).symm,λ i x y h=>nomatch h⟩
 |a::xs,b::ys,r,hl,e=>by
  obtain⟨x,y,hx,hy,rfl⟩:=ad1 e;obtain⟨g,hg,hk⟩:=R7 (Nat.succ.inj hl) hy;refine⟨λ i=>match i with|0=>x|i+1=>g i,?_,?_⟩
  ·rw[pq,List.range_succ_eq_map,List.all_cons,List.all_map];rw[hg];rfl
  ·intro i p q hp hq
   induction i using Nat.casesOn with
   |zero=>obtain rfl:a=p:=ao hp;obtain rfl:b=q:=ao hq;exact hx
   |succ i=>exact hk i p q (by rw[List.getElem?_cons_succ]at hp;exact hp) (by rw[List.getElem?_cons_succ]at hq;exact hq)
 |[],_::_,_,hl,_=>nomatch hl
 | _::_,[],_,hl,_=>nomatch hl
theorem amb:∀(n:Nat){A:Around}{a b:V}{va vb:Value}{r:Bool},B.StaysIn s.heap->A.units+n<cLine->Rep prog w C B va a->Rep prog w C B vb b->Qd n a b=some r->EqAt A s va vb r:=by
 intro n
 induction n with
 |zero=>intro A a b va vb r _ _ _ _ e;(first|exact bh e|obtain rfl:=ao e|cases e)
 |succ n ih=>
  intro A a b va vb r st hu ha hb e
  induction a using V.casesOn with
  |none=>
   induction b using V.casesOn with
   |none=>obtain rfl:=ao e;obtain rfl:=yg ha;obtain rfl:=yg hb;exact EqAt.same _
   |int y=>obtain rfl:=ao e;obtain rfl:=yg ha;obtain⟨t,rfl⟩:=qy hb;exact EqAt.none_int _ _
   | _=>exact bh e
  |int x=>
   induction b using V.casesOn with
   |none=>obtain rfl:=ao e;obtain rfl:=yg hb;obtain⟨t,rfl⟩:=qy ha;exact EqAt.int_none _ _
   |int y=>obtain rfl:=ao e;obtain⟨t,rfl⟩:=qy ha;obtain⟨u,rfl⟩:=qy hb;exact EqAt.int_int _ _ _ _
   | _=>exact bh e
  |bytes x=>
   induction b using V.casesOn with
   |bytes y=>
    obtain rfl:=ao e;obtain⟨t,rfl⟩:=o9 ha;obtain⟨u,rfl⟩:=o9 hb;exact R5 _ _ _ _
   | _=>exact bh e
  |list xs=>
   induction b using V.casesOn with
   |list ys=>
    obtain⟨p,vs,k,rfl,hp,rp⟩:=qm ha;obtain⟨q,ws,m,rfl,hq,rq⟩:=qm hb
    by_cases hpq:p=q
    ·subst hpq;rw[Xj (n+1) ha hb e];exact EqAt.same _
    ·refine EqAt.of_refs hpq ?_;have lp:s.heap.IsList p vs.toArray:=⟨_,st _ _ hp,rfl,_,rfl⟩;have lq:s.heap.IsList q ws.toArray:=⟨_,st _ _ hq,rfl,_,rfl⟩
     by_cases hl:xs.length=ys.length
     ·obtain⟨g,rfl,hk⟩:=R7 hl ((bf hl).symm.trans e);have:=RcAt.lists (A:=A) (e:=g) lp lq (by rw[gn,gn,rp.length,rq.length];exact hl) (Sv hu) λ j h1 h2=>by
       have h1':j<vs.length:=h1;have h2':j<ws.length:=h2;obtain⟨x,hx,rx⟩:=Li rp (gq h1');obtain⟨y,hy,ry⟩:=Li rq (gq h2');exact ih st (u_s hu) rx ry (hk j x y hx hy)
      rw[gn,rp.length]at this;exact this
     ·obtain rfl:=ao ((bx hl).symm.trans e);exact RcAt.lists_lengths lp lq (by rw[gn,gn,rp.length,rq.length];exact bne_iff_ne.mpr hl) (Sv hu)
   | _=>exact bh e
  |tuple xs=>
   induction b using V.casesOn with
   |tuple ys=>
    obtain⟨p,vs,k,rfl,hp,rp⟩:=vm ha;obtain⟨q,ws,m,rfl,hq,rq⟩:=vm hb
    by_cases hpq:p=q
    ·subst hpq;rw[Xj (n+1) ha hb e];exact EqAt.same _
    ·refine EqAt.of_refs hpq ?_;have lp:s.heap.IsTuple p vs.toArray:=⟨_,st _ _ hp,rfl,_,rfl⟩;have lq:s.heap.IsTuple q ws.toArray:=⟨_,st _ _ hq,rfl,_,rfl⟩
     by_cases hl:xs.length=ys.length
     ·obtain⟨g,rfl,hk⟩:=R7 hl ((bf hl).symm.trans e);have:=RcAt.tuples (A:=A) (e:=g) lp lq (Sv hu) λ j h1 h2=>by
       have h1':j<vs.length:=h1;have h2':j<ws.length:=h2;obtain⟨x,hx,rx⟩:=Li rp (gq h1');obtain⟨y,hy,ry⟩:=Li rq (gq h2');exact ih st (u_s hu) rx ry (hk j x y hx hy)
      rw[gn,gn,rp.length,rq.length,<-hl]at this
      simpa using this
     ·exact bh ((bx hl).symm.trans e)
   | _=>exact bh e
  | _=>exact bh e
end Mine.Internal
end
section
open PySem PySem.W PyProof.Rows PySem.Calls SeqAt Builtin
namespace Mine.Internal
variable{prog:Program}{w:World}{C:Addr}{A:Around}{E:QV}{s:Shared}{B:Heap}
theorem u0{x y:String}(h:Str.ofString x=Str.ofString y):x=y:=by
 rw[Str.ofString_eq_toList,Str.ofString_eq_toList]at h;have h1:x.toList.map Char.toNat=y.toList.map Char.toNat:=by
  injection h with h
  simpa using h
 have h2:x.toList=y.toList:=by
  refine(List.map_inj_right ?_).mp h1;intro a b hab;exact Char.toNat_inj.mp hab
 exact String.toList_inj.mp h2
theorem H9(l:Addr)(items:Array Value)(n:Nat)(b:Array UInt8)(t:Tok):
 Meets (Builtin.«list.__eq__» ⟨[.ref l,.bytes b t],[]⟩) (λ _ R s=>s.heap.get? l=some { cls:=.type "list",data:=.seq items n }/\R (.ok (.ret .notImplemented)) s):=
 .of_wp λ prog w A R s h=>by
  obtain⟨hp,g,d,tk,os⟩:=s;obtain⟨hl,h⟩:=h;have f1:isSubtype (.type "bytes") (.type "list")=pure false:=by rw[isSubtype_type];kernel_rfl
  wp_walk using wpAny_loadPart' hl
  exact⟨_,rfl,h⟩
theorem Hy(l:Addr)(items:Array Value)(n:Nat)(b:Array UInt8)(t:Tok):
 Meets (Builtin.«list.__ne__» ⟨[.ref l,.bytes b t],[]⟩) (λ _ R s=>s.heap.get? l=some { cls:=.type "list",data:=.seq items n }/\R (.ok (.ret .notImplemented)) s):=
 .of_wp λ prog w A R s h=>by
  obtain⟨hp,g,d,tk,os⟩:=s;obtain⟨hl,h⟩:=h;have f1:isSubtype (.type "bytes") (.type "list")=pure false:=by rw[isSubtype_type];kernel_rfl
  wp_walk using wpAny_loadPart' hl
  exact⟨_,rfl,h⟩
theorem sub_list_bytes:isSubtype (.type "list") (.type "bytes")=pure false:=by rw[isSubtype_type];kernel_rfl
theorem sub_bytes_list:isSubtype (.type "bytes") (.type "list")=pure false:=by rw[isSubtype_type];kernel_rfl
theorem J5:isSubtype (.type "NoneType") (.type "dict")=pure false:=by rw[isSubtype_type];kernel_rfl
theorem Ti:isSubtype (.type "dict") (.type "NoneType")=pure false:=by rw[isSubtype_type];kernel_rfl
theorem Hx(l:Addr)(items:Array Value)(n:Nat)(b:Array UInt8)(t:Tok):
 Meets (Builtin.«bytes.__eq__» ⟨[.bytes b t,.ref l],[]⟩) (λ _ R s=>s.heap.get? l=some { cls:=.type "list",data:=.seq items n }/\R (.ok (.ret .notImplemented)) s):=
 .of_wp λ prog w A R s h=>by
  obtain⟨hp,g,d,tk,os⟩:=s;obtain⟨hl,h⟩:=h
  wp_walk using wpAny_loadPart' hl
  refine wpAny_of_eq sub_list_bytes ?_
  wp_walk
  exact⟨_,rfl,h⟩
theorem Hq(l:Addr)(items:Array Value)(n:Nat)(b:Array UInt8)(t:Tok):
 Meets (Builtin.«bytes.__ne__» ⟨[.bytes b t,.ref l],[]⟩) (λ _ R s=>s.heap.get? l=some { cls:=.type "list",data:=.seq items n }/\R (.ok (.ret .notImplemented)) s):=
 .of_wp λ prog w A R s h=>by
  obtain⟨hp,g,d,tk,os⟩:=s;obtain⟨hl,h⟩:=h
  wp_walk using wpAny_loadPart' hl
  refine wpAny_of_eq sub_list_bytes ?_
  wp_walk
  exact⟨_,rfl,h⟩
theorem Tc{l:Addr}{items:Array Value}{n:Nat}{b:Array UInt8}{t:Tok}(ho:s.heap.get? l=some { cls:=.type "list",data:=.seq items n }) (hu:A.units<cLine):RcAt A s (.ref l) (.bytes b t) false:=λ prog w E Q h=>by
 exact rc_eq_decline_or (k:=false) ⟨_,ho,rfl⟩ rfl (by decide) sub_bytes_list PySem.F.slot_list_eq FB.slot_bytes_eq
  (λ _ hq=>call_meets PySem.F.slot_list_eq ⟨_,ho,rfl⟩ PySem.F.entry_list_eq (PySem.F.args_list_eq_2 _ _) (H9 l items n b t) ⟨ho,hq⟩)
  (λ _ hq=>call_meets FB.slot_bytes_eq rfl FB.entry_bytes_eq (FB.args_bytes_eq_2 _ _) (Hx l items n b t) ⟨ho,hq⟩)
  (λ _ hq=>wpAny_of_eq (rfl:isSame (.ref l) (.bytes b t)=pure false) hq) (.inr hu) h
theorem Pj{l:Addr}{items:Array Value}{n:Nat}{b:Array UInt8}{t:Tok}{Q:QV}(ho:s.heap.get? l=some { cls:=.type "list",data:=.seq items n }) (hu:A.units<cLine) (h:Q (.bool true) s):
 wpAny (model prog w) A (richCompare .NotEq (.ref l) (.bytes b t)) Q E s:=by
 exact rc_ne_decline_or (k:=false) ⟨_,ho,rfl⟩ rfl (by decide) sub_bytes_list PySem.F.slot_list_ne FB.slot_bytes_ne
  (λ _ hq=>call_meets PySem.F.slot_list_ne ⟨_,ho,rfl⟩ PySem.F.entry_list_ne (PySem.F.args_list_ne_2 _ _) (Hy l items n b t) ⟨ho,hq⟩)
  (λ _ hq=>call_meets FB.slot_bytes_ne rfl FB.entry_bytes_ne (FB.args_bytes_ne_2 _ _) (Hq l items n b t) ⟨ho,hq⟩)
  (λ _ hq=>wpAny_of_eq (rfl:isSame (.ref l) (.bytes b t)=pure false) hq) (.inr hu) h
theorem O6(l:Addr):Gives (Builtin.«NoneType.__ne__» ⟨[.none,.ref l],[]⟩) (.val (Value.notImplemented)):=
 .of_wp λ M A E s Q h=>by obtain⟨hp,g,d,tk,os⟩:=s;wp_walk;exact⟨_,rfl,h⟩
theorem Gb{d:Addr}{Q:QV}(hd:s.TypeIs (.ref d) "dict")(h:Q .notImplemented s):wpAny (model prog w) A (call (.builtin "dict.__ne__") [.ref d,.none]) Q E s:=by
 refine wpAny_call_entry PySem.F.slot_dict_ne hd PySem.F.entry_dict_ne ?_ (PySem.F.args_dict_ne_2 _ _);show wpAny _ _ (Builtin.Dict.dictSlotArgs "__ne__" ⟨[.ref d,.none],[]⟩ >>= _) _ _ s;refine wpAny_bind ?_;unfold Builtin.Dict.dictSlotArgs;refine wpAny_bind (wpAny_notOrdered_dict hd ?_);show wpAny _ _ (pure (Value.ref d,Value.none)) _ _ s;refine wpAny_pure ?_;refine wpAny_bind (wpAny_isInstance (T:="NoneType") (s:=s) rfl J5 ?_);simp only[Bool.not_false,if_true]
 wp_walk
 exact⟨_,rfl,h⟩
theorem Wo{d:Addr}{Q:QV}(hd:s.TypeIs (.ref d) "dict")(hu:A.units<cLine)(h:Q (.bool true) s):wpAny (model prog w) A (richCompare .NotEq (.ref d) .none) Q E s:=by
 exact rc_ne_decline_or (k:=false) hd rfl (by decide) J5 PySem.F.slot_dict_ne PySem.F.slot_NoneType_ne_refl
  (λ _ hq=>Gb hd hq)
  (λ _ hq=>call_gives PySem.F.slot_NoneType_ne_refl rfl PySem.F.entry_NoneType_ne (PySem.F.args_NoneType_ne_2 _ _) (O6 d) hq)
  (λ _ hq=>wpAny_of_eq (rfl:isSame (.ref d) .none=pure false) hq) (.inr hu) h
theorem Vp{d:Addr}{Q:QV}(hd:s.TypeIs (.ref d) "dict")(hu:A.units<cLine)(h:Q (.bool true) s):wpAny (model prog w) A (richCompare .NotEq .none (.ref d)) Q E s:=by
 exact rc_ne_decline_or (k:=false) rfl hd (by decide) Ti PySem.F.slot_NoneType_ne PySem.F.slot_dict_ne
  (λ _ hq=>call_gives PySem.F.slot_NoneType_ne rfl PySem.F.entry_NoneType_ne (PySem.F.args_NoneType_ne_2 _ _) (O6 d) hq)
  (λ _ hq=>Gb hd hq)
  (λ _ hq=>wpAny_of_eq (rfl:isSame .none (.ref d)=pure false) hq) (.inr hu) h
theorem an4{B:Heap}{kvs:List (Str×Value)}:∀{ds:List (String×V)}{k:String}{d:V},Dr prog w C B kvs ds->lk k ds=some d->∃y,valueAt kvs (Str.ofString k)=some y/\Rep prog w C B y d:=by
 induction kvs with
 |nil=>intro ds k d h e;obtain rfl:=K5 h;exact bh e
 |cons p kvs ih=>
  intro ds k d h e;obtain⟨k',v,d',q,rfl,rfl,h1,r1⟩:=Jj h;rw[Al]at e
  by_cases hk:k=k'
  ·subst hk;rw[bf rfl]at e;obtain rfl:=ao e;exact⟨_,by simp[valueAt],h1⟩
  ·rw[bx hk]at e;obtain⟨y,hy,ry⟩:=ih r1 e;refine⟨y,?_,ry⟩;have:¬(Str.ofString k'=Str.ofString k):=λ q=>hk (u0 q).symm
   simpa[valueAt,List.find?_cons,this]using hy
theorem Fy{B:Heap}{kvs:List (Str×Value)}:∀{ds:List (String×V)},Dr prog w C B kvs ds->kvs.length=ds.length:=by
 induction kvs with
 |nil=>intro ds h;obtain rfl:=K5 h;rfl
 |cons p kvs ih=>
  intro ds h;obtain⟨k',v,d',q,rfl,rfl,h1,r1⟩:=Jj h;exact au Nat.succ (ih r1)
theorem aj2{k:String}{a:V}{xs ys:List (String×V)}{r:Bool}(e:Zy ((k,a)::xs) ys=some r):∃b x y,lk k ys=some b/\Qd 9 a b=some x/\Zy xs ys=some y/\(x&&y)=r:=by
 have e:(match lk k ys with
  |some b=>(match Qd 9 a b,Zy xs ys with
   |some x,some y=>some (x&&y)
   | _,_=>Option.none)
  |Option.none=>Option.none)=some r:=e
 cases h0:lk k ys with
 |none=>rw[h0]at e;exact bh e
 |some b=>
  rw[h0]at e;dsimp only at e;cases h1:Qd 9 a b with
  |none=>rw[h1]at e;exact bh e
  |some x=>
   rw[h1]at e;cases h2:Zy xs ys with
   |none=>rw[h2]at e;exact bh e
   |some y=>rw[h2]at e;exact⟨b,x,y,rfl,h1,rfl,ao e⟩
theorem am4(st:B.StaysIn s.heap)(hu:A.units+9<cLine){kb:List (Str×Value)}{ys:List (String×V)}(rb:Dr prog w C B kb ys){ka:List (Str×Value)}:
 ∀{xs:List (String×V)}{r:Bool},Dr prog w C B ka xs->Zy xs ys=some r->KeqHits A s kb ka r:=by
 induction ka with
 |nil=>intro xs r h e;obtain rfl:=K5 h;obtain rfl:=ao e;exact .nil
 |cons p ka ih=>
  intro xs r h e;obtain⟨k',v,d',q,rfl,rfl,h1,hr⟩:=Jj h;obtain⟨b,x,y,hb,hx,hy,rfl⟩:=aj2 e;obtain⟨u,hu',ru⟩:=an4 rb hb;exact .hit hu' (amb 9 st hu h1 ru hx) (ih hr hy)
noncomputable def Oz:Value->Value->Bool
 |.none,.none=>true
 |.int a _,.int b _=>a==b
 |.bytes a _,.bytes b _=>a.toList==b.toList
 | _,_=>false
theorem ama{y x:Value}{b a:V}{r:Bool}(hy:Rep prog w C B y b)(hx:Rep prog w C B x a)(e:eqF b a=some r):Oz y x=r/\EqAt A s y x (Oz y x):=by
 induction b using V.casesOn with
 |none=>
  obtain rfl:=yg hy
  induction a using V.casesOn with
  |none=>obtain rfl:=yg hx;exact⟨ao e,EqAt.same _⟩
  |int i=>obtain⟨t,rfl⟩:=qy hx;exact⟨ao e,EqAt.none_int _ _⟩
  | _=>exact bh e
 |int i=>
  obtain⟨t,rfl⟩:=qy hy
  induction a using V.casesOn with
  |none=>obtain rfl:=yg hx;exact⟨ao e,EqAt.int_none _ _⟩
  |int i=>obtain⟨t,rfl⟩:=qy hx;exact⟨ao e,EqAt.int_int _ _ _ _⟩
  | _=>exact bh e
 |bytes b=>
  obtain⟨t,rfl⟩:=o9 hy
  induction a using V.casesOn with
  |bytes a=>obtain⟨u,rfl⟩:=o9 hx;exact⟨ao e,R5 _ _ _ _⟩
  | _=>exact bh e
 | _=>exact bh e
theorem aj3{a b:V}{ds:List V}{r:Bool}(e:inV a (b::ds)=some r):∃x y,eqF b a=some x/\inV a ds=some y/\(x||y)=r:=by
 have e:(match eqF b a,inV a ds with
  |some x,some y=>some (x||y)
  | _,_=>Option.none)=some r:=e
 cases h1:eqF b a with
 |none=>rw[h1]at e;exact bh e
 |some x=>
  rw[h1]at e;cases h2:inV a ds with
  |none=>rw[h2]at e;exact bh e
  |some y=>rw[h2]at e;exact⟨x,y,rfl,rfl,ao e⟩
theorem Wk{x:Value}{a:V}(hx:Rep prog w C B x a){vs:List Value}:∀{ds:List V}{r:Bool},p8 prog w C B vs ds->inV a ds=some r->
 vs.any (Oz · x)=r/\∀y∈vs,EqAt A s y x (Oz y x):=by
 induction vs with
 |nil=>intro ds r h e;obtain rfl:=yc h;exact⟨ao e,λ _ h=>nomatch h⟩
 |cons v vs ih=>
  intro ds r h e;obtain⟨b,ds,rfl,h1,hr⟩:=uh h;obtain⟨p,q,hp,hq,rfl⟩:=aj3 e;obtain⟨e1,e2⟩:=ama (A:=A) (s:=s) h1 hx hp;obtain⟨e3,e4⟩:=ih hr hq;refine⟨by rw[List.any_cons,e1,e3],λ y hy=>?_⟩
  rcases gb.mp hy with rfl|hy
  ·exact e2
  ·exact e4 y hy
noncomputable def Oa:J8->CmpOp
 |.lt=>.Lt|.le=>.LtE|.gt=>.Gt|.ge=>.GtE|.eq=>.Eq|.ne=>.NotEq|.inn=>.In|.nin=>.NotIn|.iss=>.Is|.isn=>.IsNot
theorem Uk{v:Value}{d:V}(h:Rep prog w C B v d):(v==.none)=isNone d:=by cases h<;>rfl
theorem Vq{o:Option Bool}{r:Bool}(e:o.map not=some r):∃q,o=some q/\(!q)=r:=by
 induction o with
 |none=>exact bh e
 |some q=>exact⟨q,rfl,ao e⟩
theorem Wf{o:J8}{x y:V}{r:Bool}{a b:Value}{Q:QV}(st:B.StaysIn s.heap)(hu:A.units+12<cLine)(hx:Rep prog w C B a x)(hy:Rep prog w C B b y)(e:xg o x y=some r)
 (k:Q (.bool r) s):wpAny (model prog w) A (compareOp (Oa o) a b) Q E s:=by
 have kz:∀{d},some d=some r->Q (.bool d) s:=λ h=>ao h▸k;have ii:∀{o}{f:Int->Int->Option _},Nt (λ x=>Nt (f x) y) x=some r->(∀i t j u,f i j=some r->wpAny (model prog w) A (compareOp o (.int i t) (.int j u)) Q E s)->wpAny (model prog w) A (compareOp o a b) Q E s:=λ e K=>by
  obtain⟨i,t,rfl,e⟩:=alk hx e;obtain⟨j,u,rfl,e⟩:=alk hy e;exact K i t j u e
 clear k
 induction o with
 |lt=>exact ii (f:=λ x y=>some (decide (x<y))) e λ _ _ _ _ e=>P.lt_int (kz e)
 |le=>exact ii (f:=λ x y=>some (decide (x<=y))) e λ _ _ _ _ e=>P.le_int (kz e)
 |gt=>exact ii (f:=λ x y=>some (decide (y<x))) e λ _ _ _ _ e=>P.gt_int (kz e)
 |ge=>exact ii (f:=λ x y=>some (decide (y<=x))) e λ _ _ _ _ e=>P.ge_int (kz e)
 |eq=>
  induction x using V.casesOn with
  |int x=>exact ii (f:=λ x y=>some (x==y)) e λ _ _ _ _ e=>P.eq_int (kz e)
  |bytes x=>obtain⟨y,u,rfl,e⟩:=amc hy e;obtain⟨t,rfl⟩:=o9 hx;exact Yt _ _ _ _ prog w E Q (kz e)
  |list x=>
   obtain⟨y,u,rfl,e⟩:=amc hy e;obtain⟨p,vs,n,rfl,hp,rp⟩:=qm hx;exact Tc (st _ _ hp) (Sv hu) prog w E Q (kz e)
  | _=>exact bh e
 |ne=>
  induction x using V.casesOn with
  |int x=>exact ii (f:=λ x y=>some (x != y)) e λ _ _ _ _ e=>P.ne_int (kz e)
  |bytes x=>obtain⟨y,u,rfl,e⟩:=amc hy e;obtain⟨t,rfl⟩:=o9 hx;exact ne_bytes (by simpa using kz e)
  |list xs=>
   obtain⟨p,vs,n,rfl,hp,rp⟩:=qm hx
   clear hx ii
   induction y using V.casesOn with
   |bytes y=>
    obtain⟨u,rfl⟩:=o9 hy;exact Pj (st _ _ hp) (Sv hu) (kz e)
   |list ys=>
    induction ys using List.casesOn with
    |cons _ _=>exact bh e
    |nil=>
     obtain⟨q,ws,m,rfl,hq,rq⟩:=qm hy;have lp:s.heap.IsList p vs.toArray:=⟨_,st _ _ hp,rfl,_,rfl⟩;have lq:s.heap.IsList q ws.toArray:=⟨_,st _ _ hq,rfl,_,rfl⟩;obtain rfl:ws=[]:=u5 rq.length
     induction xs using List.casesOn with
     |nil=>
      obtain rfl:vs=[]:=u5 rp.length;exact RcNeAt.lists (e:=λ _=>true) lp lq rfl (Sv hu) (λ j h1=>nomatch h1) prog w E Q (kz e)
     |cons x xs=>
      induction vs using List.casesOn with
      |nil=>exact nomatch rp.length
      |cons v vs=>exact RcNeAt.lists_lengths lp lq rfl (Sv hu) prog w E Q (kz e)
   | _=>exact bh e
  |none=>
   obtain rfl:=yg hx
   clear hx ii
   induction y using V.casesOn with
   |none=>obtain rfl:=yg hy;exact RcNeAt.none_none prog w E Q (kz e)
   |dict y=>
    obtain⟨q,kvs,rfl,n,h,r⟩:=Io hy;exact Vp (s8 prog w st h).typeIs (Sv hu) (kz e)
   | _=>exact bh e
  |dict x=>
   obtain⟨p,kx,rfl,n1,h1,r1⟩:=Io hx
   clear hx ii
   induction y using V.casesOn with
   |none=>
    obtain rfl:=yg hy;exact Wo (s8 prog w st h1).typeIs (Sv hu) (kz e)
   |dict y=>
    obtain⟨q,ky,rfl,n2,h2,r2⟩:=Io hy
    by_cases hl:x.length=y.length
    ·obtain⟨b,hd,hb⟩:=Vq ((bf hl).symm.trans e);have hl':=(Fy r1).trans (hl.trans (Fy r2).symm);refine keq_ne n1 n2 (s8 prog w st h1) (s8 prog w st h2) (Sv hu) (λ _=>am4 st (az2 hu) r2 r1 hd) ?_;have k:=kz (au some hb)
     simpa[hl']using k
    ·exact bh ((bx hl).symm.trans e)
   | _=>exact bh e
  | _=>exact bh e
 |inn=>
  clear ii
  induction y using V.casesOn with
  |tuple y=>
   obtain⟨q,ws,m,rfl,hq,rq⟩:=vm hy;obtain⟨e1,e2⟩:=Wk (A:=A.in1) (s:=s) hx rq e;exact in_tupleAt (Oz · a) ⟨_,st _ _ hq,rfl,_,rfl⟩ (λ y hy=>e2 y (List.mem_toArray.mp hy)) (kz (au some (List.any_toArray.trans e1)))
  |list y=>
   obtain⟨q,ws,m,rfl,hq,rq⟩:=qm hy;obtain⟨e1,e2⟩:=Wk (A:=A.in1) (s:=s) hx rq e;exact in_listAt (Oz · a) ⟨_,st _ _ hq,rfl,_,rfl⟩ (λ y hy=>e2 y (List.mem_toArray.mp hy)) (kz (au some (List.any_toArray.trans e1)))
  | _=>exact bh e
 |nin=>
  clear ii
  induction y using V.casesOn with
  |tuple y=>
   obtain⟨b,hi,hb⟩:=Vq e;obtain⟨q,ws,m,rfl,hq,rq⟩:=vm hy;obtain⟨e1,e2⟩:=Wk (A:=A.in1) (s:=s) hx rq hi;exact notIn_tupleAt (Oz · a) ⟨_,st _ _ hq,rfl,_,rfl⟩ (λ y hy=>e2 y (List.mem_toArray.mp hy)) (kz (au some ((au not (List.any_toArray.trans e1)).trans hb)))
  |list y=>
   obtain⟨b,hi,hb⟩:=Vq e;obtain⟨q,ws,m,rfl,hq,rq⟩:=qm hy;obtain⟨e1,e2⟩:=Wk (A:=A.in1) (s:=s) hx rq hi;exact notIn_listAt (Oz · a) ⟨_,st _ _ hq,rfl,_,rfl⟩ (λ y hy=>e2 y (List.mem_toArray.mp hy)) (kz (au some ((au not (List.any_toArray.trans e1)).trans hb)))
  | _=>exact bh e
 |iss=>obtain⟨rfl,e⟩:=au9 hy e;exact is_none (kz (by rw[Uk hx];exact e))
 |isn=>obtain⟨rfl,e⟩:=au9 hy e;exact isNot_none (kz (by rw[Uk hx];exact e))
end Mine.Internal
namespace Mine.Internal
variable{prog:Program}{w:World}{C:Addr}{A:Around}{E:QV}{s:Shared}{B:Heap}
theorem Pk(slice:Expr)(o i:Value):∃ops,subscripted slice false o i=operate ops (getItem o i):=by
 cases slice with
 |Slice a b c p=>cases c<;>exact⟨_,rfl⟩
 | _=>exact⟨_,rfl⟩
theorem Ww{α : Type}{q:Prop}[Decidable q]{o:Option α}{b : α}(h:(if q then o else none)=some b):q/\o=some b:=by
 by_cases k:q
 ·rw[bf k]at h;exact⟨k,h⟩
 ·rw[bx k]at h;exact bh h
theorem map_some{α β : Type}{o:Option α}{f : α->β}{z : β}(h:o.map f=some z):∃x,o=some x/\f x=z:=by
 induction o with
 |none=>exact bh h
 |some x=>exact⟨x,rfl,ao h⟩
theorem Fo{value slice:Expr}{o i:Value}{T id:String}{Q:QV}(hT:s.TypeIs o T)(hl:typeLookup (.type T) "__getitem__" = pure (some (.builtin id)))
 (hg:wpAny (model prog w) A (getItem o i) Q E s):wpAny (model prog w) A (subscriptTail value slice o i) Q E s:=by
 obtain⟨ops,hs⟩:=Pk slice o i;exact tail_any hT hl hg hs
theorem Rj{i:Int}{n j:Nat}(h:place i n=some j):(0<=i/\i<n/\j=i.toNat)\/(i<0/\-(n:Int)<=i/\j=(i+n).toNat):=by
 by_cases h0 : 0<=i
 ·obtain⟨h1,rfl⟩:=o7 ((bf h0).symm.trans h);exact .inl ⟨h0,h1,rfl⟩
 ·obtain⟨h1,rfl⟩:=o7 ((bx h0).symm.trans h);exact .inr ⟨by lia,by lia,rfl⟩
theorem bind_some{α β : Type}{o:Option α}{f : α->Option β}{b : β}(h:o.bind f=some b):∃a,o=some a/\f a=some b:=by
 induction o with
 |none=>exact bh h
 |some a=>exact⟨a,rfl,h⟩
theorem Ly{value slice:Expr}{a:Addr}{vs:List Value}{n:Nat}{ds:List V}{vk:Value}{k z:V}{Q:QV}(ha:s.heap.get? a=some { cls:=.type "list",data:=.seq vs.toArray n }) (r:p8 prog w C B vs ds)
 (hk:Rep prog w C B vk k) (e:zp (.list ds) k=some z) (h:∀v,Rep prog w C B v z->Q v s):wpAny (model prog w) A (subscriptTail value slice (.ref a) vk) Q E s:=by
 induction k using V.casesOn with
 |int i=>
  obtain⟨t,rfl⟩:=qy hk
  ·obtain⟨hlim,e⟩:=Ww e;obtain⟨j,hj,he⟩:=bind_some e;obtain⟨v,hv,rv⟩:=r.get he;have hl:s.heap.IsList a vs.toArray:=⟨_,ha,rfl,_,rfl⟩;have hn:=r.length;unfold lim at hlim;refine Fo hl.typeIs slot_list_getitem.lookup ?_;rcases Rj hj with⟨h0,h1,rfl⟩|⟨h0,h1,rfl⟩
   ·exact wpAny_getItem_list hl h0 (ap5 h1 hlim) (by simpa using hv) (h v rv)
   ·exact wpAny_getItem_list_neg hl h0 (by simpa[hn]using h1) (aoy h1 hlim) (by simpa[hn]using hv) (h v rv)
 | _=>exact bh e
theorem Tq{value slice:Expr}{a:Addr}{vs:List Value}{n:Nat}{ds:List V}{vk:Value}{k z:V}{Q:QV}(ha:s.heap.get? a=some { cls:=.type "tuple",data:=.seq vs.toArray n }) (r:p8 prog w C B vs ds)
 (hk:Rep prog w C B vk k) (e:zp (.tuple ds) k=some z) (h:∀v,Rep prog w C B v z->Q v s):wpAny (model prog w) A (subscriptTail value slice (.ref a) vk) Q E s:=by
 induction k using V.casesOn with
 |int i=>
  obtain⟨t,rfl⟩:=qy hk
  ·obtain⟨hlim,e⟩:=Ww e;obtain⟨j,hj,he⟩:=bind_some e;obtain⟨v,hv,rv⟩:=r.get he;have hn:=r.length;unfold lim at hlim;refine Fo (T:="tuple") ⟨_,ha,rfl⟩ slot_tuple_getitem.lookup ?_;rcases Rj hj with⟨h0,h1,rfl⟩|⟨h0,h1,rfl⟩
   ·exact P.getItem_tuple (k:=i.toNat) ha (aze h0) (ap5 h1 hlim) (seqIndex_of h0 (by simpa[hn]using h1)) (by simpa using hv) (h v rv)
   ·exact P.getItem_tuple (k:=(i+ds.length).toNat) ha (aoy h1 hlim) (awd h0) (by rw[seqIndex_neg h0 (by simpa[hn]using h1)];simp[hn]) (by simpa using hv) (h v rv)
 | _=>exact bh e
theorem Hg{value slice:Expr}{a:Addr}{kvs:List (Str×Value)}{x:String}{v:Value}{t:Tok}{Q:QV}(ha:s.heap.DictOf (strKind prog w) a kvs)(hv:valueAt kvs (Str.ofString x)=some v)
 (h:∀tk,Q v { s with toks:=tk }):wpAny (model prog w) A (subscriptTail value slice (.ref a) (.str (Str.ofString x) t)) Q E s:=
 Fo ha.typeIs slot_dict_getitem.lookup (wpAny_getItem_of (strKind_is prog w _ t) ha.mapOf hv (h _))
theorem Z6{value slice:Expr}{va vk:Value}{a k z:V}{Q:QV}(st:B.StaysIn s.heap)(ha:Rep prog w C B va a)(hk:Rep prog w C B vk k)(e:zp a k=some z)
 (h:∀v tk,Rep prog w C B v z->Q v { s with toks:=tk }):wpAny (model prog w) A (subscriptTail value slice va vk) Q E s:=by
 induction a using V.casesOn with
 |list ds=>
  obtain⟨p,vs,n,rfl,hp,rp⟩:=qm ha;exact Ly (st _ _ hp) rp hk e λ v rv=>h v s.toks rv
 |tuple ds=>
  obtain⟨p,vs,n,rfl,hp,rp⟩:=vm ha;exact Tq (st _ _ hp) rp hk e λ v rv=>h v s.toks rv
 |bytes l=>
  obtain⟨t,rfl⟩:=o9 ha
  induction k using V.casesOn with
  |int i=>
   obtain⟨u,rfl⟩:=qy hk
   ·obtain⟨hc,e⟩:=Ww e;cases hq:l[i.toNat]? with
    |none=>rw[hq]at e;exact bh e
    |some c=>
     rw[hq]at e;obtain rfl:=ao e;obtain⟨hlt,hc'⟩:=iw.mp hq;refine Fo (T:="bytes") rfl FB.slot_bytes_getitem.lookup (getItem_bytes (ak hc.2 (aj rfl)) hc.1 ((Int.toNat_lt hc.1).mp hlt) ?_);have:l.getD i.toNat 0=c:=by simp[List.getD,hq]
     rw[this];exact h _ _ (.int _ _ _)
  | _=>exact bh e
 |dict ds=>
  obtain⟨p,kvs,rfl,n,hd,r⟩:=Io ha
  induction k using V.casesOn with
  |str x=>
   obtain⟨t,rfl⟩:=Jk hk;obtain⟨v,hv,rv⟩:=an4 r e;exact Hg (s8 prog w st hd) hv λ tk=>h v tk rv
  | _=>exact bh e
 | _=>exact bh e
theorem Yx{value slice:Expr}{a:Addr}{vs:List Value}{n:Nat}{ds:List V}{lo hi:Option Int}{vl vu:Value}{Q:QV}(st:B.StaysIn s.heap)(ha:B.get? a=some { cls:=.type "list",data:=.seq vs.toArray n }) (r:p8 prog w C B vs ds)
 (pl:IsPart vl lo) (pu:IsPart vu hi) (hz:ds.length<=lim) (k:Made prog w C B s (.list (cut ds lo hi)) Q):
 wpAny (model prog w) A (subscriptTail value slice (.ref a) (.ref s.heap.objs.size)) Q E { s with heap:=s.heap.push { cls:=.type "slice",data:=.fields #[vl,vu,.none] } }:=by
 have hn:=r.length;have st1:B.StaysIn (s.heap.push { cls:=.type "slice",data:=.fields #[vl,vu,.none] }):=λ _ _ e=>Heap.get?_push_of_some _ (st _ _ e);have hl:(s.heap.push { cls:=.type "slice",data:=.fields #[vl,vu,.none] }).IsList a vs.toArray:=⟨_,st1 _ _ ha,rfl,_,rfl⟩;refine Fo (s:={ s with heap:=s.heap.push { cls:=.type "slice",data:=.fields #[vl,vu,.none] } }) hl.typeIs slot_list_getitem.lookup ?_;refine wpAny_getItem_list_slice (lo:=lo) (hi:=hi) (st:=none) hl (Heap.IsSliceOf.new _ _ _ _) pl pu .none (λ h=>nomatch h) ?_ (Lq hn hz);rw[slicePick_plain];have e:(vs.toArray.toList.drop (lo.elim 0 (clipAt vs.toArray.size))).take (hi.elim vs.toArray.size (clipAt vs.toArray.size)-lo.elim 0 (clipAt vs.toArray.size))=cut vs lo hi:=by
  simp only[cut,gn]
  rfl
 rw[e];have rc:p8 prog w C B (cut vs lo hi) (cut ds lo hi):=by
  simp only[cut,hn];exact(r.drop _).take _
 have x:Ext B s.heap (grow B s.heap ((s.heap.push { cls:=.type "slice",data:=.fields #[vl,vu,.none] }).push { cls:=.type "list",data:=.seq (cut vs lo hi).toArray })) ((s.heap.push { cls:=.type "slice",data:=.fields #[vl,vu,.none] }).push { cls:=.type "list",data:=.seq (cut vs lo hi).toArray }):=
  .grow st λ _ _ e=>Heap.get?_push_of_some _ (Heap.get?_push_of_some _ e)
 refine k _ _ _ s.toks x (.list (n:=0) ?_ (rc.mono x.base));exact I7 (by rw[Heap.size_push];exact Nat.le_succ _) (Heap.get?_push_size _ rfl)
theorem atz{value slice:Expr}{va:Value}{a z:V}{lo hi:Option Int}{vl vu:Value}{Q:QV}(st:B.StaysIn s.heap)(ha:Rep prog w C B va a)
 (pl:IsPart vl lo) (pu:IsPart vu hi) (e:axy a lo hi=some z) (k:Made prog w C B s z Q):
 wpAny (model prog w) A (subscriptTail value slice va (.ref s.heap.objs.size)) Q E { s with heap:=s.heap.push { cls:=.type "slice",data:=.fields #[vl,vu,.none] } }:=by
 induction a using V.casesOn with
 |bytes b=>
  ·obtain⟨hz,rfl⟩:=o7 e;obtain⟨t,rfl⟩:=o9 ha;refine Fo (T:="bytes") rfl FB.slot_bytes_getitem.lookup ?_;refine getItem_meets (typeIs_bytes _ _ _) (by decide) FB.slot_bytes_getitem FB.entry_bytes_getitem (FB.args_bytes_getitem_2 _ _) (KBc.meets_slice2 b.toArray t _ pl pu) ⟨Heap.IsSliceOf.new _ _ _ _,?_,λ t' q=>?_⟩
   ·refine ak (KBc.size_picked_le _ lo hi) ?_;exact Rx hz
   ·have e:KBy.picked b.toArray lo hi=(cut b lo hi).toArray:=by
     rw[KBc.picked_eq];simp only[cut,gn]
     rfl
    rw[e];have x:Ext B s.heap B (s.heap.push { cls:=.type "slice",data:=.fields #[vl,vu,.none] }):=⟨λ _ _ e=>Heap.get?_push_of_some _ e,lu _,λ _ _ e=>Heap.get?_push_of_some _ (st _ _ e),λ _ h1 h2=>absurd h1 h2⟩;exact k _ _ _ _ x (.bytes _ _ _)
 |list ds=>
  ·obtain⟨hz,rfl⟩:=o7 e;obtain⟨p,vs,n,rfl,hp,rp⟩:=qm ha;exact Yx st hp rp pl pu hz k
 |tuple l=>
  induction lo with
  |none=>exact bh e
  |some a₀=>
  induction hi with
  |some _=>exact bh e
  |none=>
   ·obtain⟨hc,rfl⟩:=o7 e;obtain⟨p,vs,n,rfl,hp,rp⟩:=vm ha;obtain⟨h1,h2,h3⟩:=hc;obtain⟨m,rfl⟩:=s6 (Int.le_trans (by decide) h1)
    cases pl with
    |int _ tk=>
    cases pu;have hn:=rp.length;have ht:IsTup (s.heap.push { cls:=.type "slice",data:=.fields #[.int m tk,.none,.none] }) p vs.toArray:=⟨_,Heap.get?_push_of_some _ (st _ _ hp),rfl,_,rfl⟩;refine Fo (T:="tuple") ht.typeIs slot_tuple_getitem.lookup ?_;refine getItem_tuple_from (a:=m) ht (Heap.IsSliceOf.new _ _ _ _) (Int.ofNat_le.mp h1) (by rw[gn,hn];exact Int.ofNat_le.mp h2) ?_ (Lq hn h3)
    rw[show((m:Int)).toNat=m from rfl]at k;have x:=Ext.grow (B:=B) (h:=s.heap) (h':=(s.heap.push { cls:=.type "slice",data:=.fields #[.int m tk,.none,.none] }).push { cls:=.type "tuple",data:=.seq (vs.drop m).toArray }) st λ _ _ e=>Heap.get?_push_of_some _ (Heap.get?_push_of_some _ e);exact k _ _ _ s.toks x (.tuple (n:=0) (I7 (by rw[Heap.size_push];exact Nat.le_succ _) (Heap.get?_push_size _ rfl)) ((rp.drop m).mono x.base))
 | _=>exact bh e
end Mine.Internal
namespace Mine.Internal
variable{prog:Program}{w:World}{C:Addr}{A:Around}{E:QV}{s:Shared}{B:Heap}
theorem Yl(h:Heap):Frag.In [] h:=λ _ _ e=>by cases e
theorem ag4{v:Value}{d:V}{b:Bool}{Q:QV}(st:B.StaysIn s.heap)(hv:Rep prog w C B v d)(e:z6 d=some b)(k:∀tk,Q (.bool b) { s with toks:=tk }):
 wpAny (model prog w) A (call (.builtin "isinstance") [v,.type "list"]) Q E s:=by
 induction d using V.casesOn with
 |list ds=>
  obtain rfl:=ao e;obtain⟨p,vs,n,rfl,hp,rp⟩:=qm hv;exact IsiPair.list_list (st _ _ hp) rfl (k s.toks)
 |bytes l=>
  obtain rfl:=ao e;obtain⟨t,rfl⟩:=o9 hv;exact kia_one (K:=[]) kitx_bytes (Yl _) trivial (b:=false) (by decide) (λ h=>nomatch h) k
 |str x=>
  obtain rfl:=ao e;obtain⟨t,rfl⟩:=Jk hv;exact IsiPair.str_list (k _)
 |none=>
  obtain rfl:=ao e;obtain rfl:=yg hv;exact kia_one (K:=[]) kitx_none (Yl _) trivial (b:=false) (by decide) (λ h=>nomatch h) k
 | _=>exact bh e
theorem aij{v:Value}{d:V}{b:Bool}{Q:QV}(hv:Rep prog w C B v d)(e:Mx d=some b)(k:∀tk,Q (.bool b) { s with toks:=tk }):
 wpAny (model prog w) A (call (.builtin "isinstance") [v,.type "bytes"]) Q E s:=by
 induction d using V.casesOn with
 |bytes l=>
  obtain rfl:=ao e;obtain⟨t,rfl⟩:=o9 hv;exact kia_one (K:=[]) kitx_bytes (Yl _) trivial (b:=true) (by decide) (λ h=>nomatch h) k
 |str x=>
  obtain rfl:=ao e;obtain⟨t,rfl⟩:=Jk hv;exact IsiPair.str_bytes (k _)
 | _=>exact bh e
theorem Pa{a:Addr}{vs:List Value}{n:Nat}{ds:List V}{z:V}{Q:QV}(ha:s.heap.get? a=some { cls:=.type "list",data:=.seq vs.toArray n }) (r:p8 prog w C B vs ds)
 (e:lenV (.list ds)=some z) (k:∀v tk,Rep prog w C B v z->Q v { s with toks:=tk }):wpAny (model prog w) A (call (.builtin "len") [.ref a]) Q E s:=by
 ·obtain⟨hz,rfl⟩:=o7 e;have hl:s.heap.IsList a vs.toArray:=⟨_,ha,rfl,_,rfl⟩;refine Calls.call_len_list hl (by rw[gn,r.length];exact amm hz) ?_
  rw[gn,r.length];exact k _ _ (.int _ _ _)
theorem af2{v:Value}{d z:V}{Q:QV}(st:B.StaysIn s.heap)(hv:Rep prog w C B v d)(e:lenV d=some z)(k:∀v tk,Rep prog w C B v z->Q v { s with toks:=tk }):
 wpAny (model prog w) A (call (.builtin "len") [v]) Q E s:=by
 induction d using V.casesOn with
 |list ds=>
  obtain⟨p,vs,n,rfl,hp,rp⟩:=qm hv;exact Pa (st _ _ hp) rp e k
 |tuple ds=>
  obtain⟨p,vs,n,rfl,hp,rp⟩:=vm hv
  ·obtain⟨hz,rfl⟩:=o7 e;refine P.len_tuple (st _ _ hp) (by rw[gn,rp.length];exact Int.not_le.mpr (amm hz)) ?_
   rw[gn,rp.length];exact k _ _ (.int _ _ _)
 |bytes l=>
  obtain⟨t,rfl⟩:=o9 hv
  ·obtain⟨hz,rfl⟩:=o7 e;refine len_bytes (ak hz (aj rfl)) ?_;rw[gn];exact k _ _ (.int _ _ _)
 | _=>exact bh e
theorem intsAre_of{B:Heap}{vs:List Value}:∀{ds:List V}{ns:List Int},p8 prog w C B vs ds->intsOf ds=some ns->IntsAre vs ns:=by
 induction vs with
 |nil=>intro ds ns h e;obtain rfl:=yc h;obtain rfl:=ao e;exact .nil
 |cons v vs ih=>
  intro ds ns h e;obtain⟨d,r,rfl,h1,hr⟩:=uh h
  induction d using V.casesOn with
  |int i=>
   obtain⟨t,rfl⟩:=qy h1;obtain⟨ms,hm,rfl⟩:=map_some e;exact .cons _ _ (ih hr hm)
  | _=>exact bh e
theorem aqa{v:Value}{d z:V}{Q:QV}(st:B.StaysIn s.heap)(hh:A.handled=none)(hv:Rep prog w C B v d)(e:Bq d=some z)(k:Made prog w C B s z Q):
 wpAny (model prog w) A (call (.type "bytes") [v]) Q E s:=by
 induction d using V.casesOn with
 |list ds=>
  obtain⟨p,vs,n,rfl,hp,rp⟩:=qm hv;have e:(match intsOf ds with
   |some ns=>if(ns.all λ n=>decide (0<=n)&&decide (n<256))=true/\ns.length<=lim then some (V.bytes (ns.map λ n=>n.toNat.toUInt8))else Option.none
   |Option.none=>Option.none)=some z:=e
  cases hns:intsOf ds with
  |none=>rw[hns]at e;exact bh e
  |some ns=>
   rw[hns]at e
   ·obtain⟨hc,rfl⟩:=o7 e;have hi:=intsAre_of rp hns;have hl:s.heap.IsList p vs.toArray:=⟨_,st _ _ hp,rfl,_,rfl⟩;refine call_bytes_ints hl hi (λ n hn=>?_) (Lq hi.length hc.2) hh λ h' t q hk=>?_
    ·have:=List.all_eq_true.mp hc.1 n hn
     simpa using this
    ·have x:Ext B s.heap B h':=⟨hk,lu _,λ _ _ e=>hk _ _ (st _ _ e),λ _ h1 h2=>absurd h1 h2⟩;have:byteArr ns=(ns.map λ n=>n.toNat.toUInt8).toArray:=rfl;rw[this];exact k _ _ _ _ x (.bytes _ _ _)
 | _=>exact bh e
theorem aai{i:Int}(h : 0<=i):Builtin.Int.intBits i=yj i.toNat:=by
 obtain⟨n,rfl⟩:=s6 h;unfold Builtin.Int.intBits yj;simp
theorem aer{v:Value}{i:Int}{Q:QV}(hv:Rep prog w C B v (.int i))(h : 0<=i)(k:∀v tk,Rep prog w C B v (.int (yj i.toNat))->Q v { s with toks:=tk }):
 wpAny (model prog w) A (call (.builtin "int.bit_length") [v]) Q E s:=by
 obtain⟨t,rfl⟩:=qy hv;refine call_gives PySem.F.slot_int_bit_length (PySem.typeIs_int s i t) PySem.F.entry_int_bit_length (PySem.F.args_int_bit_length_1 _) (PySem.AutoIntG2.int_bit_length_int_0 i t) ?_;rw[aai h];exact k _ _ (.int _ _ _)
end Mine.Internal
namespace Mine.Internal
variable{prog:Program}{w:World}{C:Addr}{A:Around}{E:QV}{s:Shared}{B:Heap}
theorem X8:∀(k n:Nat),(yh k n).map (λ c=>((c.toNat:Nat):Int))=(KTBy.little k (n:Int)).reverse
 |0,_=>rfl
 |k+1,n=>by
  rw[yh,nu,X8 k,KTBy.little,List.reverse_cons];have e:((n/256:Nat):Int)=(n:Int)/256:=rfl;rw[e]
  congr 1
  simp only[je,List.map_nil,List.cons.injEq,and_true];have:((n%256).toUInt8).toNat=n%256:=by
   rw[Nat.toUInt8,UInt8.toNat_ofNat'];exact Nat.mod_mod _ _
  rw[this]
  rfl
theorem bytes_ext{a b:List UInt8}(h:a.map (λ c=>((c.toNat:Nat):Int))=b.map (λ c=>((c.toNat:Nat):Int))):a=b:=by
 refine(List.map_inj_right ?_).mp h;intro x y hxy;exact UInt8.toNat_inj.mp (ju hxy)
theorem aay{v u:Value}{i k:Int}{t:Tok}{Q:QV}(hv:Rep prog w C B v (.int i))(hu:Rep prog w C B u (.int k))(h0 : 0<=i)(hk : 0<=k)(hk2:k<=1000)(h1:i<256^k.toNat)
 (q:∀v tk,Rep prog w C B v (.bytes (yh k.toNat i.toNat))->Q v { s with toks:=tk }):
 wpAny (model prog w) A (call (.builtin "int.to_bytes") [v,u,.str (PySem.Str.ofString "big") t]) Q E s:=by
 obtain⟨t1,rfl⟩:=qy hv;obtain⟨t2,rfl⟩:=qy hu;obtain⟨n,rfl⟩:=s6 hk;obtain⟨m,rfl⟩:=s6 h0;rw[show((n:Int)).toNat=n from rfl]at h1 q;rw[show((m:Int)).toNat=m from rfl]at q;have hn:n<=1000:=Int.ofNat_le.mp hk2;refine wpAny_call_entry KTBy.slot (PySem.typeIs_int s _ t1) KTBy.entry ?_ (KTBy.args _ _ _);have hb:=KTBy.bits_le (B:=256^n) rfl h0 h1;show wpAny _ _ (Builtin.Int.intOfSelf (.int (m:Int) t1) >>= λ y=>_) _ _ s;refine wpAny_bind (wpAny_of_eq (a:=(m:Int)) rfl ?_);show wpAny _ _ (Builtin.Int.intBindNamed "to_bytes" ["length","byteorder","signed"] 0 2 [.int (n:Int) t2,.str (PySem.Str.ofString "big") t] [] >>= λ l=>_) _ _ s;refine wpAny_bind (wpAny_of_eq (a:=[some (.int (n:Int) t2),some (.str (PySem.Str.ofString "big") t),none]) (by kernel_rfl) ?_)
 show wpAny _ _ (Builtin.Int.intIndex "int.to_bytes" (.int (n:Int) t2) >>= λ n=>_) _ _ s;refine wpAny_bind (wpAny_of_eq (a:=(n:Int)) rfl ?_);refine KTBy.if_not (by show(decide ((n:Int) < -(2^63:Int))||decide ((n:Int)≥2^63))=false;rw[ig (show ¬((n:Int) < -(2^63:Int)) from Int.not_lt.mpr (Int.le_trans (by decide) hk)),ig (show ¬((n:Int)≥2^63) from Int.not_le.mpr (Int.lt_of_le_of_lt hk2 (by decide)))];rfl) ?_
 refine wpAny_bind (wpAny_of_eq (a:=PySem.Str.ofString "big") (by kernel_rfl) ?_)
 refine wpAny_bind (wpAny_of_eq (a:=false) rfl ?_);refine wpAny_bind (wpAny_of_eq (a:=false) (by kernel_rfl) ?_)
 refine wpAny_ite_false (ig (Int.not_lt.mpr hk)) ?_;refine wpAny_ite_false (ig (Int.not_lt.mpr (Int.le_trans hk2 (by decide)))) ?_
 refine wpAny_ite_false (ig (Int.not_lt.mpr (Int.ofNat_le.mpr (Ur rfl hn)))) ?_;refine KTBy.if_not (by show(decide ((m:Int)<0)&&!false)=false;rw[ig (Int.not_lt.mpr h0)];rfl) ?_
 refine KTBy.if_not (by show(_&&decide ((Builtin.Int.intBits (m:Int):Int)>8*(n:Int)))=false;rw[ig (show ¬((Builtin.Int.intBits (m:Int):Int)>8*(n:Int)) from Int.not_lt.mpr (Int.ofNat_le.mpr hb)),Bool.and_false]) ?_
 have hd:List.reverse (KTBy.low (m:Int) (Int.toNat (n:Int)))=yh n m:=by
  refine bytes_ext ?_;rw[List.map_reverse,Int.toNat_natCast,KTBy.low_ints h0 h1,<-KTBy.little_eq,X8]
 refine wpAny_bind (wpAny_mkBytes (wpAny_pure ⟨_,rfl,?_⟩) (by show(List.reverse (KTBy.low (m:Int) (Int.toNat (n:Int)))).length<=sizeLine;rw[List.length_reverse,KTBy.low_length,Int.toNat_natCast];exact Ur rfl hn))
 show Q (.bytes (List.reverse (KTBy.low (m:Int) (Int.toNat (n:Int)))).toArray _) _;rw[hd];exact q _ _ (.bytes _ _ _)
theorem aje(l:List UInt8):p7 l<256^l.length:=by
 have:=KFB.fold_lt l 0;unfold p7;rw[lg,Nat.one_mul]at this;exact this
theorem ahz{n:Nat}{M:Model}{Q:QV}(hn:n<256^1000)(h:Q (.int (n:Int) s.toks) { s with toks:=s.toks+1 }):wpAny M A (mkIntGrown (n:Int)) Q E s:=by
 unfold mkIntGrown;have hl:¬((n:Int).natAbs.log2≥bitsLine):=by
  rw[Int.natAbs_natCast];have hb:bitsLine=134217728:=by first|rfl|decide
  have h8:(256:Nat)^1000=2^8000:=by rw[show(256:Nat)=2^8 from rfl,<-Nat.pow_mul]
  rw[h8]at hn
  by_cases hz:n=0
  ·subst hz;rw[hb]
   decide
  ·rw[hb];exact Nat.not_le.mpr (Nat.lt_trans ((Nat.log2_lt hz).mpr hn) (aj rfl))
 rw[bx hl];exact wpAny_mkInt h
theorem afj{l:List UInt8}{M:Model}{t u:Tok}{P:Fin->Shared->Prop}(hl:l.length<=1000)(h:P (.done (.ret (.int (p7 l) s.toks))) { s with toks:=s.toks+1 }):
 wpAny M A (Builtin.«int.from_bytes» ⟨[.type "int",.bytes l.toArray t,.str (PySem.Str.ofString "big") u],[]⟩) P E s:=by
 have hn:p7 l<256^1000:=cu (aje l) (u6 (by decide) hl)
 unfold Builtin.«int.from_bytes»;refine wpAny_bind (wpAny_of_eq (a:=true) KFB.type_int ?_);refine KFB.if_not rfl ?_;refine wpAny_bind (wpAny_of_eq (a:=true) PySem.F.conv_sub_int ?_);refine KFB.if_not rfl ?_;refine wpAny_bind (wpAny_of_eq (a:=[some (.bytes l.toArray t),some (.str (PySem.Str.ofString "big") u),none]) (by kernel_rfl) ?_)
 refine wpAny_bind (wpAny_of_eq (a:=PySem.Str.ofString "big") (by kernel_rfl) ?_)
 refine wpAny_bind (wpAny_of_eq (a:=false) rfl ?_);refine wpAny_bind (wpAny_of_eq (a:=false) (by kernel_rfl) ?_)
 refine wpAny_bind (wpAny_of_eq (a:=l.toArray) rfl ?_);show wpAny _ _ (mkIntGrown (l.foldl (λ (acc:Int) (b:UInt8)=>acc*256+(b.toNat:Int)) ((0:Nat):Int)) >>= λ v=>_) _ _ _;rw[KFB.foldI_eq];refine wpAny_bind (ahz hn ?_);refine KFB.if_so (by decide +kernel) ?_
 exact wpAny_bind (wpAny_pure (wpAny_pure h))
theorem Xp{pl:Sem Bool}{Q:Value×List Value->Shared->Prop}
 (h:∀tk,Q (.ref s.heap.objs.size,[]) { s with heap:=s.heap.push KFB.bound,toks:=tk }):
 wpAny (model prog w) A (getMethod (.type "int") (PySem.Str.ofString "from_bytes") pl) Q E s:=by
 have X:=Yl s.heap;have ty:Looks (model prog w) s.heap (typeOf (.type "int")) (.type "type"):=Looks.of_pure (by first|rfl|kernel_rfl)
 have ga:findIn [] (.type "type") "__getattribute__" = some (some (.builtin "type.__getattribute__")):=type_tga;have op:Looks (model prog w) s.heap (opaqueClassAbove (.type "int")) none:=Looks.of_pure (by unfold opaqueClassAbove;dsimp only;rw[show Manifest.isStub "int" = false by decide +kernel];rfl)
 have fd:findCls [] (.type "int") (.type "type") (PySem.Str.ofString "from_bytes")=some (.get (.builtin "classmethod_descriptor.__get__") (.builtin "int.from_bytes") .none (.type "int")):=by kernel_rfl
 unfold getMethod specialOf;refine wpAny_bind (wpAny_bind (ty.here ((looks_findIn X ga).here ?_)));dsimp only;rw[bf canon_tga];refine wpAny_bind (wpAny_mono (Q:=λ v=>Q (v,[])) (E:=E) ?_ (λ _ _ z=>wpAny_pure z) λ _ _ z=>z);refine cls_open X op ty ga (looks_hook X (r:=none) (by rfl)) (by show subIn _ _ _ = _;rfl) fd ?_
 show wpAny _ _ (holding [.builtin "int.from_bytes"] (call (.builtin "classmethod_descriptor.__get__") [.builtin "int.from_bytes",.none,.type "int"]) >>= λ v=>ret v) _ _ _;refine wpAny_bind (wpAny_holding (wpAny_call_entry KFB.slot_get KFB.type_fb KFB.entry_get (KFB.run_get ⟨_,rfl,wpAny_pure (wpAny_pure (h _))⟩) (KFB.args_get _ _ _)))
theorem ad8{x:Addr}{l:List UInt8}{t u:Tok}{Q:QV}(ho:s.heap.get? x=some KFB.bound)(hl:l.length<=1000)
 (h:∀v tk,Rep prog w C B v (.int (p7 l))->Q v { s with toks:=tk }):wpAny (model prog w) A (call (.ref x) [.bytes l.toArray t,.str (PySem.Str.ofString "big") u]) Q E s:=
 KFB.call_of (z:=(p7 l:Int)) ho (λ z=>afj hl z) (h _ _ (.int _ _ _))
end Mine.Internal
namespace Mine.Internal
variable{prog:Program}{w:World}{C:Addr}{A:Around}{E:QV}{s:Shared}{B:Heap}
theorem aj9{id:String}{b:Array UInt8}{t:Tok}:Bytes.takeBufferQuiet? id (.bytes b t) 0=pure (some (b,none)):=by
 unfold Bytes.takeBufferQuiet? Bytes.takeBuffer?;rw[KBy.special_eq KBy.look_buffer,KBy.own_buffer];show(Sem.attempt (Bytes.buffer? id (.bytes b t) (full:=_) >>= λ r=>pure (r.map (·,none))) >>= _)=_;rw[show((0:Int)==Bytes.fullReadOnly)=false by decide]
 rw[KBy.buffer_eq]
 rfl
theorem Uw:Slot "bytes" "join" "bytes.join":=
 .of (owner:="bytes") (n:="join") (by rw[typeLookup_type,builtinLookup_eq_fast];kernel_rfl) (by decide +kernel) (by decide +kernel) (by decide +kernel)
  (by first|exact .inl (by decide +kernel)|exact .inr (by decide +kernel)) (by rw[isSubtype_type];kernel_rfl)
theorem ab2:entryFor table "bytes.join" = some Builtin.«bytes.join»:=by first|exact entryFor_of_tree (by kernel_rfl)|exact entryFor_of_fast (by kernel_rfl)
theorem aeb(a b:Value):argsOk "bytes.join" ⟨[a,b],[]⟩:=by unfold argsOk;kernel_rfl
inductive yw:List Value->List (List UInt8)->Prop
 |nil:yw [] []
 |cons{b:List UInt8}{t:Tok}{vs:List Value}{bs:List (List UInt8)}:yw vs bs->yw (.bytes b.toArray t::vs) (b::bs)
theorem yw.length{vs:List Value}{bs:List (List UInt8)}(h:yw vs bs):vs.length=bs.length:=by
 induction h with
 |nil=>rfl
 |cons _ ih=>exact au Nat.succ ih
theorem yw.get{vs:List Value}{bs:List (List UInt8)}(r:yw vs bs):∀{i:Nat}(h:i<bs.length),∃t,vs[i]? = some (.bytes bs[i].toArray t):=by
 induction r with
 |nil=>intro i h;exact nomatch h
 | @cons b t vs bs _ ih=>
  intro i h
  induction i using Nat.casesOn with
  |zero=>exact⟨t,rfl⟩
  |succ i=>exact ih (Nat.lt_of_succ_lt_succ h)
theorem yw.quiet{vs:List Value}{bs:List (List UInt8)}(r:yw vs bs):∀v∈vs,v.onHeap=false:=by
 induction r with
 |nil=>exact λ _ h=>nomatch h
 |cons _ ih=>
  intro v h;rcases gb.mp h with rfl|h
  ·rfl
  ·exact ih v h
theorem W3{B:Heap}{vs:List Value}:∀{ds:List V}{bs:List (List UInt8)},p8 prog w C B vs ds->bytesOf ds=some bs->yw vs bs:=by
 induction vs with
 |nil=>intro ds ns h e;obtain rfl:=yc h;obtain rfl:=ao e;exact .nil
 |cons v vs ih=>
  intro ds ns h e;obtain⟨d,r,rfl,h1,hr⟩:=uh h
  induction d using V.casesOn with
  |bytes b=>
   obtain⟨t,rfl⟩:=o9 h1;obtain⟨ms,hm,rfl⟩:=map_some e;exact .cons (ih hr hm)
  | _=>exact bh e
theorem Rb{M:Model}{Q:Unit->Shared->Prop}:∀(vs:List Value)(keep:List Value),Q () s->wpAny M A (Bytes.joinLetGo (vs.map (·,none)) keep) Q E s
 |[],_,h=>wpAny_pure h
 |v::r,keep,h=>by
  show wpAny M A (Bytes.joinLetGo ((v,none)::r.map (·,none)) keep) Q E s;exact wpAny_bind (wpAny_letGo (Rb r keep h))
theorem U7:∀(bs:List (Array UInt8))(n:Nat)(out:Array UInt8),(bs.zipIdx n).foldl (λ out (p:Array UInt8×Nat)=>(if p.2>0 then out++#[]else out)++p.1) out=out++bs.foldl (·++·) #[]
 |[],_,out=>by simp
 |b::r,n,out=>by
  rw[List.zipIdx_cons,List.foldl_cons,U7 r,List.foldl_cons];have:∀(l:List (Array UInt8)) (a:Array UInt8),l.foldl (·++·) a=a++l.foldl (·++·) #[]:=by
   intro l
   induction l with
   |nil=>intro a;simp
   |cons x l ih=>intro a;rw[List.foldl_cons,List.foldl_cons,ih,ih (#[]++x)];simp
  rw[this r (#[]++b)]
  split<;>simp
theorem afm(bs:List (List UInt8)):Bytes.joined #[] (bs.map List.toArray)=bs.flatten.toArray:=by
 unfold Bytes.joined;rw[U7];have:∀(l:List (List UInt8)) (a:Array UInt8),(l.map List.toArray).foldl (·++·) a=a++l.flatten.toArray:=by
  intro l
  induction l with
  |nil=>intro a;simp
  |cons x l ih=>intro a;rw[je,List.foldl_cons,ih];simp
 rw[this];simp
theorem ad7(bs:List (Array UInt8))(n:Nat):bs.foldl (λ a b=>a+b.size) n=n+(bs.map (·.toList)).flatten.length:=by
 induction bs generalizing n with
 |nil=>simp
 |cons b r ih=>rw[List.foldl_cons,ih,jt];exact au (n + ·) cg.symm
theorem ax2{β : Type}(x:Value)(f:Value->β)(g:(x:Array Value)->β):Bytes.joinM.match_1 (λ _=> β) #[x] f g=f x:=by
 unfold Bytes.joinM.match_1
 rfl
theorem atf{β : Type}(arr:Array Value)(f:Value->β)(g:(x:Array Value)->β)(h:arr.size≠1):Bytes.joinM.match_1 (λ _=> β) arr f g=g arr:=by
 unfold Bytes.joinM.match_1;simp[h]
theorem abx{β : Type}{M:Model}{n:Nat}{l:List Nat}(hl:l=List.range' 0 n){f:Nat->β->Sem (ForInStep β)}{I:Nat->β}{Q : β->Shared->Prop}(turn:∀k,k<n->∀R:ForInStep β->Shared->Prop,R (.yield (I (k+1))) s->wpAny M A (f k (I k)) R E s)
 (fin:Q (I n) s):wpAny M A (forIn l (I 0) f) Q E s:=by
 subst hl;refine wpAny_forIn_list f (λ rest b s'=>s'=s/\∃k,List.range' k (n-k)=rest/\k<=n/\b=I k) Q ?_ ?_ _ _ ⟨rfl,0,rfl,n6 _,rfl⟩
 ·rintro x rest b s' ⟨rfl,k,hr,hk,rfl⟩;cases e:n-k with
  |zero=>rw[e]at hr;exact nomatch hr
  |succ m=>
   rw[e,List.range'_succ]at hr;obtain⟨rfl,hr1⟩:=List.cons.inj hr;exact turn k (Nat.lt_of_sub_eq_succ e) _ ⟨rfl,k+1,by rw[<-hr1];exact au (List.range' (k+1)) (au Nat.pred e),Nat.lt_of_sub_eq_succ e,rfl⟩
 ·rintro b s' ⟨rfl,k,hr,hk,rfl⟩;obtain rfl:k=n:=by
   have:=au List.length hr;rw[List.length_range']at this;exact Nat.le_antisymm hk (Nat.sub_eq_zero_iff_le.mp this)
  exact fin
theorem abu{vs:List Value}{bs:List (List UInt8)}(hb:yw vs bs){k:Nat}:(((vs.take k).map (·,(none:Option Value))).any λ x=>x.1.onHeap)=false:=by
 rw[List.any_eq_false];intro p hp;obtain⟨v,hv,rfl⟩:=kj.mp hp;simp[hb.quiet v (List.mem_of_mem_take hv)]
theorem abw{bs:List (List UInt8)}{k:Nat}(h:k<bs.length):((bs.take (k+1)).map List.toArray).toArray=((bs.take k).map List.toArray).toArray.push bs[k].toArray:=by
 rw[List.take_succ_eq_append_getElem h,nu];simp
theorem aaf{vs:List Value}{bs:List (List UInt8)}(hb:yw vs bs){k:Nat}(h:k<bs.length){u:Tok}(hu:vs[k]? = some (.bytes bs[k].toArray u)):
 (vs.take (k+1)).map (·,(none:Option Value))=(vs.take k).map (·,none)++[(.bytes bs[k].toArray u,none)]:=by
 have hlt':k<vs.length:=by rw[hb.length];exact h
 have:vs[k]=.bytes bs[k].toArray u:=ao ((gq hlt').symm.trans hu);rw[List.take_succ_eq_append_getElem hlt',this];simp
theorem join_tree{l:Addr}{vs:List Value}{bs:List (List UInt8)}{n:Nat}{t:Tok}{P:Fin->Shared->Prop}{M:Model}(hl:s.heap.get? l=some { cls:=.type "list",data:=.seq vs.toArray n }) (hb:yw vs bs)
 (hz:bs.flatten.length<=lim) (h:∀u tk,P (.done (.ret (.bytes bs.flatten.toArray u))) { s with toks:=tk }):
 wpAny M A (Builtin.«bytes.join» ⟨[.bytes #[] t,.ref l],[]⟩) P E s:=by
 obtain⟨arr,harr⟩:∃arr,arr=vs.toArray:=⟨_,rfl⟩;rw[<-harr]at hl;have hsize:arr.size=bs.length:=by rw[harr,gn,hb.length]
 by_cases h1:arr.size=1
 ·obtain⟨x,rfl⟩:∃x,arr = #[x]:=Array.size_eq_one_iff.mp h1;have hvs:vs=[x]:=by simpa using(au Array.toList harr).symm
  subst hvs;unfold Builtin.«bytes.join» Bytes.joinM;refine wpAny_bind (wpAny_of_eq (a:=(.bytes #[] t,.ref l)) (by kernel_rfl) ?_)
  refine wpAny_ite_true (by decide) ?_
  unfold Bytes.joinItems;refine wpAny_bind (wpAny_bind (wpAny_typeOf ⟨_,hl,rfl⟩ ?_));refine wpAny_ite_true (by decide) ?_
  refine wpAny_pure ?_;unfold seqItems?;refine wpAny_bind (wpAny_bind (wpAny_load hl (wpAny_pure ?_)));refine wpAny_ite_true (by decide) ?_
  rw[ax2];cases hb with
  |cons hr=>
   cases hr;refine wpAny_bind (wpAny_pure ?_);rw[bf (by decide)]
   refine wpAny_bind (wpAny_rule (wpAny_pure ?_))
   simpa using h _ s.toks
 ·unfold Builtin.«bytes.join» Bytes.joinM;refine wpAny_bind (wpAny_of_eq (a:=(.bytes #[] t,.ref l)) (by kernel_rfl) ?_)
  refine wpAny_ite_true (by decide) ?_
  unfold Bytes.joinItems;refine wpAny_bind (wpAny_bind (wpAny_typeOf ⟨_,hl,rfl⟩ ?_));refine wpAny_ite_true (by decide) ?_
  refine wpAny_pure ?_;unfold seqItems?;refine wpAny_bind (wpAny_bind (wpAny_load hl (wpAny_pure ?_)));refine wpAny_ite_true (by decide) ?_
  rw[atf _ _ _ h1];refine wpAny_bind ?_;rw[Std.Legacy.Range.forIn_eq_forIn_range'];refine abx (n:=bs.length) (by simp[Std.Legacy.Range.size,hsize]) (I:=λ k=>(((bs.take k).map List.toArray).toArray,(vs.take k).map (·,none))) (λ k hlt R hR=>?_) ?_
  ·obtain⟨u,hu⟩:=hb.get hlt;have hget:arr.getD k Value.none=.bytes bs[k].toArray u:=by
    rw[harr,Array.getD_eq_getD_getElem?];simp[hu]
   refine wpAny_bind (wpAny_bind (wpAny_load hl (wpAny_pure ?_)));dsimp only;rw[abu hb,hget];rw[bx (by decide)]
   refine wpAny_bind (wpAny_holding (wpAny_of_eq aj9 ?_));dsimp only;refine wpAny_bind (wpAny_bind (wpAny_load hl (wpAny_pure ?_)));dsimp only;rw[bx (by simp)]
   refine wpAny_pure ?_;rw[abw hlt,aaf hb hlt hu]at hR;exact hR
  ·rw[List.take_length,show vs.take bs.length=vs by rw[<-hb.length,List.take_length]]
   refine wpAny_bind (m:=Bytes.payload (.bytes #[] t)) (wpAny_of_eq (a:=#[]) (by kernel_rfl) ?_)
   dsimp only;rw[bx (by
    unfold Bytes.tooLong;rw[Hz];have:=ad7 (bs.map List.toArray) 0;simp only[List.map_map,Function.comp_def,List.map_id']at this;simp only[Array.size_empty,Nat.zero_mul,<-Array.foldl_toList];rw[this];unfold lim at hz;simp only[decide_eq_true_eq,lg];exact jx.mpr (Rx hz))]
   rw[afm];refine wpAny_bind (m:=Bytes.Kind.new _ _) ?_;show wpAny _ _ (mkBytes bs.flatten.toArray) _ _ _;refine wpAny_mkBytes ?_ (Rx hz);refine wpAny_bind (wpAny_holding (wpAny_point ?_));refine wpAny_bind (Rb vs _ ?_);exact wpAny_pure (h _ _)
theorem alf{a b:Value}{x y z:V}{Q:QV}(st:B.StaysIn s.heap)(hx:Rep prog w C B a x)(hy:Rep prog w C B b y)(e:Um x y=some z)(k:∀v tk,Rep prog w C B v z->Q v { s with toks:=tk }):
 wpAny (model prog w) A (call (.builtin "bytes.join") [a,b]) Q E s:=by
 induction x using V.casesOn with
 |bytes sep=>
  induction sep using List.casesOn with
  |cons _ _=>exact bh e
  |nil=>
   induction y using V.casesOn with
   |list l=>
    have e:(match bytesOf l with
     |some bs=>if bs.flatten.length<=lim/\l.length<=lim then some (V.bytes bs.flatten)else Option.none
     |Option.none=>Option.none)=some z:=e
    cases hbs:bytesOf l with
    |none=>rw[hbs]at e;exact bh e
    |some bs=>
     rw[hbs]at e;obtain⟨hc,rfl⟩:=o7 e;obtain⟨t,rfl⟩:=o9 hx;obtain⟨q,ws,m,rfl,hq,rq⟩:=qm hy;refine wpAny_call_entry Uw (typeIs_bytes _ _ _) ab2 ?_ (aeb _ _);exact join_tree (st _ _ hq) (W3 rq hbs) hc.1 λ u tk=>⟨_,rfl,k _ _ (.bytes _ _ _)⟩
   | _=>exact bh e
 | _=>exact bh e
end Mine.Internal
end
section
open PySem PySem.W PyProof.Rows PySem.Calls
namespace Mine.Internal
structure Cfg where
 B:Heap
 h:Heap
 lay:List (List Addr)
 st:Store
noncomputable def jj:List (List Addr)->Store->List Addr
 |as::lay,c::st=>if c.live then as++jj lay st else jj lay st
 | _,_=> []
theorem zu{as:List Addr}{lay:List (List Addr)}{c:Cell}{st:Store}(h:c.live=true):jj (as::lay) (c::st)=as++jj lay st:=bf h
theorem Iz{as:List Addr}{lay:List (List Addr)}{c:Cell}{st:Store}(h:¬c.live=true):jj (as::lay) (c::st)=jj lay st:=bx h
theorem Yh{as:List Addr}{lay:List (List Addr)}{c:Cell}{st:Store}:jj (as::lay) (c::st)=(if c.live=true then as else[])++jj lay st:=by
 by_cases h:c.live=true
 ·rw[zu h,bf h]
 ·rw[Iz h,bx h];rfl
noncomputable def Cfg.live(c:Cfg):List Addr:=jj c.lay c.st
noncomputable def frs(l:List Env):List Addr:=l.filterMap (·.frame)
section
variable (prog:Program)(w:World) (C:Addr)
noncomputable def z9(h:Heap)(a:Addr)(vs:List Value):Prop:=∃n,h.get? a=some { cls:=.type "list",data:=.seq vs.toArray n }
inductive Am(B h:Heap):List Addr->List (Str×Value)->List (String×Ent)->Prop
 |nil:Am B h [] [] []
 |val {bs kvs l}{k:String}{v:Value}{d:V}:Rep prog w C B v d->Am B h bs kvs l->Am B h bs ((Str.ofString k,v)::kvs) ((k,.val d)::l)
 |own {bs kvs l}{k:String}{b:Addr}{vs:List Value}{q:List V}:z9 h b vs->p8 prog w C B vs q->Am B h bs kvs l->
  Am B h (b::bs) ((Str.ofString k,.ref b)::kvs) ((k,.own q)::l)
inductive qw(B h:Heap):List Addr->Cell->Prop
 |dead {a as d}:Rep prog w C B (.ref a) (CD.toV d)->qw B h (a::as) ⟨false,d⟩
 |list {a vs l}:z9 h a vs->p8 prog w C B vs l->qw B h [a] ⟨true,.list l⟩
 |dict {a bs kvs l}:(a==sysModules)=false->h.DictOf (strKind prog w) a kvs->Am prog w C B h bs kvs l->qw B h (a::bs) ⟨true,.dict l⟩
 |hid {as}:qw B h as ⟨false,.hid⟩
 |obj {a dx es n l}:h.get? a=some (instObj C dx)->h.get? dx=some (dictOf es n)->Df prog w C B es l->qw B h [a,dx] ⟨true,.obj l⟩
inductive CellsOk(B h:Heap):List (List Addr)->Store->Prop
 |nil:CellsOk B h [] []
 |cons {as lay c st}:qw prog w C B h as c->CellsOk B h lay st->CellsOk B h (as::lay) (c::st)
structure Ju(B h:Heap)(lay:List (List Addr))(st:Store):Prop where
 cells:CellsOk prog w C B h lay st
 nodup:(jj lay st).Nodup
 out:∀a∈jj lay st,B.get? a=none
structure SI(H:Heap)(l:List Env)(c:Cfg):Prop where
 h0:H.StaysIn c.B
 stay:c.B.StaysIn c.h
 frames:c.h.FunFrames c.B l
 store:Ju prog w C c.B c.h c.lay c.st
 frl:∀L∈frs l,L∉c.live
structure Step(l:List Env) (W:List Addr)(c c':Cfg):Prop where
 keep:∀b o,c.h.get? b=some o->b∉c.live->b∉W->b∉frs l->c'.h.get? b=some o
 fr:∀b∈frs l,∀o,c.h.get? b=some o->b∉c.live->b∉W->(∀vs,o.data≠.fields vs)->∃sl,c'.h.get? b=some { o with slots:=sl }
 frw:∀b∈frs l,b∉c.live->∀o,c.h.get? b=some o->(∀vs,o.data≠.fields vs)->∃o',c'.h.get? b=some o'/\(∀vs,o'.data≠.fields vs)
 wr:∀b∈W,b∉c.live->c.h.get? b≠none->c'.h.get? b≠none
 live:∀a∈c'.live,c.h.get? a=none\/a∈c.live
 base:c.B.StaysIn c'.B
 new:∀a,c.B.get? a=none->c'.B.get? a≠none->c.h.get? a=none\/a∈c.live
 heads:∀(i:Nat) (a:Addr) as,c.lay[i]? = some (a::as)->∃as',c'.lay[i]? = some (a::as')
noncomputable def clsOf(cR cT:Addr):Exc->Value
 |.rlp=>.ref cR
 |.tx=>.ref cT
noncomputable def ahf(h:Heap)(e:Addr)(cls:Value):Prop:=
 ∃oe vs a0,h.get? e=some oe/\oe.cls=cls/\oe.data=.fields vs/\vs[1]? = some .none/\vs[0]? = some a0
structure Fly(l:List Env) (Bx:Heap)(e:Addr)(cls:Value)(h:Heap):Prop where
 stay:Bx.StaysIn h
 out:Bx.get? e=none
 frames:h.FunFrames Bx l
 at':ahf h e cls\/∃a0 fl,h.TracedAtW Bx e cls a0 fl
structure Ij(l:List Env) (W:List Addr)(c:Cfg)(st':Store)(h' B' Bx:Heap)(lay':List (List Addr)):Prop where
 base:c.B.StaysIn B'
 inx:B'.StaysIn Bx
 store:Ju prog w C B' Bx lay' st'
 frl:∀L∈frs l,L∉jj lay' st'
 keep:∀b o,c.h.get? b=some o->b∉c.live->b∉W->b∉frs l->Bx.get? b=some o
 fr:∀b∈frs l,∀o,c.h.get? b=some o->b∉c.live->b∉W->(∀vs,o.data≠.fields vs)->∃sl,h'.get? b=some { o with slots:=sl }
 frw:∀b∈frs l,b∉c.live->∀o,c.h.get? b=some o->(∀vs,o.data≠.fields vs)->∃o',h'.get? b=some o'/\(∀vs,o'.data≠.fields vs)
 live:∀a∈jj lay' st',c.h.get? a=none\/a∈c.live
 new:∀a,c.B.get? a=none->B'.get? a≠none->c.h.get? a=none\/a∈c.live
 heads:∀(i:Nat) (a:Addr) as,c.lay[i]? = some (a::as)->∃as',lay'[i]? = some (a::as')
noncomputable def Loads(env:Env)(h:Heap)(x:Str)(v:Value):Prop:=
 (env.kindOf x=some .local/\∃m,h.Ns env.locals m/\m x=some v)\/
 ((env.kindOf x=some .cell\/env.kindOf x=some .free)/\∃a,env.cells.lookup x=some a/\h.IsCell a (some v))
noncomputable def um(B:Heap)(lay:List (List Addr)):qp->Value->Prop
 |.val d,v=>Rep prog w C B v d
 |.cell i,v=>∃a as,lay[i]? = some (a::as)/\v=.ref a
structure NI(env:Env)(l:List Env)(c:Cfg)(ρ:Loc):Prop where
 fn:env.scope.kind=.function
 lb:c.B.get? env.locals=none
 ll:env.locals∉c.live
 ln:∃m,c.h.Ns env.locals m
 cl:∀n a,(n,a)∈env.cells->c.B.get? a=none/\a∉c.live/\a∉frs l/\∃v,c.h.IsCell a v
 names:∀x b,lk x ρ=some b->∃v,Loads env c.h (Str.ofString x) v/\um prog w C c.B c.lay b v
end
section
variable{prog:Program}{w:World}{C:Addr}{H:Heap}{l:List Env}
theorem Step.refl(W:List Addr)(c:Cfg):Step l W c c where
 keep _ _ e _ _ _:=e
 fr _ _ o e _ _ _:=⟨o.slots,e⟩
 frw _ _ _ o e n:=⟨o,e,n⟩
 wr _ _ _ e:=e
 live _ h:=.inr h
 base:=lu _
 new _ a b:=absurd a b
 heads _ _ as e:=⟨as,e⟩
theorem Step.there{W:List Addr}{c c':Cfg}(x:Step l W c c')(hf:c.h.FunFrames c.B l){a:Addr}{o:Obj}(e:c.h.get? a=some o)(hl:a∉c.live):c'.h.get? a≠none:=by
 by_cases hw:a∈W
 ·exact x.wr a hw hl (by rw[e];exact λ q=>nomatch q)
 ·by_cases hr:a∈frs l
  ·obtain⟨_,o',ho',hn⟩:=hf.mem hr;rw[e]at ho';(first|exact bh ho'|obtain rfl:=ao ho'|cases ho');obtain⟨sl,q⟩:=x.fr a hr _ e hl hw hn;rw[q];exact λ q=>nomatch q
  ·rw[x.keep a o e hl hw hr];exact λ q=>nomatch q
theorem Step.gone{W:List Addr}{c c':Cfg}(x:Step l W c c')(hf:c.h.FunFrames c.B l){a:Addr}(e:c'.h.get? a=none):c.h.get? a=none\/a∈c.live:=by
 cases q:c.h.get? a with
 |none=>exact .inl rfl
 |some o=>
  by_cases hl:a∈c.live
  ·exact .inr hl
  ·exact absurd e (x.there hf q hl)
theorem Step.nlive{W:List Addr}{c c':Cfg}(x:Step l W c c'){a:Addr}{o:Obj}(e:c.h.get? a=some o)(hl:a∉c.live):a∉c'.live:=λ q=>by
 rcases x.live a q with h|h
 ·rw[e]at h;(first|exact bh h|obtain rfl:=ao h|cases h)
 ·exact hl h
theorem Step.trans{W:List Addr}{c c' c'':Cfg}(hf:c.h.FunFrames c.B l)(x:Step l W c c')(y:Step l W c' c''):Step l W c c'' where
 keep b o e hl hw hr:=y.keep b o (x.keep b o e hl hw hr) (x.nlive e hl) hw hr
 fr b hb o e hl hw hn:=by
  obtain⟨sl,q⟩:=x.fr b hb o e hl hw hn;obtain⟨sl',q'⟩:=y.fr b hb _ q (x.nlive e hl) hw hn;exact⟨sl',q'⟩
 frw b hb hl o e hn:=by
  obtain⟨o',q,hn'⟩:=x.frw b hb hl o e hn;exact y.frw b hb (x.nlive e hl) o' q hn'
 wr b hb hl e:=by
  cases q:c.h.get? b with
  |none=>exact absurd q e
  |some o=>exact y.wr b hb (x.nlive q hl) (x.wr b hb hl e)
 live a h:=by
  rcases y.live a h with q|q
  ·exact x.gone hf q
  ·exact x.live a q
 base:=rz x.base y.base
 new a h1 h2:=by
  cases e:c'.B.get? a with
  |some o=>exact x.new a h1 (by rw[e];exact λ q=>nomatch q)
  |none=>
   rcases y.new a e h2 with q|q
   ·exact x.gone hf q
   ·exact x.live a q
 heads i a as e:=by
  obtain⟨as',q⟩:=x.heads i a as e;exact y.heads i a as' q
theorem Step.wider{W W':List Addr}{c c':Cfg}(hf:c.h.FunFrames c.B l)(x:Step l W c c')(hW:∀a∈W,a∈W'):Step l W' c c' where
 keep b o e hl hw hr:=x.keep b o e hl (λ q=>hw (hW _ q)) hr
 fr b hb o e hl hw hn:=x.fr b hb o e hl (λ q=>hw (hW _ q)) hn
 frw:=x.frw
 wr b hb hl e:=by
  cases q:c.h.get? b with
  |none=>exact absurd q e
  |some o=>exact x.there hf q hl
 live:=x.live
 base:=x.base
 new:=x.new
 heads:=x.heads
theorem Dt{h h':Heap}{a:Addr}{vs:List Value}(k:∀o,h.get? a=some o->h'.get? a=some o)(x:z9 h a vs):z9 h' a vs:=let⟨n,e⟩:=x;⟨n,k _ e⟩
theorem Ub{h:Heap}{a:Addr}{vs:List Value}(x:z9 h a vs):h.get? a≠none:=by obtain⟨n,e⟩:=x;rw[e];exact λ q=>nomatch q
theorem v8{h h':Heap}{a:Addr}{kvs:List (Str×Value)}(k:∀o,h.get? a=some o->h'.get? a=some o)(x:h.DictOf (strKind prog w) a kvs):h'.DictOf (strKind prog w) a kvs:=by
 obtain⟨o,es,ep,ho,r⟩:=x;exact⟨o,es,ep,k _ ho,r⟩
theorem Am.keeps{B B' h h':Heap}(hB:B.StaysIn B'){bs:List Addr}{kvs:List (Str×Value)}{l:List (String×Ent)}(x:Am prog w C B h bs kvs l)
 (k:∀a∈bs,∀o,h.get? a=some o->h'.get? a=some o):Am prog w C B' h' bs kvs l:=by
 induction x with
 |nil=>exact .nil
 |val r _ ih=>exact .val (r.mono hB) (ih k)
 |own a r _ ih=>exact .own (Dt (k _ f9) a) (r.mono hB) (ih λ a ha=>k a (bk _ ha))
theorem qw.keeps{B B' h h':Heap}(hB:B.StaysIn B'){as:List Addr}{c:Cell}(x:qw prog w C B h as c)
 (k:c.live=true->∀a∈as,∀o,h.get? a=some o->h'.get? a=some o):qw prog w C B' h' as c:=by
 cases x with
 |dead r=>exact .dead (r.mono hB)
 |list a r=>exact .list (Dt (k rfl _ (by simp)) a) (r.mono hB)
 |dict n a r=>exact .dict n (v8 (k rfl _ (by simp)) a) (r.keeps hB λ b hb=>k rfl b (bk _ hb))
 |hid=>exact .hid
 |obj a b r=>exact .obj (k rfl _ (by simp) _ a) (k rfl _ (by simp) _ b) (r.mono hB)
theorem CellsOk.keeps{B B' h h':Heap}(hB:B.StaysIn B'){lay:List (List Addr)}{st:Store}(x:CellsOk prog w C B h lay st)
 (k:∀a∈jj lay st,∀o,h.get? a=some o->h'.get? a=some o):CellsOk prog w C B' h' lay st:=by
 induction x with
 |nil=>exact .nil
 | @cons as lay c st x _ ih=>
  refine .cons (x.keeps hB λ hc a ha=>k a ?_) (ih λ a ha=>k a ?_)
  ·rw[zu hc];exact j5 _ ha
  ·by_cases hc:c.live=true
   ·rw[zu hc];exact jq _ ha
   ·rw[Iz hc];exact ha
theorem Am.there{B h:Heap}{bs:List Addr}{kvs:List (Str×Value)}{l:List (String×Ent)}(x:Am prog w C B h bs kvs l):∀a∈bs,h.get? a≠none:=by
 induction x with
 |nil=>exact λ _ h=>nomatch h
 |val _ _ ih=>exact ih
 |own a _ _ ih=>
  intro b hb;rcases gb.mp hb with rfl|hb
  ·exact Ub a
  ·exact ih b hb
theorem CellsOk.there{B h:Heap}{lay:List (List Addr)}{st:Store}(x:CellsOk prog w C B h lay st):∀a∈jj lay st,h.get? a≠none:=by
 induction x with
 |nil=>exact λ _ h=>nomatch h
 | @cons as lay c st x _ ih=>
  intro a ha;cases hc:c.live with
  |false=>rw[Iz (ne_true_of_eq_false hc)]at ha;exact ih a ha
  |true=>
   rw[zu hc]at ha;rcases j4.mp ha with ha|ha
   ·cases x with
    |dead r=>(first|exact bh hc|obtain rfl:=ao hc|cases hc)
    |hid=>(first|exact bh hc|obtain rfl:=ao hc|cases hc)
    |list q r=>simp at ha;subst ha;exact Ub q
    |dict n q r=>
     rcases gb.mp ha with rfl|hb
     ·obtain⟨o,_,_,e,_⟩:=q;rw[e];exact λ q=>nomatch q
     ·exact r.there a hb
    |obj q r _=>
     simp at ha;rcases ha with rfl|rfl
     ·rw[q];exact λ q=>nomatch q
     ·rw[r];exact λ q=>nomatch q
   ·exact ih a ha
theorem Ju.keeps{B B' h h':Heap}(hB:B.StaysIn B'){lay:List (List Addr)}{st:Store}(x:Ju prog w C B h lay st)
 (k:∀a∈jj lay st,∀o,h.get? a=some o->h'.get? a=some o) (n:∀a∈jj lay st,B'.get? a=none):Ju prog w C B' h' lay st:=
 ⟨x.cells.keeps hB k,x.nodup,n⟩
theorem SI.ext{c:Cfg}{B' h':Heap}(x:SI prog w C H l c)(e:Ext c.B c.h B' h'):SI prog w C H l ⟨B',h',c.lay,c.st⟩/\Step l [] c ⟨B',h',c.lay,c.st⟩:=by
 have out:∀a,c.h.get? a≠none->c.B.get? a=none->B'.get? a=none:=λ a h1 h2=>by
  cases q:B'.get? a with
  |none=>rfl
  |some o=>exact absurd (e.new a h2 (by rw[q];exact λ q=>nomatch q)) h1
 refine⟨⟨rz x.h0 e.base,e.stay,?_,x.store.keeps e.base (λ a _=>e.keep a) λ a ha=>out a (x.store.cells.there a ha) (x.store.out a ha),x.frl⟩,
  ⟨λ b o q _ _ _=>e.keep b o q,λ b _ o q _ _ _=>⟨o.slots,e.keep b o q⟩,λ b _ _ o q hn=>⟨o,e.keep b o q,hn⟩,λ b hb=>(nomatch hb),λ a ha=>.inr ha,e.base,λ a h1 h2=>.inl (e.new a h1 h2),λ i a as q=>⟨as,q⟩⟩⟩
 have:=x.frames
 clear x
 induction l with
 |nil=>trivial
 |cons env r ih=>
  obtain⟨h1,⟨L,o,h2,h3,h4,h5⟩,h6⟩:=this;exact⟨h1,⟨L,o,h2,out L (by rw[h4];exact λ q=>nomatch q) h3,e.keep _ _ h4,h5⟩,ih h6⟩
theorem NI.step{env:Env}{c c':Cfg}{ρ:Loc}(hf:c.h.FunFrames c.B l)(x:NI prog w C env l c ρ)(y:Step l [] c c'):NI prog w C env l c' ρ:=by
 obtain⟨fn,lb,ll,⟨m,ln⟩,cl,names⟩:=x;obtain⟨oL,es,ep,hoL,hdL,hrest⟩:=id ln;have nf:∀vs,oL.data≠.fields vs:=λ vs q=>by rw[hdL]at q;(first|exact bh q|obtain rfl:=ao q|cases q)
 have ns:∀m,c.h.Ns env.locals m->c'.h.Ns env.locals m:=λ m hm=>by
  by_cases hr:env.locals∈frs l
  ·obtain⟨sl,q⟩:=y.fr _ hr _ hoL ll (λ h=>nomatch h) nf;obtain⟨o2,es2,ep2,ho2,r2⟩:=hm;rw[hoL]at ho2;cases ho2;exact⟨_,es2,ep2,q,r2⟩
  ·obtain⟨o2,es2,ep2,ho2,r2⟩:=hm;exact⟨_,es2,ep2,y.keep _ _ ho2 ll (λ h=>nomatch h) hr,r2⟩
 have out:∀a o,c.h.get? a=some o->a∉c.live->c.B.get? a=none->c'.B.get? a=none:=λ a o h1 h2 h3=>by
  cases q:c'.B.get? a with
  |none=>rfl
  |some o'=>
   rcases y.new a h3 (by rw[q];exact λ q=>nomatch q)with h|h
   ·rw[h1]at h;(first|exact bh h|obtain rfl:=ao h|cases h)
   ·exact absurd h h2
 have cell:∀n a,(n,a)∈env.cells->∀v,c.h.IsCell a v->c'.h.IsCell a v:=λ n a hm v hv=>by
  obtain⟨_,h2,h3,_⟩:=cl n a hm;obtain⟨o,ho,hd⟩:=hv;exact⟨o,y.keep a o ho h2 (λ h=>nomatch h) h3,hd⟩
 refine⟨fn,out _ _ hoL ll lb,y.nlive hoL ll,⟨m,ns m ln⟩,λ n a hm=>?_,λ z b hz=>?_⟩
 ·obtain⟨h1,h2,h3,v,hv⟩:=cl n a hm;obtain⟨o,ho,hd⟩:=id hv;exact⟨out a o ho h2 h1,y.nlive ho h2,h3,v,cell n a hm v hv⟩
 ·obtain⟨v,hv,hb⟩:=names z b hz;refine⟨v,?_,?_⟩
  ·rcases hv with⟨h1,m,h2,h3⟩|⟨h1,a,h2,h3⟩
   ·exact .inl ⟨h1,m,ns m h2,h3⟩
   ·exact .inr ⟨h1,a,h2,cell (Str.ofString z) a (List.lookup_eq_some_iff.mp h2 |> λ ⟨l1,l2,e,_⟩=>by rw[e];simp) _ h3⟩
  ·cases b with
   |val d=>exact Rep.mono y.base hb
   |cell i=>
    obtain⟨a,as,h1,h2⟩:=hb;obtain⟨as',q⟩:=y.heads i a as h1;exact⟨a,as',q,h2⟩
noncomputable def iz{α β : Type}(prog:Program)(w:World) (C:Addr) (H:Heap)(cR cT:Addr)(l:List Env) (W:List Addr)(c:Cfg)(s:Shared)(r:R α)(rel:Cfg->β->α->Prop)
 (Q : β->Shared->Prop) (E:QV):Prop:=match r with
 |.ok d st'=>∀v c' tk,c'.st=st'->SI prog w C H l c'->Step l W c c'->rel c' v d->Q v { s with heap:=c'.h,toks:=tk }
 |.exc x st'=>∀e h' B' Bx lay' tk,Fly l Bx e (clsOf cR cT x) h'->Ij prog w C l W c st' h' B' Bx lay'->E (.ref e) { s with heap:=h',toks:=tk }
 |.bad=>False
variable{cR cT:Addr}
theorem Ij.after{W:List Addr}{c cC:Cfg}{st' h' B' Bx lay'} (hf:c.h.FunFrames c.B l)(x:Step l W c cC)(y:Ij prog w C l W cC st' h' B' Bx lay'):Ij prog w C l W c st' h' B' Bx lay' where
 base:=rz x.base y.base
 inx:=y.inx
 store:=y.store
 frl:=y.frl
 keep b o e hl hw hr:=y.keep b o (x.keep b o e hl hw hr) (x.nlive e hl) hw hr
 fr b hb o e hl hw hn:=by
  obtain⟨sl,q⟩:=x.fr b hb o e hl hw hn;obtain⟨sl',q'⟩:=y.fr b hb _ q (x.nlive e hl) hw hn;exact⟨sl',q'⟩
 frw b hb hl o e hn:=by
  obtain⟨o',q,hn'⟩:=x.frw b hb hl o e hn;exact y.frw b hb (x.nlive e hl) o' q hn'
 live a h:=by
  rcases y.live a h with q|q
  ·exact x.gone hf q
  ·exact x.live a q
 new a h1 h2:=by
  cases e:cC.B.get? a with
  |some o=>exact x.new a h1 (by rw[e];exact λ q=>nomatch q)
  |none=>
   rcases y.new a e h2 with q|q
   ·exact x.gone hf q
   ·exact x.live a q
 heads i a as e:=by
  obtain⟨as',q⟩:=x.heads i a as e;exact y.heads i a as' q
theorem iz.after{α β : Type}{W:List Addr}{c cC:Cfg}{s:Shared}{tk:Nat}{r:R α}{rel:Cfg->β->α->Prop}{Q : β->Shared->Prop}{E:QV}(hf:c.h.FunFrames c.B l)
 (x:Step l W c cC) (p:iz prog w C H cR cT l W c s r rel Q E):iz prog w C H cR cT l W cC { s with heap:=cC.h,toks:=tk } r rel Q E:=by
 induction r with
 |ok d st'=>exact λ v c' tk e si st hr=>p v c' tk e si (x.trans hf st) hr
 |exc q st'=>exact λ e h' B' Bx lay' tk fl y=>p e h' B' Bx lay' tk fl (y.after hf x)
 |bad=>exact p
theorem iz.seq{α α' β β':Type}{W:List Addr}{c:Cfg}{s:Shared}{r:R α}{f : α->Store->R α'}{rel:Cfg->β->α->Prop}{rel':Cfg->β'->α'->Prop}{Q : β'->Shared->Prop}{K : β->Shared->Prop}
 {E:QV}(hf:c.h.FunFrames c.B l) (p:iz prog w C H cR cT l W c s (r.bind f) rel' Q E)
 (k:∀d v cC tk,SI prog w C H l cC->Step l W c cC->rel cC v d->iz prog w C H cR cT l W cC { s with heap:=cC.h,toks:=tk } (f d cC.st) rel' Q E->K v { s with heap:=cC.h,toks:=tk }):
 iz prog w C H cR cT l W c s r rel K E:=by
 induction r with
 |ok d st'=>
  intro v c' tk e si st hr;subst e;exact k d v c' tk si st hr (iz.after hf st p)
 |exc q st'=>exact p
 |bad=>exact p
theorem iz.lift{α β : Type}{W:List Addr}{c:Cfg}{s:Shared}{o:Option α}{rel:Cfg->β->α->Prop}{Q : β->Shared->Prop}{E:QV}
 (p:iz prog w C H cR cT l W c s (m5 o c.st) rel Q E):∃d,o=some d/\iz prog w C H cR cT l W c s (.ok d c.st) rel Q E:=by
 induction o with
 |none=>exact p.elim
 |some d=>exact⟨d,rfl,p⟩
theorem iz.liftb{α β γ : Type}{W:List Addr}{c:Cfg}{s:Shared}{o:Option γ}{f : γ->Store->R α}{rel:Cfg->β->α->Prop}{Q : β->Shared->Prop}{E:QV}
 (p:iz prog w C H cR cT l W c s ((m5 o c.st).bind f) rel Q E):∃d,o=some d/\iz prog w C H cR cT l W c s (f d c.st) rel Q E:=by
 induction o with
 |none=>exact p.elim
 |some d=>exact⟨d,rfl,p⟩
theorem iz.ifb{α β γ : Type}{W:List Addr}{c:Cfg}{s:Shared}{q:Prop}[Decidable q]{r:R γ}{f : γ->Store->R α}{rel:Cfg->β->α->Prop}{Q : β->Shared->Prop}{E:QV}
 (p:iz prog w C H cR cT l W c s ((if q then r else .bad).bind f) rel Q E):q/\iz prog w C H cR cT l W c s (r.bind f) rel Q E:=by
 by_cases h:q
 ·rw[bf h]at p;exact⟨h,p⟩
 ·rw[bx h]at p;exact p.elim
theorem iz.ifs{α β : Type}{W:List Addr}{c:Cfg}{s:Shared}{q:Prop}[Decidable q]{r:R α}{rel:Cfg->β->α->Prop}{Q : β->Shared->Prop}{E:QV}
 (p:iz prog w C H cR cT l W c s (if q then r else .bad) rel Q E):q/\iz prog w C H cR cT l W c s r rel Q E:=by
 by_cases h:q
 ·rw[bf h]at p;exact⟨h,p⟩
 ·rw[bx h]at p;exact p.elim
theorem iz.done{α β : Type}{c:Cfg}{s:Shared}{d : α}{rel:Cfg->β->α->Prop}{Q : β->Shared->Prop}{E:QV}{B' h':Heap}{tk:Nat}{v : β}
 (p:iz prog w C H cR cT l [] c s (.ok d c.st) rel Q E) (x:SI prog w C H l c) (e:Ext c.B c.h B' h') (hr:rel ⟨B',h',c.lay,c.st⟩ v d):Q v { s with heap:=h',toks:=tk }:=by
 obtain⟨si,st⟩:=x.ext e;exact p v ⟨B',h',c.lay,c.st⟩ tk rfl si st hr
theorem iz.same{α β : Type}{W:List Addr}{c:Cfg}{s:Shared}{d : α}{rel:Cfg->β->α->Prop}{Q : β->Shared->Prop}{E:QV}{tk:Nat}{v : β}
 (p:iz prog w C H cR cT l W c s (.ok d c.st) rel Q E) (x:SI prog w C H l c) (hr:rel c v d):Q v { s with heap:=c.h,toks:=tk }:=
 p v c tk rfl x (Step.refl W c) hr
end
end Mine.Internal
namespace Mine.Internal
section
variable{prog:Program}{w:World}{C:Addr}{H:Heap}{l:List Env}
noncomputable def ape(prog:Program)(w:World) (C:Addr) (B h:Heap):List Addr->Cell->Prop
 |a::as,⟨true,.list l⟩=>as=[]/\∃vs,z9 h a vs/\p8 prog w C B vs l
 |a::as,⟨true,.dict l⟩=>∃kvs,(a==sysModules)=false/\h.DictOf (strKind prog w) a kvs/\Am prog w C B h as kvs l
 |a::as,⟨true,.obj l⟩=>∃dx es n,as=[dx]/\h.get? a=some (instObj C dx)/\h.get? dx=some (dictOf es n)/\Df prog w C B es l
 |a::_,⟨false,d⟩=>d≠.hid->Rep prog w C B (.ref a) d.toV
 | _,_=>True
theorem qw.sh{B h:Heap}{as:List Addr}{c:Cell}(x:qw prog w C B h as c):ape prog w C B h as c:=by
 cases x with
 |dead r=>exact λ _=>r
 |list p r=>exact⟨rfl,_,p,r⟩
 |dict n p r=>exact⟨_,n,p,r⟩
 |obj g1 g2 r=>exact⟨_,_,_,rfl,g1,g2,r⟩
 | @hid as=>induction as using List.casesOn with
  |nil=>exact trivial
  |cons=>exact λ h=>absurd rfl h
theorem qw.list_inv{B h:Heap}{a:Addr}{as:List Addr}{l:List V}(x:qw prog w C B h (a::as) ⟨true,.list l⟩):as=[]/\∃vs,z9 h a vs/\p8 prog w C B vs l:=x.sh
theorem qw.dict_inv{B h:Heap}{a:Addr}{as:List Addr}{l:List (String×Ent)}(x:qw prog w C B h (a::as) ⟨true,.dict l⟩):∃kvs,(a==sysModules)=false/\h.DictOf (strKind prog w) a kvs/\Am prog w C B h as kvs l:=x.sh
theorem qw.obj_inv{B h:Heap}{a:Addr}{as:List Addr}{l:List (String×V)}(x:qw prog w C B h (a::as) ⟨true,.obj l⟩):∃dx es n,as=[dx]/\h.get? a=some (instObj C dx)/\h.get? dx=some (dictOf es n)/\Df prog w C B es l:=x.sh
theorem qw.dead_inv{B h:Heap}{a:Addr}{as:List Addr}{dt:CD}(x:qw prog w C B h (a::as) ⟨false,dt⟩)(hn:dt≠.hid):Rep prog w C B (.ref a) dt.toV:=x.sh hn
theorem qw.deadl_inv{B h:Heap}{a:Addr}{as:List Addr}{l:List V}(x:qw prog w C B h (a::as) ⟨false,.list l⟩):Rep prog w C B (.ref a) (.list l):=x.dead_inv λ h=>nomatch h
theorem qw.deadd_inv{B h:Heap}{a:Addr}{as:List Addr}{l:List (String×Ent)}(x:qw prog w C B h (a::as) ⟨false,.dict l⟩):Rep prog w C B (.ref a) (CD.toV (.dict l)):=x.dead_inv λ h=>nomatch h
theorem qw.listAt{B h:Heap}{a:Addr}{as:List Addr}{l:List V}{lv:Bool}(x:qw prog w C B h (a::as) ⟨lv,.list l⟩)(st:B.StaysIn h):∃vs,z9 h a vs:=by
 induction lv with
 |true=>obtain⟨-,vs,p,-⟩:=x.list_inv;exact⟨vs,p⟩
 |false=>
  obtain⟨a',vs,n,e1,ha,-⟩:=qm x.deadl_inv;exact⟨vs,n,Value.ref.inj e1▸st _ _ ha⟩
theorem CellsOk.length{B h:Heap}{lay:List (List Addr)}{st:Store}(x:CellsOk prog w C B h lay st):lay.length=st.length:=by
 induction x with
 |nil=>rfl
 |cons _ _ ih=>simp[ih]
structure aci(prog:Program)(w:World) (C:Addr) (B h:Heap)(lay:List (List Addr))(st:Store)(i:Nat)(c:Cell)(l1 l2:List (List Addr))(as:List Addr)(s1 s2:Store):Prop where
 lay:lay=l1++as::l2
 st:st=s1++c::s2
 len:l1.length=s1.length
 idx:s1.length=i
 low:CellsOk prog w C B h l1 s1
 mid:qw prog w C B h as c
 top:CellsOk prog w C B h l2 s2
theorem CellsOk.split{B h:Heap}{lay:List (List Addr)}{st:Store}(x:CellsOk prog w C B h lay st):∀{i:Nat}{c:Cell},st[i]? = some c->
 ∃l1 as l2 s1 s2,aci prog w C B h lay st i c l1 l2 as s1 s2:=by
 induction x with
 |nil=>intro i c e;simp at e
 | @cons as lay c st x r ih=>
  intro i d e
  induction i using Nat.casesOn with
  |zero=>simp at e;subst e;exact⟨[],as,lay,[],st,rfl,rfl,rfl,rfl,.nil,x,r⟩
  |succ i=>
   simp at e;obtain⟨l1,as',l2,s1,s2,rfl,rfl,h1,h2,h3,h4,h5⟩:=ih e;exact⟨as::l1,as',l2,c::s1,s2,rfl,rfl,by simp[h1],by simp[h2],.cons x h3,h4,h5⟩
theorem CellsOk.join{B h:Heap}{l1 l2:List (List Addr)}{s1 s2:Store}(x:CellsOk prog w C B h l1 s1)(y:CellsOk prog w C B h l2 s2):CellsOk prog w C B h (l1++l2) (s1++s2):=by
 induction x with
 |nil=>exact y
 |cons x _ ih=>exact .cons x ih
theorem CellsOk.take{B h:Heap}{lay:List (List Addr)}{st:Store}(x:CellsOk prog w C B h lay st):∀n,CellsOk prog w C B h (lay.take n) (st.take n):=by
 induction x with
 |nil=>intro n;simp;exact .nil
 |cons x _ ih=>
  intro n
  induction n using Nat.casesOn with
  |zero=>exact .nil
  |succ n=>exact .cons x (ih n)
theorem qx{l2:List (List Addr)}{s2:Store}(l1:List (List Addr)):∀{s1:Store},l1.length=s1.length->jj (l1++l2) (s1++s2)=jj l1 s1++jj l2 s2:=by
 induction l1 with
 |nil=>intro s1 e;rw[List.length_eq_zero_iff.mp e.symm];rfl
 |cons as l1 ih=>
  intro s1 e
  induction s1 using List.casesOn with
  |nil=>exact nomatch e
  |cons c s1=>
   show(if c.live then as++jj (l1++l2) (s1++s2)else jj (l1++l2) (s1++s2))=(if c.live then as++jj l1 s1 else jj l1 s1)++_
   rw[ih (Nat.succ.inj e)];cases c.live with
   |true=>exact(jc ..).symm
   |false=>rfl
theorem rm(lay:List (List Addr)):∀(n:Nat)(st:Store),List.Sublist (jj (lay.take n) (st.take n)) (jj lay st):=by
 induction lay with
 |nil=>intro n st;cases n<;>exact .slnil
 |cons as lay ih=>
  intro n st
  induction n using Nat.casesOn with
  |zero=>exact List.nil_sublist _
  |succ n=>
   induction st using List.casesOn with
   |nil=>exact .slnil
   |cons c st=>
    show List.Sublist (jj (as::lay.take n) (c::st.take n)) _
    by_cases hc:c.live=true
    ·rw[zu hc,zu hc];exact(List.Sublist.refl _).append (ih n st)
    ·rw[Iz hc,Iz hc];exact ih n st
theorem En{α : Type}(l1:List α){x : α}{l2:List α}:(l1++x::l2)[l1.length]? = some x:=by
 induction l1 with
 |nil=>rfl
 |cons a l ih=>exact ih
theorem aa8{α : Type}{x y : α}{l2:List α}(l1:List α):∀{i:Nat},i≠l1.length->(l1++x::l2)[i]? = (l1++y::l2)[i]?:=by
 induction l1 with
 |nil=>intro i h;induction i using Nat.casesOn with
  |zero=>exact absurd rfl h
  |succ i=>rfl
 |cons a l ih=>intro i h;induction i using Nat.casesOn with
  |zero=>rfl
  |succ i=>exact ih λ q=>h (au Nat.succ q)
theorem afc{l1 l2:List (List Addr)}{as as':List Addr}(hd:∃a r r',as=a::r/\as'=a::r'):∀(i:Nat)(a:Addr) r,(l1++as::l2)[i]? = some (a::r)->∃r',(l1++as'::l2)[i]? = some (a::r'):=by
 intro i a r e;obtain⟨b,q,q',rfl,rfl⟩:=hd
 by_cases h:i=l1.length
 ·rw[h,En]at e ⊢;exact⟨q',au (λ c=>some (c::q')) (List.cons.inj (ao e)).1⟩
 ·exact⟨r,(aa8 l1 h).symm.trans e⟩
theorem SI.cell{c:Cfg}(x:SI prog w C H l c){l1 l2:List (List Addr)}{as as':List Addr}{s1 s2:Store}{cl cl':Cell}{B' h':Heap}
 (hlay:c.lay=l1++as::l2) (hst:c.st=s1++cl::s2) (hlen:l1.length=s1.length) (hl:cl.live=true)
 (k1:CellsOk prog w C c.B c.h l1 s1) (k2:CellsOk prog w C c.B c.h l2 s2)
 (kh:∀b o,b∉as->c.h.get? b=some o->h'.get? b=some o)
 (hB:c.B.StaysIn B') (hB':B'.StaysIn h') (hn:∀a,c.B.get? a=none->B'.get? a≠none->c.h.get? a=none\/a∈as)
 (hc:qw prog w C B' h' as' cl') (nd:as'.Nodup) (ho:cl'.live=true->∀a∈as',B'.get? a=none) (hf:∀a∈as',a∈as\/c.h.get? a=none)
 (hd:∃a r r',as=a::r/\as'=a::r'):
 SI prog w C H l ⟨B',h',l1++as'::l2,s1++cl'::s2⟩/\Step l [] c ⟨B',h',l1++as'::l2,s1++cl'::s2⟩:=by
 obtain⟨cB,ch,clay,cst⟩:=c;simp only at hlay hst kh hB hn hf k1 k2;subst hlay hst;obtain⟨x1,x2,x3,⟨x4,x5,x6⟩,x7⟩:=x;have x8:=x4.there;simp only[Cfg.live]at x1 x2 x3 x5 x6 x7 x8;rw[qx _ hlen]at x5 x6 x7 x8;rw[zu hl]at x5 x6 x7 x8;have inA:∀a∈as,a∈jj l1 s1++(as++jj l2 s2):=λ a h=>jq _ (j5 _ h);have in1:∀a∈jj l1 s1,a∈jj l1 s1++(as++jj l2 s2):=λ a h=>j5 _ h;have in2:∀a∈jj l2 s2,a∈jj l1 s1++(as++jj l2 s2):=λ a h=>jq _ (jq _ h);obtain⟨n1,n23,d1⟩:=j8.mp x5;obtain⟨nA,n2,d2⟩:=j8.mp n23;have na1:∀a∈jj l1 s1,a∉as:=λ a h q=>d1 a h a (j5 _ q) rfl;have na2:∀a∈jj l2 s2,a∉as:=λ a h q=>d2 a q a h rfl;have n12:∀a∈jj l1 s1,a∉jj l2 s2:=λ a h q=>d1 a h a (jq _ q) rfl;have outB:∀a,ch.get? a≠none->a∉as->cB.get? a=none->B'.get? a=none:=λ a h1 h2 h3=>by
  cases q:B'.get? a with
  |none=>rfl
  |some o=>
   rcases hn a h3 (by rw[q];exact λ q=>nomatch q)with h|h
   ·exact absurd h h1
   ·exact absurd h h2
 have live':jj (l1++as'::l2) (s1++cl'::s2)=jj l1 s1++((if cl'.live=true then as' else[])++jj l2 s2):=by
  rw[qx _ hlen,Yh]
 have mem':∀a,a∈jj (l1++as'::l2) (s1++cl'::s2)->a∈jj l1 s1\/(cl'.live=true/\a∈as')\/a∈jj l2 s2:=λ a h=>by
  rw[live']at h;rcases j4.mp h with h|h
  ·exact .inl h
  ·rcases j4.mp h with h|h
   ·split at h
    ·rename_i q;exact .inr (.inl ⟨q,h⟩)
    ·exact nomatch h
   ·exact .inr (.inr h)
 have liveOld:jj (l1++as::l2) (s1++cl::s2)=jj l1 s1++(as++jj l2 s2):=by
  rw[qx _ hlen,zu hl]
 have frOut:∀L∈frs l,ch.get? L≠none:=λ L h=>by
  obtain⟨_,o,ho,_⟩:=x3.mem h;rw[ho];exact λ q=>nomatch q
 refine⟨⟨rz x1 hB,hB',?_,⟨?_,?_,?_⟩,?_⟩,⟨?_,?_,?_,λ b h=>(nomatch h),?_,hB,?_,afc hd⟩⟩
 ·show h'.FunFrames B' l;have key:∀L∈frs l,L∉as:=λ L h q=>x7 L h (inA L q)
  clear live' mem' liveOld x7
  induction l with
  |nil=>trivial
  |cons env r ih=>
   obtain⟨h1,⟨L,o,h2,h3,h4,h5⟩,h6⟩:=x3;have hm:L∈frs (env::r):=by simp[frs,h2]
   have hr:∀L∈frs r,L∈frs (env::r):=λ L' h=>by
    unfold frs at h⊢;rw[oh]
    split
    ·exact h
    ·exact bk _ h
   refine⟨h1,⟨L,o,h2,outB L (by rw[h4];exact λ q=>nomatch q) (key L hm) h3,kh _ _ (key L hm) h4,h5⟩,ih h6 (λ L' h=>frOut L' (hr _ h)) λ L' h=>key L' (hr _ h)⟩
 ·exact(k1.keeps hB λ a h o e=>kh a o (na1 a h) e).join (.cons hc (k2.keeps hB λ a h o e=>kh a o (na2 a h) e))
 ·show(jj (l1++as'::l2) (s1++cl'::s2)).Nodup;rw[live'];have fresh:∀a∈(if cl'.live=true then as' else[]),a∉jj l1 s1/\a∉jj l2 s2:=λ a h=>by
   split at h
   ·rcases hf a h with q|q
    ·exact⟨λ z=>na1 a z q,λ z=>na2 a z q⟩
    ·exact⟨λ z=>x8 a (in1 a z) q,λ z=>x8 a (in2 a z) q⟩
   ·exact nomatch h
  refine j8.mpr ⟨n1,j8.mpr ⟨by split<;>simp[nd],n2,?_⟩,?_⟩
  ·rintro a ha b hb rfl;exact(fresh a ha).2 hb
  ·rintro a ha b hb rfl;rcases j4.mp hb with hb|hb
   ·exact(fresh a hb).1 ha
   ·exact n12 a ha hb
 ·intro a ha;rcases mem' a ha with h|⟨q,h⟩|h
  ·exact outB a (x8 a (in1 a h)) (na1 a h) (x6 a (in1 a h))
  ·exact ho q a h
  ·exact outB a (x8 a (in2 a h)) (na2 a h) (x6 a (in2 a h))
 ·intro L hL ha;rcases mem' L ha with h|⟨q,h⟩|h
  ·exact x7 L hL (in1 L h)
  ·rcases hf L h with q|q
   ·exact x7 L hL (inA L q)
   ·exact frOut L hL q
  ·exact x7 L hL (in2 L h)
 ·intro b o e hl _ _;simp only[Cfg.live,liveOld]at hl;exact kh b o (λ q=>hl (inA b q)) e
 ·intro b _ o e hl _ _;simp only[Cfg.live,liveOld]at hl;exact⟨o.slots,kh b o (λ q=>hl (inA b q)) e⟩
 ·intro b _ hl o e hn;simp only[Cfg.live,liveOld]at hl;exact⟨o,kh b o (λ q=>hl (inA b q)) e,hn⟩
 ·intro a ha;simp only[Cfg.live,liveOld];rcases mem' a ha with h|⟨q,h⟩|h
  ·exact .inr (in1 a h)
  ·rcases hf a h with q|q
   ·exact .inr (inA a q)
   ·exact .inl q
  ·exact .inr (in2 a h)
 ·intro a h1 h2;simp only[Cfg.live,liveOld];rcases hn a h1 h2 with h|h
  ·exact .inl h
  ·exact .inr (inA a h)
theorem SI.take{c:Cfg}(x:SI prog w C H l c)(n:Nat):SI prog w C H l ⟨c.B,c.h,c.lay.take n,c.st.take n⟩:=
 ⟨x.h0,x.stay,x.frames,⟨x.store.cells.take n,(rm _ n _).nodup x.store.nodup,λ a h=>x.store.out a ((rm _ n _).subset h)⟩,
  λ L hL h=>x.frl L hL ((rm _ n _).subset h)⟩
theorem Am.repD{B h B':Heap}(hB:B.StaysIn B'){bs:List Addr}{kvs:List (Str×Value)}{l:List (String×Ent)}(x:Am prog w C B h bs kvs l)
 (k:∀a∈bs,∀o,h.get? a=some o->B'.get? a=some o):Dr prog w C B' kvs (l.map λ p=>(p.1,p.2.toV)):=by
 induction x with
 |nil=>exact .nil _
 |val r _ ih=>exact .cons (r.mono hB) (ih k)
 |own p r _ ih=>
  obtain⟨n,p⟩:=p;exact .cons (.list (k _ (by simp) _ p) (r.mono hB)) (ih λ b hb=>k b (bk _ hb))
theorem akz{st st':Store}{i:Nat}{d:V}(e:freeze (.cell i) st=.ok d st'):∃lv dt,st[i]? = some ⟨lv,dt⟩/\dt≠.hid/\d=dt.toV/\st'=st.set i ⟨false,dt⟩:=by
 have e:(match st[i]? with
  |some ⟨_,.hid⟩=>R.bad
  |some c=>.ok c.data.toV (st.set i ⟨false,c.data⟩)
  |Option.none=>.bad)=.ok d st':=e
 cases q:st[i]? with
 |none=>rw[q]at e;exact nomatch e
 |some cl=>
  rw[q]at e;obtain⟨lv,dt⟩:=cl;cases dt<;>first|exact⟨lv,_,rfl,(λ h=>nomatch h),(R.ok.inj e).1.symm,(R.ok.inj e).2.symm⟩|exact nomatch e
theorem qw.frozen{B B' h:Heap}{a:Addr}{as:List Addr}{dt:CD}(x:qw prog w C B h (a::as) ⟨true,dt⟩)(hn:dt≠.hid)(st1:B.StaysIn B')(inn:∀b∈a::as,∀o,h.get? b=some o->B'.get? b=some o):Rep prog w C B' (.ref a) dt.toV:=by
 cases dt with
 |list l=>
  obtain⟨-,vs,⟨n,p⟩,r⟩:=x.list_inv;exact .list (inn a f9 _ p) (r.mono st1)
 |dict l=>
  obtain⟨kvs,nm,p,r⟩:=x.dict_inv;exact .dict nm (v8 (inn a f9) p) (r.repD st1 λ b hb=>inn b (bk _ hb))
 |obj l=>
  obtain⟨dx,es,n,rfl,p,p2,r⟩:=x.obj_inv;exact .obj (inn _ f9 _ p) (inn _ (bk _ f9) _ p2) (r.mono st1)
 |hid=>exact absurd rfl hn
theorem ahy{c:Cfg}(st:c.B.StaysIn c.h)(as:List Addr):∃B',c.B.StaysIn B'/\B'.StaysIn c.h/\(∀b∈as,∀o,c.h.get? b=some o->B'.get? b=some o)/\∀b,c.B.get? b=none->B'.get? b≠none->b∈as:=by
 refine⟨mask c.h λ b=>(c.B.get? b).isSome||decide (b∈as),λ b o e=>wj.mpr ⟨by simp[e],st _ _ e⟩,Ku _ _,λ b hb o e=>wj.mpr ⟨by simp only[Bool.or_eq_true,decide_eq_true_eq];exact .inr hb,e⟩,λ b e1 e2=>?_⟩
 rw[Ca]at e2
 by_cases q:((c.B.get? b).isSome||decide (b∈as))=true
 ·simp only[e1,Option.isSome_none,Bool.false_or,decide_eq_true_eq]at q;exact q
 ·rw[bx q]at e2;exact absurd rfl e2
theorem U8{c:Cfg}(x:SI prog w C H l c){b:qp}{v:Value}{d:V}{st':Store}(hb:um prog w C c.B c.lay b v)(e:freeze b c.st=.ok d st'):
 ∃B',SI prog w C H l ⟨B',c.h,c.lay,st'⟩/\Step l [] c ⟨B',c.h,c.lay,st'⟩/\Rep prog w C B' v d:=by
 cases b with
 |val z=>
  obtain⟨rfl,rfl⟩:=R.ok.inj (e:R.ok z c.st = _);exact⟨c.B,x,Step.refl _ _,hb⟩
 |cell i=>
  obtain⟨lv,dt,q,hnh,rfl,rfl⟩:=akz e;obtain⟨l1,as,l2,s1,s2,y⟩:=x.store.cells.split q;obtain⟨a,as2,ha,rfl⟩:=hb;obtain rfl:as=a::as2:=by
   rw[y.lay,<-y.idx,<-y.len]at ha
   simpa using ha
  have hset:c.st.set i ⟨false,dt⟩=s1++⟨false,dt⟩::s2:=by rw[y.st,<-y.idx];simp
  rw[hset]
  induction lv with
  |false=>rw[<-y.st];exact⟨c.B,x,Step.refl _ _,y.mid.dead_inv hnh⟩
  |true=>
   obtain⟨B',st1,msk,inn,hnew⟩:=ahy x.stay (a::as2);have nd:(a::as2).Nodup:=by
    have:=x.store.nodup;rw[y.lay,y.st,qx _ y.len]at this;exact(j8.mp (j8.mp this).2.1).1
   have key:=x.cell (B':=B') (h':=c.h) (as':=a::as2) (cl':=⟨false,dt⟩) y.lay y.st y.len rfl y.low y.top (λ b o _ e=>e) st1 msk
    (λ b e1 e2=>.inr (hnew b e1 e2)) (.dead (y.mid.frozen hnh st1 inn)) nd (λ q=>nomatch q) (λ b hb=>.inl hb) ⟨a,as2,as2,rfl,rfl⟩
   rw[<-y.lay]at key;exact⟨B',key.1,key.2,y.mid.frozen hnh st1 inn⟩
end
end Mine.Internal
namespace Mine.Internal
structure Px where
 prog:Program
 w:World
 C:Addr
 H:Heap
 cR:Addr
 cT:Addr
 l:List Env
 A:Around
 env:Env
 cf:CF
 mg:Str->Option Value
 mb:Str->Option Value
 K:Frag
noncomputable abbrev Px.RP(P:Px):Heap->Value->V->Prop:=Rep P.prog P.w P.C
noncomputable abbrev Px.SI(P:Px):Cfg->Prop:=Mine.Internal.SI P.prog P.w P.C P.H P.l
noncomputable abbrev Px.NI(P:Px):Cfg->Loc->Prop:=Mine.Internal.NI P.prog P.w P.C P.env P.l
noncomputable abbrev Px.M(P:Px):Model:=model P.prog P.w
noncomputable abbrev Px.Post{α β : Type}(P:Px) (W:List Addr)(c:Cfg)(s:Shared)(r:R α)(rel:Cfg->β->α->Prop) (Q : β->Shared->Prop) (E:QV):Prop:=
 iz P.prog P.w P.C P.H P.cR P.cT P.l W c s r rel Q E
structure Kp(A:Around)(l:List Env)(n:Nat):Prop where
 hh:A.handled=none
 fr:A.frames=some l
 dp:A.depth+n<recursionLimit
 un:A.units+6*n+100<cLine
theorem Kp.enter{A:Around}{l:List Env}{n:Nat}(r:Kp A l (n+1))(e:Env):Kp (A.deeper e) (e::l) n:=
 ⟨r.hh,by show A.frames.map _ = _;rw[r.fr];rfl,u_s r.dp,by have:=r.un;show A.units+3+6*n+100 < _;lia⟩
noncomputable def fieldNames:List String:=["kind","chain","nonce","priority","cap","limit","target","value","data","access","signature"]
structure Ra(K:Frag) (C:Addr)(n:Str):Prop where
 get:plainGet K C n=true
 hd:hasDictIn K C=true
 cls:∃attr,findIn K (.ref C) n=some attr/\noGet K attr=true
 tk:takerIn K C n=some none
structure Wd(prog:Program)(w:World) (C:Addr) (H:Heap)(mg mb:Str->Option Value) (K:Frag)(cR cT:Addr):Prop where
 mR:mg "RlpFault" = some (.ref cR)
 mT:mg "TxFault" = some (.ref cT)
 mat:∀x,exmAny K (match x with|Exc.rlp=>Value.ref cR|Exc.tx=>Value.ref cT) [.ref cR,.ref cT]=some true
 kin:K.In H
 attrs:∀n∈fieldNames,Ra K C (Str.ofString n)
 sa:findIn K (.ref C) "__setattr__" = some (some (.builtin "object.__setattr__"))
 po:plainOver K C=true
 g:H.Ns mainGlobals mg
 b:H.Ns builtinsNs mb
 bl:∀x:Str,x≠"__name__"->mb x=bootBuiltins x
 lim:H.NoLimit
 globs:∀x d,J3 x=some d->∃v,mg (Str.ofString x)=some v/\Rep prog w C H v d
 free:∀x∈["len","isinstance","bytes","dict","all","range","int","list"],mg (Str.ofString x)=none
structure an0(env:Env):Prop where
 kind:env.scope.kind=.function
 g:env.globals=mainGlobals
 b:env.builtins=builtinsNs
 cel:∀n,env.kindOf n=some .cell->∃a,env.cells.lookup n=some a
structure Px.Ok(P:Px):Prop where
 room:∃n,Kp P.A P.l n
 wd:Wd P.prog P.w P.C P.H P.mg P.mb P.K P.cR P.cT
 ev:an0 P.env
 fr:∃env₀ outer L,P.l=env₀::outer/\env₀.frame=some L/\P.env.frame=env₀.frame
noncomputable def SE(P:Px)(ae:Expr)(e:Ex):Prop:=∀(ρ:Loc) (c:Cfg) (s:Shared) (Q:QV) (E:QV),s.heap=c.h->P.SI c->P.NI c ρ->
 P.Post [] c s (iu P.cf ρ e c.st) (λ c' v d=>P.RP c'.B v d) Q E->wpAny P.M P.A (eval ae P.env) Q E s
noncomputable def ST(P:Px)(ae:Expr)(e:Ex):Prop:=∀(ρ:Loc) (c:Cfg) (s:Shared) (Q:Bool->Shared->Prop) (E:QV),s.heap=c.h->P.SI c->P.NI c ρ->
 P.Post [] c s (ug P.cf ρ e c.st) (λ _ v d=>v=d) Q E->wpAny P.M P.A (isTrue ae P.env (eval ae P.env)) Q E s
variable{P:Px}
theorem ji{α β : Type}{c:Cfg}{s:Shared}{d : α}{rel:Cfg->β->α->Prop}{Q : β->Shared->Prop}{E:QV}{v : β}{W:List Addr}(tk:Nat)(hs:s.heap=c.h)
 (p:P.Post W c s (.ok d c.st) rel Q E) (x:P.SI c) (hr:rel c v d):Q v { s with toks:=tk }:=by
 have:=iz.same (tk:=tk) p x hr
 subst_vars
 rw[<-hs]at this;exact this
theorem Hw{c:Cfg}{s:Shared}{z:V}{Q:QV}{E:QV}(hs:s.heap=c.h)
 (p:P.Post [] c s (.ok z c.st) (λ c' v d=>P.RP c'.B v d) Q E) (x:P.SI c):Made P.prog P.w P.C c.B s z Q:=by
 intro v B' h' tk e r;rw[hs]at e;exact iz.done p x e r
noncomputable def uf(x:String):Bool:=!(Str.ofString x==("__debug__" : Str))&&!(Str.ofString x==("__classdict__" : Str))
theorem Eb(ev:an0 P.env){x:String}{pos:Pos}{ρ:Loc}{c:Cfg}{b:qp}{s:Shared}{Q:QV}{E:QV}(hs:s.heap=c.h)(ni:P.NI c ρ)(hb:lk x ρ=some b)
 (hd:uf x=true) (k:∀v,um P.prog P.w P.C c.B c.lay b v->Q v s):wpAny P.M P.A (eval (.Name (Str.ofString x) pos) P.env) Q E s:=by
 obtain⟨v,hv,hr⟩:=ni.names x b hb;have q:=k v hr;simp only[uf,sy,Bool.not_eq_true']at hd;refine wpAny_Name ?_ hd.1;rw[<-hs]at hv;rcases hv with⟨h1,m,h2,h3⟩|⟨h1|h1,a,h2,h3⟩
 ·exact wpAny_loadName_local ev.kind h1 h2 h3 q
 ·exact wpAny_loadName_cell ev.kind h1 h2 h3 q
 ·exact wpAny_loadName_free ev.kind h1 h2 h3 q hd.2
theorem ao5(cf:CF)(ρ:Loc)(x:String)(st:Store):iu cf ρ (.nm x) st=(match lk x ρ with
 |some b=>freeze b st
 |Option.none=>.bad):=rfl
theorem atp{cf:CF}{ρ:Loc}{x:String}{b:qp}(h:lk x ρ=some b)(st:Store):iu cf ρ (.nm x) st=freeze b st:=by rw[ao5,h]
theorem asy{cf:CF}{ρ:Loc}{x:String}(h:lk x ρ=none)(st:Store):iu cf ρ (.nm x) st=.bad:=by rw[ao5,h]
theorem anx(cf:CF)(ρ:Loc)(x:String)(st:Store):ug cf ρ (.nm x) st=(match lk x ρ with|some (.val (.bool b))=>.ok b st | _=>.bad):=rfl
theorem awr(ok:P.Ok){x:String}{pos:Pos}(hd:uf x=true):SE P (.Name (Str.ofString x) pos) (.nm x):=by
 intro ρ c s Q E hs si ni p;cases hb:lk x ρ with
 |none=>rw[asy hb]at p;exact p.elim
 |some b=>
  rw[atp hb]at p;refine Eb ok.ev hs ni hb hd λ v hv=>?_;cases e:freeze b c.st with
  |ok d st'=>
   rw[e]at p;obtain⟨B',k1,k2,k3⟩:=U8 si hv e;have:=p v _ s.toks rfl k1 k2 k3;rw[<-hs]at this;exact this
  |exc x st'=>cases b<;>simp only[freeze]at e<;>(try split at e)<;>(first|exact bh e|obtain rfl:=ao e|cases e)
  |bad=>rw[e]at p;exact p.elim
theorem Nz(ok:P.Ok){x:String}{pos:Pos}{c:Cfg}{v:Value}{s:Shared}{Q:QV}{E:QV}(hs:s.heap=c.h)(si:P.SI c)
 (hd:(Str.ofString x==("__debug__" : Str))=false) (hx:P.env.kindOf (Str.ofString x)=some .globalImplicit) (hv:P.mg (Str.ofString x)=some v) (k:Q v s):
 wpAny P.M P.A (eval (.Name (Str.ofString x) pos) P.env) Q E s:=by
 refine Name_function_global ok.ev.kind hx (loadGlobal_global (mg:=P.mg) ?_ hv k) hd;rw[ok.ev.g,hs];exact ok.wd.g.keeps λ b o e=>si.stay _ _ (si.h0 _ _ e)
theorem U5:∀x∈["len","isinstance","bytes","dict","all","range","int","list"],(Str.ofString x==("__debug__" : Str))=false/\Str.ofString x≠("__name__" : Str):=by decide +kernel
theorem q9(ok:P.Ok){x:String}{pos:Pos}{c:Cfg}{v:Value}{s:Shared}{Q:QV}{E:QV}(hs:s.heap=c.h)(si:P.SI c)
 (hm:x∈["len","isinstance","bytes","dict","all","range","int","list"]) (hx:P.env.kindOf (Str.ofString x)=some .globalImplicit) (hv:bootBuiltins (Str.ofString x)=some v) (k:Q v s):wpAny P.M P.A (eval (.Name (Str.ofString x) pos) P.env) Q E s:=by
 refine Name_function_global ok.ev.kind hx (loadGlobal_builtin (mg:=P.mg) (mb:=P.mb) ?_ (ok.wd.free x hm) ?_ ((ok.wd.bl _ (U5 x hm).2).trans hv) k) (U5 x hm).1
 ·rw[ok.ev.g,hs];exact ok.wd.g.keeps λ b o e=>si.stay _ _ (si.h0 _ _ e)
 ·rw[ok.ev.b,hs];exact ok.wd.b.keeps λ b o e=>si.stay _ _ (si.h0 _ _ e)
theorem R8{x:String}(h:uf x=true):(Str.ofString x==("__debug__" : Str))=false:=by
 simp only[uf,sy,Bool.not_eq_true']at h;exact h.1
theorem avc(ok:P.Ok){x:String}{pos:Pos}(hd:uf x=true)(hx:P.env.kindOf (Str.ofString x)=some .globalImplicit):SE P (.Name (Str.ofString x) pos) (.gl x):=by
 intro ρ c s Q E hs si ni p;obtain⟨d,hz,pB⟩:=p.lift;obtain⟨v,h1,h2⟩:=ok.wd.globs x d hz;exact Nz ok hs si (R8 hd) hx h1 (ji s.toks hs pB si (h2.mono si.h0))
theorem asv{i:Int}{k pos}:SE P (.Constant (.int i) k pos) (.int i):=by
 intro ρ c s Q E hs si ni p;exact wpAny_Constant_int (ji _ hs p si (.int _ _ _))
theorem asa{b:Bool}{k pos}:SE P (.Constant (.bool b) k pos) (.boo b):=by
 intro ρ c s Q E hs si ni p;exact wpAny_Constant_bool (ji s.toks hs p si (.bool _ _))
theorem ar8{k pos}:SE P (.Constant .none k pos) .non:=by
 intro ρ c s Q E hs si ni p;exact wpAny_Constant_none (ji s.toks hs p si (.none _))
theorem aqc{x:List UInt8}{k pos}:SE P (.Constant (.bytes x) k pos) (.byt x):=by
 intro ρ c s Q E hs si ni p;exact Constant_bytes (ji _ hs p si (.bytes _ _ _))
theorem at3{x:String}{k pos}:SE P (.Constant (.str (Str.ofString x)) k pos) (.str x):=by
 intro ρ c s Q E hs si ni p;exact wpAny_Constant_str (ji _ hs p si (.str _ _ _))
theorem aq0{la lb:Expr}{a b:Ex}{o:BOp}{pos:Pos}(ha:SE P la a)(hb:SE P lb b):SE P (.BinOp la (ato o) lb pos) (.bin o a b):=by
 intro ρ c s Q E hs si ni p;refine wpAny_BinOp (ha ρ c s _ E hs si ni (iz.seq si.frames p λ x va cC tk siB stB ra pB=>?_));refine hb ρ cC _ _ E rfl siB (ni.step si.frames stB) (iz.seq siB.frames pB λ y vb cD tkC siC stD rb pC=>?_);obtain⟨z,hz,pD⟩:=pC.lift;exact atk siC.stay (ra.mono stD.base) rb hz (Hw rfl pD siC)
theorem aq2{la:Expr}{a:Ex}{pos:Pos}(ha:SE P la a):SE P (.UnaryOp .USub la pos) (.neg a):=by
 intro ρ c s Q E hs si ni p;refine wpAny_UnaryOp (ha ρ c s _ E hs si ni (iz.seq si.frames p λ x va cC tk siB stB ra pB=>?_))
 induction x using V.casesOn with
 |int i=>
  obtain⟨t,rfl⟩:=qy ra;exact PySem.P.neg_int (ji _ rfl pB siB (.int _ _ _))
 | _=>exact pB.elim
theorem aen{la lb:Expr}{a b:Ex}{o:J8}{ρ:Loc}{c:Cfg}{s:Shared}{α : Type}{f:Option Bool->Store->R α}{rel:Cfg->α->α->Prop}{Q : α->Shared->Prop}{K:QV}{E:QV}
 (ok:P.Ok) (ha:SE P la a) (hb:SE P lb b) (hs:s.heap=c.h) (si:P.SI c) (ni:P.NI c ρ) (hm:behindInMarks (Oa o) lb=false)
 (p:P.Post [] c s ((iu P.cf ρ a c.st).bind λ x st=>(iu P.cf ρ b st).bind λ y st=>f (xg o x y) st) rel Q E)
 (k:∀r y vb cC tk,P.SI cC->Step P.l [] c cC->P.RP cC.B vb y->P.Post [] cC { s with heap:=cC.h,toks:=tk } (f r cC.st) rel Q E->∃z,r=some z/\K (.bool z) { s with heap:=cC.h,toks:=tk }):
 wpAny P.M P.A (eval la P.env) (λ va sE=>wpAny P.M P.A (eval lb P.env) (λ vb sG=>wpAny P.M P.A (compareOp (Oa o) va vb) K E sG) E sE) E s:=by
 obtain⟨n,room⟩:=ok.room;refine ha ρ c s _ E hs si ni (iz.seq si.frames p λ x va cC tk siB stB ra pB=>?_);refine hb ρ cC _ _ E rfl siB (ni.step si.frames stB) (iz.seq siB.frames pB λ y vb cD tkC siC stD rb pC=>?_);obtain⟨z,hz,hk⟩:=k _ y vb cD tkC siC (stB.trans si.frames stD) rb pC;exact Wf siC.stay (apk room.un) (ra.mono stD.base) rb hz hk
theorem ap9(ok:P.Ok){la lb:Expr}{a b:Ex}{o:J8}{pos:Pos}(ha:SE P la a)(hb:SE P lb b)(hm:behindInMarks (Oa o) lb=false):ST P (.Compare la [Oa o] [lb] pos) (.cmp o a b):=by
 intro ρ c s Q E hs si ni p;refine wpAny_isTrue_Compare1 ?_ hm;refine aen (f:=λ r st=>m5 r st) ok ha hb hs si ni hm p λ r y vb cC tk siB stB _ pB=>?_;obtain⟨z,hz,pC⟩:=pB.lift;exact⟨z,hz,wpAny_truthy_bool (ji tk rfl pC siB rfl)⟩
theorem abr(ok:P.Ok){la lb:Expr}{a b:Ex}{o:J8}{pos:Pos}(ha:SE P la a)(hb:SE P lb b)(hm:behindInMarks (Oa o) lb=false):SE P (.Compare la [Oa o] [lb] pos) (.cmp o a b):=by
 intro ρ c s Q E hs si ni p;obtain⟨n,room⟩:=ok.room;refine wpAny_Compare1 ?_ hm;refine ha ρ c s _ E hs si ni (iz.seq si.frames p λ x va cC tk siB stB ra pB=>?_);refine hb ρ cC _ _ E rfl siB (ni.step si.frames stB) (iz.seq siB.frames pB λ y vb cD tkC siC stD rb pC=>?_);obtain⟨z,hz,pD⟩:=pC.lift;cases hq:xg o x y with
 |none=>rw[hq]at hz;(first|exact bh hz|obtain rfl:=ao hz|cases hz)
 |some r=>
  rw[hq]at hz;(first|exact bh hz|obtain rfl:=ao hz|cases hz);have:=room.un;exact Wf siC.stay (apk room.un) (ra.mono stD.base) rb hq (ji tkC rfl pD siC (.bool _ _))
theorem alb(ok:P.Ok){la lb lc:Expr}{a b e:Ex}{o o':J8}{pos:Pos}(ha:SE P la a)(hb:SE P lb b)(hc:SE P lc e)(hm:lastMarks [Oa o,Oa o'] [lb,lc]=false):
 ST P (.Compare la [Oa o,Oa o'] [lb,lc] pos) (.cmp2 o o' a b e):=by
 intro ρ c s Q E hs si ni p;obtain⟨n,room⟩:=ok.room;have hu:P.A.units+12<cLine:=apk room.un;refine isTrue_chain ?_ hm;refine ha ρ c s _ E hs si ni (iz.seq si.frames p λ x va cC tk siB stB ra pB=>?_);refine test_link ?_;refine hb ρ cC _ _ E rfl siB (ni.step si.frames stB) (iz.seq siB.frames pB λ y vb cD tkC siC stD rb pC=>?_);cases hq:xg o x y with
 |none=>rw[hq]at pC;exact pC.elim
 |some r=>
  rw[hq]at pC;refine Wf siC.stay hu (ra.mono stD.base) rb hq (wpAny_truthy_bool ?_)
  induction r with
  |false=>exact ji tkC rfl pC siC rfl
  |true=>
   simp only[if_true];refine test_last ?_;refine hc ρ cD _ _ E rfl siC ((ni.step si.frames stB).step siB.frames stD) (iz.seq siC.frames pC λ z vc cF tkD siD stG rc pD=>?_);obtain⟨r',hq',pF⟩:=pD.lift;exact Wf siD.stay hu (rb.mono stG.base) rc hq' (wpAny_truthy_bool (ji tkD rfl pF siD rfl))
theorem arv{la:Expr}{a:Ex}{pos:Pos}(ha:ST P la a):ST P (.UnaryOp .Not la pos) (.notE a):=by
 intro ρ c s Q E hs si ni p;refine wpAny_isTrue_Not (ha ρ c s _ E hs si ni (iz.seq si.frames p λ x v cC tk siB stB ra pB=>?_));subst ra;exact ji tk rfl pB siB rfl
theorem avl(ok:P.Ok){x:String}{pos:Pos}(hd:uf x=true):ST P (.Name (Str.ofString x) pos) (.nm x):=by
 intro ρ c s Q E hs si ni p;refine wpAny_isTrue_value ?_;cases hb:lk x ρ with
 |none=>rw[anx,hb]at p;exact p.elim
 |some b=>
  rw[anx,hb]at p;refine Eb ok.ev hs ni hb hd λ v hv=>?_
  induction b using qp.casesOn with
  |cell i=>exact p.elim
  |val d=>
   induction d using V.casesOn with
   |bool b=>
    cases Iu hv;exact wpAny_truthy_bool (ji s.toks hs p si rfl)
   | _=>exact p.elim
theorem aq4{lt la lb:Expr}{t a b:Ex}{pos:Pos}(ht:ST P lt t)(ha:ST P la a)(hb:ST P lb b):ST P (.IfExp lt la lb pos) (.ife t a b):=by
 intro ρ c s Q E hs si ni p;refine isTrue_IfExp (ht ρ c s _ E hs si ni (iz.seq si.frames p λ x v cC tk siB stB ra pB=>?_));subst ra
 induction v with
 |true=>exact ha ρ cC _ _ E rfl siB (ni.step si.frames stB) pB
 |false=>exact hb ρ cC _ _ E rfl siB (ni.step si.frames stB) pB
theorem aqg{lt la lb:Expr}{t a b:Ex}{pos:Pos}(ht:ST P lt t)(ha:SE P la a)(hb:SE P lb b):SE P (.IfExp lt la lb pos) (.ife t a b):=by
 intro ρ c s Q E hs si ni p;refine IfExp_ (ht ρ c s _ E hs si ni (iz.seq si.frames p λ x v cC tk siB stB ra pB=>?_));subst ra
 induction v with
 |true=>exact ha ρ cC _ _ E rfl siB (ni.step si.frames stB) pB
 |false=>exact hb ρ cC _ _ E rfl siB (ni.step si.frames stB) pB
noncomputable def ahm(P:Px)(aes:List Expr)(es:Aq):Prop:=∀(ρ:Loc) (c:Cfg) (s:Shared) (Q:Bool->Shared->Prop) (E:QV),s.heap=c.h->P.SI c->P.NI c ρ->
 P.Post [] c s (O2 P.cf ρ es c.st) (λ _ v d=>v=d) Q E->wpAny P.M P.A (allTrue .And aes P.env) Q E s
noncomputable def SOr(P:Px)(aes:List Expr)(es:Aq):Prop:=∀(ρ:Loc) (c:Cfg) (s:Shared) (Q:Bool->Shared->Prop) (E:QV),s.heap=c.h->P.SI c->P.NI c ρ->
 P.Post [] c s (al1 P.cf ρ es c.st) (λ _ v d=>v=d) Q E->wpAny P.M P.A (allTrue .Or aes P.env) Q E s
theorem agk:ahm P [] .nil:=by
 intro ρ c s Q E hs si ni p;exact wpAny_allTrue_And_nil (ji s.toks hs p si rfl)
theorem alc:SOr P [] .nil:=by
 intro ρ c s Q E hs si ni p;exact wpAny_allTrue_Or_nil (ji s.toks hs p si rfl)
theorem ae0{la:Expr}{a:Ex}{aes:List Expr}{es:Aq}(ha:ST P la a)(hr:ahm P aes es):ahm P (la::aes) (.cons a es):=by
 intro ρ c s Q E hs si ni p;refine wpAny_allTrue_And_cons (ha ρ c s _ E hs si ni (iz.seq si.frames p λ x v cC tk siB stB ra pB=>?_));subst ra
 induction v with
 |true=>exact hr ρ cC _ _ E rfl siB (ni.step si.frames stB) pB
 |false=>exact ji tk rfl pB siB rfl
theorem ahr{la:Expr}{a:Ex}{aes:List Expr}{es:Aq}(ha:ST P la a)(hr:SOr P aes es):SOr P (la::aes) (.cons a es):=by
 intro ρ c s Q E hs si ni p;refine wpAny_allTrue_Or_cons (ha ρ c s _ E hs si ni (iz.seq si.frames p λ x v cC tk siB stB ra pB=>?_));subst ra
 induction v with
 |false=>exact hr ρ cC _ _ E rfl siB (ni.step si.frames stB) pB
 |true=>exact ji tk rfl pB siB rfl
theorem arq{aes:List Expr}{es:Aq}{pos:Pos}(h:ahm P aes es):ST P (.BoolOp .And aes pos) (.andE es):=by
 intro ρ c s Q E hs si ni p;exact wpAny_isTrue_BoolOp (h ρ c s Q E hs si ni p)
theorem ayc{aes:List Expr}{es:Aq}{pos:Pos}(h:SOr P aes es):ST P (.BoolOp .Or aes pos) (.orE es):=by
 intro ρ c s Q E hs si ni p;exact wpAny_isTrue_BoolOp (h ρ c s Q E hs si ni p)
noncomputable def SEs(P:Px)(aes:List Expr)(es:Aq):Prop:=∀(pos:Pos) (ρ:Loc) (c:Cfg) (s:Shared) (Q:List Value->Shared->Prop) (E:QV),s.heap=c.h->P.SI c->P.NI c ρ->
 P.Post [] c s (Bl P.cf ρ es c.st) (λ c' v d=>p8 P.prog P.w P.C c'.B v d) Q E->wpAny P.M P.A (spliced (backTo pos (starEach aes P.env))) Q E s
noncomputable def notStar:Expr->Bool
 |.Starred _ _=>false
 | _=>true
theorem Aa{e:Expr}{rest:List Expr}{env:Env}(h:notStar e=true):starEach (e::rest) env=(false,eval e env)::starEach rest env:=by
 cases e<;>first|rfl|cases h
theorem ajo:SEs P [] .nil:=by
 intro pos ρ c s Q E hs si ni p;exact spliced_none (ji s.toks hs p si (.nil _))
theorem aie{la:Expr}{a:Ex}{aes:List Expr}{es:Aq}(hn:notStar la=true)(ha:SE P la a)(hr:SEs P aes es):SEs P (la::aes) (.cons a es):=by
 intro pos ρ c s Q E hs si ni p;refine wpAny_items_cons (ha ρ c s _ E hs si ni (iz.seq si.frames p λ x v cC tk siB stB ra pB=>?_)) (Aa hn);refine hr pos ρ cC _ _ E rfl siB (ni.step si.frames stB) (iz.seq siB.frames pB λ xs vs cD tkC siC stD rs pC=>?_);exact ji tkC rfl pC siC (.cons (ra.mono stD.base) rs)
theorem asf{aes:List Expr}{es:Aq}{k:Nat}{pos:Pos}(h:SEs P aes es):SE P (.Tuple aes k pos) (.tup es):=by
 intro ρ c s Q E hs si ni p;refine wpAny_Tuple (h pos ρ c s _ E hs si ni (iz.seq si.frames p λ x v cC tk siB stB ra pB=>?_));obtain⟨hz,pC⟩:=iz.ifs pB;refine⟨Lq ra.length hz,?_⟩;exact(Hw (s:={ s with heap:=cC.h,toks:=tk }) rfl pC siB).tuple siB.stay ra
theorem apu{aes:List Expr}{es:Aq}{pos:Pos}(h:SEs P aes es):SE P (.List aes pos) (.lst es):=by
 intro ρ c s Q E hs si ni p;refine wpAny_List (h pos ρ c s _ E hs si ni (iz.seq si.frames p λ x v cC tk siB stB ra pB=>?_));obtain⟨hz,pC⟩:=iz.ifs pB;refine⟨Lq ra.length hz,?_⟩;exact(Hw (s:={ s with heap:=cC.h,toks:=tk }) rfl pC siB).list siB.stay ra
end Mine.Internal
namespace Mine.Internal
section
variable{prog:Program}{w:World}{C:Addr}{A:Around}{E:QV}{s:Shared}{B:Heap}
noncomputable def aap(o:Obj):Bool:=match o.cls with
 |.type n=>!["enumerate","zip","dict_itemiterator","dict_reverseitemiterator","odict_iterator","itertools.zip_longest","itertools.pairwise"].contains n
 | _=>true
noncomputable def Mr(prog:Program)(w:World) (C:Addr) (A:Around) (B:Heap) (I:Addr):List V->Obj->Prop
 |[],o=>∀(s:Shared) (Q:Option Value->Shared->Prop) (E:QV),s.heap.get? I=some o->B.StaysIn s.heap->
  (∀h' tk,(∀b o,b≠I->s.heap.get? b=some o->h'.get? b=some o)->Q none { s with heap:=h',toks:=tk })->wpAny (model prog w) A (pyNext (.ref I)) Q E s
 |d::r,o=>∀(s:Shared) (Q:Option Value->Shared->Prop) (E:QV),s.heap.get? I=some o->B.StaysIn s.heap->
  (∀v h' tk o',(∀b o,b≠I->s.heap.get? b=some o->h'.get? b=some o)->h'.get? I=some o'->aap o'=true->Mr prog w C A B I r o'->Rep prog w C B v d->Q (some v) { s with heap:=h',toks:=tk })->
  wpAny (model prog w) A (pyNext (.ref I)) Q E s
theorem Mw{I:Addr}{fp wr:List Addr}{P:Nat->Value->Prop}{St:Nat->Heap->Prop}{l:List V}(W:Walks prog w A I fp wr l.length P St)
 (hfp:∀b∈fp,b=I\/B.get? b≠none) (hwr:∀b∈wr,b=I) (hI:I∈fp) (hP:∀i v,i<l.length->P i v->∃d,l[i]? = some d/\Rep prog w C B v d)
 (hSt:∀i h,St i h->∃o,h.get? I=some o/\aap o=true) (hIB:B.get? I=none):∀(r:List V) (i:Nat) (h:Heap) (o:Obj),i<=l.length->l.drop i=r->St i h->h.get? I=some o->B.StaysIn h->Mr prog w C A B I r o:=by
 intro r;have frame:∀i (h h':Heap) o,St i h->h.get? I=some o->B.StaysIn h->h'.get? I=some o->B.StaysIn h'->St i h':=λ i h h' o st e1 b1 e2 b2=>W.frame i h h' st λ b hb o' e=>by
  rcases hfp b hb with rfl|q
  ·rw[e1]at e;(first|exact bh e|obtain rfl:=ao e|cases e);exact e2
  ·cases z:B.get? b with
   |none=>exact absurd z q
   |some oz=>
    have:=b1 _ _ z;rw[e]at this;(first|exact bh this|obtain rfl:=ao this|cases this);exact b2 _ _ z
 induction r with
 |nil=>
  intro i h o hle e st hI b1 s Q E hs bs k;have hi:l.length<=i:=by rwa [List.drop_eq_nil_iff]at e
  have:i=l.length:=Nat.le_antisymm hle hi;subst this;exact W.done s Q E (frame _ _ _ _ st hI b1 hs bs) λ h' tk hk=>k h' tk λ b o hb e=>hk b o (λ z=>hb (hwr b z)) e
 |cons d r ih=>
  intro i h o _ e st hI' b1 s Q E hs bs k;have hi:i<l.length:=by
   rcases Nat.lt_or_ge i l.length with q|q
   ·exact q
   ·rw[List.drop_eq_nil_iff.mpr q]at e;(first|exact bh e|obtain rfl:=ao e|cases e)
  refine W.item i s Q E hi (frame _ _ _ _ st hI' b1 hs bs) λ v h' tk hv st' hk=>?_;obtain⟨d',hd',rv⟩:=hP i v hi hv;have hdd:d'=d:=by
   have:l[i]? = some d:=by
    have:=au (λ z=>z[0]?) e
    simpa using this
   rw[hd']at this;(first|exact bh this|obtain rfl:=ao this|cases this);rfl
  subst hdd;have e':l.drop (i+1)=r:=by
   have:=au List.tail e
   simpa using this
  have bI:B.StaysIn h':=λ b o hb=>by
   by_cases hbI:b=I
   ·subst hbI;rw[hIB]at hb;(first|exact bh hb|obtain rfl:=ao hb|cases hb)
   ·exact hk b o (λ z=>hbI (hwr b z)) (bs _ _ hb)
  obtain⟨o',q,qo⟩:=hSt _ _ st';exact k v h' tk o' (λ b o hb e=>hk b o (λ z=>hb (hwr b z)) e) q qo (ih (i+1) h' o' hi e' st' q bI) rv
noncomputable def af9(prog:Program)(w:World) (C:Addr) (A:Around) (B:Heap)(s:Shared)(l:List V) (Q:QV):Prop:=
 ∀o,o.isFreed=false->Mr prog w C A B s.heap.objs.size l o->
  (∀(s':Shared) (Q':QV) (E':QV),s'.heap.get? s.heap.objs.size=some o->B.StaysIn s'.heap->Q' (.ref s.heap.objs.size) s'->wpAny (model prog w) A (pyIter (.ref s.heap.objs.size)) Q' E' s')->
  Q (.ref s.heap.objs.size) { s with heap:=s.heap.push o }
theorem zf{h:Heap}:h.get? h.objs.size=none:=by
 cases e:h.get? h.objs.size with
 |none=>rfl
 |some o=>exact absurd (Heap.lt_size e) (Nat.lt_irrefl _)
theorem abh(st:B.StaysIn s.heap):B.get? s.heap.objs.size=none:=by
 cases e:B.get? s.heap.objs.size with
 |none=>rfl
 |some o=>have:=st _ _ e;rw[zf]at this;(first|exact bh this|obtain rfl:=ao this|cases this)
theorem Gf{fp wr:List Addr}{P:Nat->Value->Prop}{St:Nat->Heap->Prop}{l:List V}{o:Obj}{Q:QV}(st:B.StaysIn s.heap)(hf:o.isFreed=false)
 (W:Walks prog w A s.heap.objs.size fp wr l.length P St) (hfp:∀b∈fp,b=s.heap.objs.size\/B.get? b≠none) (hwr:∀b∈wr,b=s.heap.objs.size) (hI:s.heap.objs.size∈fp)
 (hP:∀i v,i<l.length->P i v->∃d,l[i]? = some d/\Rep prog w C B v d) (hSt:∀i h,St i h->∃o,h.get? s.heap.objs.size=some o/\aap o=true) (h0:St 0 (s.heap.push o)) (k:af9 prog w C A B s l Q):Q (.ref s.heap.objs.size) { s with heap:=s.heap.push o }:=by
 have st1:B.StaysIn (s.heap.push o):=λ _ _ e=>Heap.get?_push_of_some _ (st _ _ e);have hg:(s.heap.push o).get? s.heap.objs.size=some o:=Heap.get?_push_size _ hf;refine k o hf (Mw W hfp hwr hI hP hSt (abh st) l 0 _ o (n6 _) rfl h0 hg st1) λ s' Q' E' e1 b1 q=>?_;refine W.self 0 s' Q' E' (W.frame 0 _ _ h0 λ b hb o' e=>?_) q;rcases hfp b hb with rfl|z
 ·rw[hg]at e;(first|exact bh e|obtain rfl:=ao e|cases e);exact e1
 ·cases y:B.get? b with
  |none=>exact absurd y z
  |some oz=>have:=st1 _ _ y;rw[e]at this;(first|exact bh this|obtain rfl:=ao this|cases this);exact b1 _ _ y
theorem alh{v:Value}{d:V}{l:List V}{Q:QV}(st:B.StaysIn s.heap)(hh:A.handled=none)(hv:Rep prog w C B v d)(e:itemsOf d=some l)(k:af9 prog w C A B s l Q):
 wpAny (model prog w) A (pyIter v) Q E s:=by
 induction d using V.casesOn with
 |list ds=>
  ·obtain⟨hz,rfl⟩:=o7 e;obtain⟨p,vs,n,rfl,hp,rp⟩:=qm hv;have hn:=rp.length;have hne:p≠s.heap.objs.size:=qz (Heap.lt_size (st _ _ hp));refine wpAny_pyIter_list ⟨_,st _ _ hp,rfl,n,rfl⟩ ?_;have W:=Walks.list (prog:=prog) (w:=w) (A:=A) hh s.heap.objs.size p hne vs.toArray;rw[show vs.toArray.size=ds.length from by rw[gn,hn]]at W
   refine Gf st rfl W (λ b hb=>?_) (λ b hb=>by simpa using hb) (by simp) (λ i v _ hv=>?_) (λ i h hs=>?_) ?_ k
   ·simp only[gb,uw,or_false]at hb;rcases hb with rfl|rfl
    ·exact .inl rfl
    ·exact .inr (by rw[hp];exact λ q=>nomatch q)
   ·have:i<ds.length:=by rw[<-hn];exact(iw.mp (by simpa using hv)).1
    obtain⟨v',h1,h2⟩:=rp.get (gq this);rw[List.getElem?_toArray]at hv;rw[hv]at h1;obtain rfl:=ao h1;exact⟨_,gq this,h2⟩
   ·obtain⟨⟨o,ho,hc,_⟩,_⟩:=hs;exact⟨o,ho,by unfold aap;rw[hc];rfl⟩
   ·exact⟨⟨_,Heap.get?_push_size _ rfl,rfl,rfl⟩,⟨_,Heap.get?_push_of_some _ (st _ _ hp),rfl,n,rfl⟩⟩
 |tuple ds=>
  ·obtain⟨hz,rfl⟩:=o7 e;obtain⟨p,vs,n,rfl,hp,rp⟩:=vm hv;have hn:=rp.length;have hne:p≠s.heap.objs.size:=qz (Heap.lt_size (st _ _ hp));refine wpAny_pyIter_tuple ⟨_,st _ _ hp,rfl,n,rfl⟩ ?_;have W:=Walks.tuple (prog:=prog) (w:=w) (A:=A) hh s.heap.objs.size p hne vs.toArray;rw[show vs.toArray.size=ds.length from by rw[gn,hn]]at W
   refine Gf st rfl W (λ b hb=>?_) (λ b hb=>by simpa using hb) (by simp) (λ i v _ hv=>?_) (λ i h hs=>?_) ?_ k
   ·simp only[gb,uw,or_false]at hb;rcases hb with rfl|rfl
    ·exact .inl rfl
    ·exact .inr (by rw[hp];exact λ q=>nomatch q)
   ·have:i<ds.length:=by rw[<-hn];exact(iw.mp (by simpa using hv)).1
    obtain⟨v',h1,h2⟩:=rp.get (gq this);rw[List.getElem?_toArray]at hv;rw[hv]at h1;obtain rfl:=ao h1;exact⟨_,gq this,h2⟩
   ·obtain⟨⟨o,ho,hc,_⟩,_⟩:=hs;exact⟨o,ho,by unfold aap;rw[hc];rfl⟩
   ·exact⟨⟨_,Heap.get?_push_size _ rfl,rfl,rfl⟩,⟨_,Heap.get?_push_of_some _ (st _ _ hp),rfl,n,rfl⟩⟩
 |bytes b=>
  ·obtain⟨hz,rfl⟩:=o7 e;obtain⟨t,rfl⟩:=o9 hv;refine KBw.pyIter_bytes ?_;have W:=KBw.walks (prog:=prog) (w:=w) (A:=A) hh s.heap.objs.size b.toArray t;rw[show b.toArray.size=(b.map λ c=>V.int (c.toNat:Int)).length from by simp]at W
   refine Gf st rfl W (λ b hb=>.inl (by simpa using hb)) (λ b hb=>by simpa using hb) (by simp) (λ i v _ hv=>?_) (λ i h hs=>?_) ?_ k
   ·obtain⟨c,u,hc,rfl⟩:=hv;rw[List.getElem?_toArray]at hc;exact⟨_,by rw[List.getElem?_map,hc];rfl,.int _ _ _⟩
   ·obtain⟨o,ho,hc,_⟩:=hs;exact⟨o,ho,by unfold aap;rw[hc];rfl⟩
   ·exact⟨_,Heap.get?_push_size _ rfl,rfl,rfl⟩
 | _=>exact bh e
end
end Mine.Internal
namespace Mine.Internal
section
variable{prog:Program}{w:World}{C:Addr}{A:Around}{E:QV}{s:Shared}{B:Heap}{H:Heap}{l:List Env}
noncomputable def ax4(prog:Program)(w:World) (C:Addr) (B h:Heap)(bs:List Addr)(y:Value):Ent->Prop
 |.val d=>Rep prog w C B y d
 |.own l=>∃b vs,y=.ref b/\b∈bs/\z9 h b vs/\p8 prog w C B vs l
theorem Am.look{h:Heap}{bs:List Addr}{kvs:List (Str×Value)}{es:List (String×Ent)}(x:Am prog w C B h bs kvs es){k:String}{e:Ent}(q:lk k es=some e):
 ∃y,valueAt kvs (Str.ofString k)=some y/\ax4 prog w C B h bs y e:=by
 induction x with
 |nil=>(first|exact bh q|obtain rfl:=ao q|cases q)
 | @val bs kvs l k' v d r _ ih=>
  rw[Al]at q
  by_cases hk:k=k'
  ·subst hk;rw[bf rfl]at q
   (first|exact bh q|obtain rfl:=ao q|cases q)
   exact⟨_,by simp[valueAt],r⟩
  ·rw[bx hk]at q;obtain⟨y,hy,ry⟩:=ih q;refine⟨y,?_,ry⟩;have:¬(Str.ofString k'=Str.ofString k):=λ z=>hk (u0 z).symm
   simpa[valueAt,List.find?_cons,this]using hy
 | @own bs kvs l k' b vs q' a r _ ih=>
  rw[Al]at q
  by_cases hk:k=k'
  ·subst hk;rw[bf rfl]at q
   (first|exact bh q|obtain rfl:=ao q|cases q)
   exact⟨_,by simp[valueAt],b,vs,rfl,by simp,a,r⟩
  ·rw[bx hk]at q;obtain⟨y,hy,ry⟩:=ih q;refine⟨y,?_,?_⟩
   ·have:¬(Str.ofString k'=Str.ofString k):=λ z=>hk (u0 z).symm
    simpa[valueAt,List.find?_cons,this]using hy
   ·induction e using Ent.casesOn with
    |val d=>exact ry
    |own l=>obtain⟨b,vs,h1,h2,h3⟩:=ry;exact⟨b,vs,h1,bk _ h2,h3⟩
theorem atr{k:String}{l:List (String×Ent)}{e:Ent}(q:lk k l=some e):lk k (l.map λ p=>(p.1,p.2.toV))=some e.toV:=by
 induction l with
 |nil=>(first|exact bh q|obtain rfl:=ao q|cases q)
 |cons p r ih=>
  obtain⟨k',e'⟩:=p;rw[Al]at q;rw[je,Al]
  split
  ·rename_i h;rw[bf h]at q;(first|exact bh q|obtain rfl:=ao q|cases q);rfl
  ·rename_i h;rw[bx h]at q;exact ih q
theorem Dd{c:Cfg}(x:SI prog w C H l c){i:Nat}{v:Value}{cl:Cell}(hb:um prog w C c.B c.lay (.cell i) v)(q:c.st[i]? = some cl):
 ∃a l1 as l2 s1 s2,v=.ref a/\aci prog w C c.B c.h c.lay c.st i cl l1 l2 (a::as) s1 s2:=by
 obtain⟨l1,as,l2,s1,s2,h1,h2,h3,h4,h5,h6,h7⟩:=x.store.cells.split q;obtain⟨a,as2,ha,rfl⟩:=hb;have has:as=a::as2:=by
  rw[h1,<-h4,<-h3]at ha
  simpa using ha
 subst has;exact⟨a,l1,as2,l2,s1,s2,rfl,h1,h2,h3,h4,h5,h6,h7⟩
theorem aic{st:Store}{i:Nat}{k z:V}(e:Pu (.cell i) k st=some z):(∃lv ds,st[i]? = some ⟨lv,.list ds⟩/\zp (.list ds) k=some z)\/∃lv ds x,st[i]? = some ⟨lv,.dict ds⟩/\k=.str x/\lk x ds=some (.val z):=by
 have e:(match(generalizing:=false) st[i]? with
  |some ⟨_,.list l⟩=>zp (.list l) k
  |some ⟨_,.dict l⟩=>(match(generalizing:=false) k with
   |.str x=>(match lk x l with|some (.val v)=>some v | _=>Option.none)
   | _=>Option.none)
  | _=>Option.none)=some z:=e
 cases hq:st[i]? with
 |none=>rw[hq]at e;exact bh e
 |some c=>
  rw[hq]at e;obtain⟨lv,d⟩:=c;cases d with
  |list l=>exact .inl ⟨lv,l,rfl,e⟩
  |dict l=>
   induction k using V.casesOn with
   |str x=>
    dsimp only at e;cases hl:lk x l with
    |none=>rw[hl]at e;exact bh e
    |some en=>
     rw[hl]at e
     induction en using Ent.casesOn with
     |val v=>obtain rfl:=ao e;exact .inr ⟨lv,l,x,rfl,rfl,hl⟩
     | _=>exact bh e
   | _=>exact bh e
  | _=>exact bh e
theorem aip{st:Store}{i:Nat}{z:V}(e:Nq (.cell i) st=some z):∃lv ds,st[i]? = some ⟨lv,.list ds⟩/\lenV (.list ds)=some z:=by
 have e:(match(generalizing:=false) st[i]? with
  |some ⟨_,.list l⟩=>lenV (.list l)
  | _=>Option.none)=some z:=e
 cases hq:st[i]? with
 |none=>rw[hq]at e;exact bh e
 |some c=>
  rw[hq]at e;obtain⟨lv,d⟩:=c;cases d with
  |list l=>exact⟨lv,l,rfl,e⟩
  | _=>exact bh e
theorem am3{c:Cfg}(x:SI prog w C H l c){value slice:Expr}{b:qp}{v vk:Value}{k z:V}{Q:QV}(hs:s.heap=c.h)(hb:um prog w C c.B c.lay b v)(hk:Rep prog w C c.B vk k)
 (e:Pu b k c.st=some z) (h:∀u tk,Rep prog w C c.B u z->Q u { s with toks:=tk }):wpAny (model prog w) A (subscriptTail value slice v vk) Q E s:=by
 have st:c.B.StaysIn s.heap:=hs▸x.stay;cases b with
 |val d=>exact Z6 st hb hk e h
 |cell i=>
  rcases aic e with⟨lv,ds,hq,e⟩|⟨lv,ds,kx,hq,rfl,hv'⟩
  ·obtain⟨a,_,as,_,_,_,rfl,y⟩:=Dd x hb hq;have hc:=y.mid
   induction lv with
   |false=>exact Z6 st hc.deadl_inv hk e h
   |true=>
    obtain⟨-,vs,⟨n,p⟩,r⟩:=hc.list_inv;exact Ly (hs▸p) r hk e λ u ru=>h u s.toks ru
  ·obtain⟨a,_,as,_,_,_,rfl,y⟩:=Dd x hb hq;have hc:=y.mid
   induction lv with
   |false=>exact Z6 (z:=z) st hc.deadd_inv hk (show(lk kx _:Option V)=_ from atr hv') h
   |true=>
    obtain⟨kvs,nm,p,r⟩:=hc.dict_inv;obtain⟨y,h1,h2⟩:=r.look hv';obtain⟨t,rfl⟩:=Jk hk;exact Hg (hs▸p) h1 λ tk=>h y tk h2
theorem amt{c:Cfg}(x:SI prog w C H l c){b:qp}{v:Value}{z:V}{Q:QV}(hs:s.heap=c.h)(hb:um prog w C c.B c.lay b v)
 (e:Nq b c.st=some z) (h:∀u tk,Rep prog w C c.B u z->Q u { s with toks:=tk }):wpAny (model prog w) A (call (.builtin "len") [v]) Q E s:=by
 have st:c.B.StaysIn s.heap:=hs▸x.stay;cases b with
 |val d=>exact af2 st hb e h
 |cell i=>
  obtain⟨lv,ds,hq,e⟩:=aip e;obtain⟨a,_,as,_,_,_,rfl,y⟩:=Dd x hb hq;have hc:=y.mid
  induction lv with
  |false=>exact af2 st hc.deadl_inv e h
  |true=>
   obtain⟨-,vs,⟨n,p⟩,r⟩:=hc.list_inv;exact Pa (hs▸p) r e h
theorem aq3{value slice:Expr}{v vk:Value}{ds:List V}{Q:QV}(st:B.StaysIn s.heap)(hv:Rep prog w C B v (.list ds))(pk:IsPart vk (some (-1)))(hz:ds.length<=lim)
 (k:Made prog w C B s (.list ds.reverse) Q):
 wpAny (model prog w) A (subscriptTail value slice v (.ref s.heap.objs.size)) Q E { s with heap:=s.heap.push { cls:=.type "slice",data:=.fields #[.none,.none,vk] } }:=by
 obtain⟨a,vs,n,rfl,ha,r⟩:=qm hv;have hn:=r.length;have st1:B.StaysIn (s.heap.push { cls:=.type "slice",data:=.fields #[.none,.none,vk] }):=λ _ _ e=>Heap.get?_push_of_some _ (st _ _ e);have hl:(s.heap.push { cls:=.type "slice",data:=.fields #[.none,.none,vk] }).IsList a vs.toArray:=⟨_,st1 _ _ ha,rfl,_,rfl⟩;refine Fo (s:={ s with heap:=s.heap.push { cls:=.type "slice",data:=.fields #[.none,.none,vk] } }) hl.typeIs slot_list_getitem.lookup ?_;refine wpAny_getItem_list_slice (lo:=none) (hi:=none) (st:=some (-1)) hl (Heap.IsSliceOf.new _ _ _ _) .none .none pk (by decide) ?_ (Lq hn hz)
 rw[krv_pick];have e1:=Jg st { cls:=.type "slice",data:=.fields #[.none,.none,vk] } rfl;have e2:=Jg (B:=grow B s.heap (s.heap.push { cls:=.type "slice",data:=.fields #[.none,.none,vk] })) (s:={ s with heap:=s.heap.push { cls:=.type "slice",data:=.fields #[.none,.none,vk] } }) e1.1.stay { cls:=.type "list",data:=.seq (vs.toArray.toList.reverse.toArray) } rfl;have:=k _ _ _ s.toks (e1.1.trans e2.1) (.list (vs:=vs.reverse) e2.2 ((r.reverse).mono (e1.1.trans e2.1).base));exact this
theorem af6{vs:List Value}:∀{ds:List V}{bs:List Bool},p8 prog w C B vs ds->boolsOf ds=some bs->vs=bs.map Value.bool:=by
 induction vs with
 |nil=>intro ds bs h e;obtain rfl:=yc h;rw[<-ao e];rfl
 |cons v vs ih=>
  intro ds bs h e;obtain⟨d,r,rfl,hd,hr⟩:=uh h
  induction d using V.casesOn with
  |bool b=>
   obtain⟨bs',h1,rfl⟩:=uc.mp (show(boolsOf r).map (b::·)=some bs from e);rw[je,<-ih hr h1,Iu hd]
  | _=>exact bh e
theorem apj{v:Value}{ds:List V}{bs:List Bool}{Q:QV}(st:B.StaysIn s.heap)(hh:A.handled=none)(hv:Rep prog w C B v (.list ds))(e:boolsOf ds=some bs)
 (k:∀h' tk,(∀b o,s.heap.get? b=some o->h'.get? b=some o)->Q (.bool (bs.all id)) { s with heap:=h',toks:=tk }):wpAny (model prog w) A (call (.builtin "all") [v]) Q E s:=by
 obtain⟨p,vs,n,rfl,hp,rp⟩:=qm hv;have hne:p≠s.heap.objs.size:=qz (Heap.lt_size (st _ _ hp));have key:=af6 rp e;refine call_all_walk (wpAny_pyIter_list ⟨_,st _ _ hp,rfl,n,rfl⟩ ?_);refine⟨_,_,_,_,_,_,λ i=>bs.getD i false,rfl,Walks.list (prog:=prog) (w:=w) (A:=A.in1) hh s.heap.objs.size p hne vs.toArray,⟨⟨_,Heap.get?_push_size _ rfl,rfl,rfl⟩,⟨_,Heap.get?_push_of_some _ (st _ _ hp),rfl,n,rfl⟩⟩,?_,?_⟩
 ·intro i v s' Q' E' hv hq;rw[key]at hv;simp at hv;have hq':Q' (bs[i]?.getD false) s':=by rw[<-List.getD_eq_getElem?_getD];exact hq
  rcases hv with⟨h1,rfl⟩|⟨h1,rfl⟩<;>rw[h1]at hq'<;>exact wpAny_truthy_bool hq'
 ·intro h' tk hk;have e1:(List.range vs.toArray.size).all (λ i=>bs.getD i false)=bs.all id:=by
   rw[key];simp only[gn,bw];have:∀(l:List Bool),(List.range l.length).all (λ i=>l.getD i false)=l.all id:=by
    intro l;rw[Bool.eq_iff_iff];simp only[List.all_eq_true,List.mem_range,id]
    constructor
    ·intro h b hb;obtain⟨i,hi,rfl⟩:=List.getElem_of_mem hb;have:=h i hi;rw[List.getD_eq_getElem?_getD,gq hi]at this;exact this
    ·intro h i hi;rw[List.getD_eq_getElem?_getD,gq hi];exact h _ (List.getElem_mem hi)
   exact this bs
  rw[e1];refine k h' tk λ b o eb=>hk b o (λ z=>?_) (Heap.get?_push_of_some _ eb);simp only[uo]at z;subst z;rw[zf]at eb;cases eb
set_option tactic.hygienic true in
theorem arn{v:Value}{ds:List (String×V)}{Q:QV}(hsm : 1<s.heap.objs.size)(st:B.StaysIn s.heap)(hv:Rep prog w C B v (.dict ds))(hz:ds.length<=1000)(k:Made prog w C B s (.dict ds) Q):
 wpAny (model prog w) A (call (.type "dict") [v]) Q E s:=by
 (first|exact bh hv|obtain rfl:=ao hv|cases hv)
 rename_i a kvs nm hd r;have hd':s.heap.DictOf (strKind prog w) a kvs:=s8 prog w st hd;refine kt_call_dict nm hd' (Ur (Fy r) hz) λ h' hm hs=>?_;have keep:∀b o,s.heap.get? b=some o->h'.get? b=some o:=λ b o e=>hs.extBut b o (qz (Heap.lt_size e)) (Heap.get?_push_of_some _ e);have ex:=Ext.grow st keep;refine k _ _ h' s.toks ex (.dict ?_ (v8 (λ o e=>I7 (jf _) e) hm) (r.mono ex.base));exact m8.mpr (Nat.ne_of_gt hsm)
end
end Mine.Internal
namespace Mine.Internal
section
variable{prog:Program}{w:World}{C:Addr}{A:Around}{E:QV}{s sE:Shared}{B:Heap}{H:Heap}{l:List Env}
theorem Bf{x y:String}(h:x≠y):¬(Str.ofString x=Str.ofString y):=λ q=>h (u0 q)
theorem Fz{kvs:List (Str×Value)}{k:Str}{u v:Value}(hn:k∉kvs.map (·.1)):stored ((k,u)::kvs) k v=(k,v)::kvs:=by
 unfold stored;simp only[List.any_cons,decide_true,Bool.true_or,if_true,je]
 congr 1
 have:kvs.map (λ kv=>if kv.1=k then(kv.1,v)else kv)=kvs.map id:=List.map_congr_left λ p hp=>by
  split
  ·rename_i q;exact absurd (kj.mpr ⟨p,hp,q⟩) hn
  ·rfl
 rw[this,List.map_id]
theorem Fw{kvs:List (Str×Value)}{k k':Str}{u v:Value}(hne:¬(k'=k)):stored ((k',u)::kvs) k v=(k',u)::stored kvs k v:=by
 unfold stored;simp only[List.any_cons,hne,decide_false,Bool.false_or,je,if_false]
 split<;>rfl
theorem Am.putVal{h:Heap}{bs:List Addr}{kvs:List (Str×Value)}{es:List (String×Ent)}(x:Am prog w C B h bs kvs es)(hn:(kvs.map (·.1)).Nodup)(k:String){v:Value}{d:V}(r:Rep prog w C B v d):
 ∃bs',Am prog w C B h bs' (stored kvs (Str.ofString k) v) (put k (.val d) es)/\List.Sublist bs' bs:=by
 induction x with
 |nil=>exact⟨[],by simpa[stored,put]using Am.val r .nil,List.Sublist.refl _⟩
 | @val bs kvs l k' v' d' r' rest ih=>
  obtain⟨h1,h2⟩:=jl.mp hn;rw[Cm]
  by_cases hk:k=k'
  ·subst hk;rw[bf rfl,Fz h1];exact⟨bs,.val r rest,List.Sublist.refl _⟩
  ·rw[bx hk,Fw (Bf (Ne.symm hk))];obtain⟨bs',h3,h4⟩:=ih h2;exact⟨bs',.val r' h3,h4⟩
 | @own bs kvs l k' b vs q' a r' rest ih=>
  obtain⟨h1,h2⟩:=jl.mp hn;rw[Cm]
  by_cases hk:k=k'
  ·subst hk;rw[bf rfl,Fz h1];exact⟨bs,.val r rest,List.sublist_cons_self _ _⟩
  ·rw[bx hk,Fw (Bf (Ne.symm hk))];obtain⟨bs',h3,h4⟩:=ih h2;exact⟨b::bs',.own a r' h3,h4.cons_cons _⟩
theorem Am.putOwn{h:Heap}{bs:List Addr}{kvs:List (Str×Value)}{es:List (String×Ent)}(x:Am prog w C B h bs kvs es)(hn:(kvs.map (·.1)).Nodup)(k:String){b:Addr}{vs:List Value}{q:List V}
 (ha:z9 h b vs) (r:p8 prog w C B vs q) (hb:b∉bs) (hd:bs.Nodup):
 ∃bs',Am prog w C B h bs' (stored kvs (Str.ofString k) (.ref b)) (put k (.own q) es)/\bs'.Nodup/\∀a∈bs',a∈bs\/a=b:=by
 induction x with
 |nil=>exact⟨[b],by simpa[stored,put]using Am.own ha r .nil,by simp,by simp⟩
 | @val bs kvs l k' v' d' r' rest ih=>
  obtain⟨h1,h2⟩:=jl.mp hn;rw[Cm]
  by_cases hk:k=k'
  ·subst hk;rw[bf rfl,Fz h1];exact⟨b::bs,.own ha r rest,jl.mpr ⟨hb,hd⟩,λ a h=>by rcases gb.mp h with rfl|h<;>simp[*]⟩
  ·rw[bx hk,Fw (Bf (Ne.symm hk))];obtain⟨bs',h3,h4,h5⟩:=ih h2 hb hd;exact⟨bs',.val r' h3,h4,h5⟩
 | @own bs kvs l k' b' vs' q' a r' rest ih=>
  obtain⟨h1,h2⟩:=jl.mp hn;obtain⟨d1,d2⟩:=jl.mp hd;simp only[gb,not_or]at hb;rw[Cm]
  by_cases hk:k=k'
  ·subst hk;rw[bf rfl,Fz h1];exact⟨b::bs,.own ha r rest,jl.mpr ⟨hb.2,d2⟩,λ a h=>by rcases gb.mp h with rfl|h<;>simp[*]⟩
  ·rw[bx hk,Fw (Bf (Ne.symm hk))];obtain⟨bs',h3,h4,h5⟩:=ih h2 hb.2 d2;refine⟨b'::bs',.own a r' h3,jl.mpr ⟨λ z=>?_,h4⟩,λ a h=>?_⟩
   ·rcases h5 _ z with z|z
    ·exact d1 z
    ·exact hb.1 z.symm
   ·rcases gb.mp h with rfl|h
    ·simp
    ·rcases h5 _ h with h|h<;>simp[h]
theorem Mf{h:Heap}{a:Addr}{kvs:List (Str×Value)}(x:h.DictOf (strKind prog w) a kvs):(kvs.map (·.1)).Nodup:=by
 obtain⟨_,_,_,_,_,_,_,_,hn⟩:=x;exact hn
theorem Am.len{h:Heap}{bs:List Addr}{kvs:List (Str×Value)}{es:List (String×Ent)}(x:Am prog w C B h bs kvs es):kvs.length=es.length:=by
 induction x with
 |nil=>rfl
 |val _ _ ih=>simp[ih]
 |own _ _ _ ih=>simp[ih]
theorem Pq{p:Addr}{items:Array Value}{k:Int}{t:Tok}{v:Value}{Q:Unit->Shared->Prop}(hp:s.heap.PlainList p items)(h0 : 0<=k)(hfit:k<2^63)(hn:k<items.size)
 (hQ:∀h',h'.PlainList p (items.setIfInBounds k.toNat v)->Heap.SameBut p s.heap h'->Q () { s with heap:=h' }):wpAny (model prog w) A (setItem (.ref p) (.int k t) v) Q E s:=by
 have hl:=hp.isList;obtain⟨n,ho⟩:=hp;have hd:({ cls:=.type "list",data:=.seq items n }:Obj).data=.seq items n:=rfl;unfold setItem
 try with_reducible refine wpAny_holding ?_
 first|refine wpAny_bind (wpAny_pure ?_)|skip
 refine wpAny_bind (wpAny_sequenceKey hl.typeIs (by decide) ?_)
 refine wpAny_bind (wpAny_callSpecial?_slot (name:=Str.ofString "__setitem__") hl.typeIs slot_list_setitem
  (wpAny_call_entry slot_list_setitem hl.typeIs entry_list_setitem ?_ (args_list_setitem _ _ _)))
 show wpAny _ _ (Builtin.List.listSubscript? (.int k t) >>= _) _ _ s;refine wpAny_bind (wpAny_listSubscript_int (fitsIndex_of h0 hfit) ?_)
 clear hfit
 obtain⟨j,rfl⟩:=s6 h0;have hj:j<items.size:=jw.mp hn;have hx':items[j]? = some items[j]:=Array.getElem?_eq_getElem hj;show wpAny _ _ ((seqItemAt p j >>= λ r=>pure (r.map (j,·))) >>= _) _ _ s;refine wpAny_bind (wpAny_bind (wpAny_seqItemAt ho hd (wpAny_pure ?_)));rw[hx'];show wpAny _ _ (setSeqItemAt p j v >>= _) _ _ s;have hm:∃n',Obj.mapSeq (·.setIfInBounds j v) { cls:=.type "list",data:=.seq items n }={ cls:=.type "list",data:=.seq (items.setIfInBounds j v) n' }:=by
  simp only[Obj.mapSeq];exact⟨_,rfl⟩
 obtain⟨n',hm⟩:=hm;have hfin:(s.heap.update p (Obj.mapSeq (·.setIfInBounds j v))).PlainList p (items.setIfInBounds j v):=⟨n',by rw[Heap.get?_update_self _ ho (by rw[hm];rfl),hm]⟩
 refine wpAny_bind (wpAny_setSeqItemAt ho hd ?_)
 first
  |exact wpAny_bind (wpAny_pure (wpAny_pure ⟨.none,rfl,wpAny_pure (hQ _ hfin (Heap.SameBut.update ..))⟩))
  |exact wpAny_pure ⟨.none,rfl,wpAny_pure (hQ _ hfin (Heap.SameBut.update ..))⟩
theorem p8.set{vs:List Value}{ds:List V}(r:p8 prog w C B vs ds){v:Value}{d:V}(h:Rep prog w C B v d):∀i,p8 prog w C B (vs.set i v) (ds.set i d):=by
 cases r with
 |nil=>intro i;simp;exact .nil _
 |cons a b=>
  intro i
  induction i using Nat.casesOn with
  |zero=>exact .cons h b
  |succ i=>exact .cons a (p8.set b h i)
termination_by ds.length
theorem Er{c:Cfg}{s1 s2:Store}{cl:Cell}{i:Nat}{d:CD}(h2:c.st=s1++cl::s2)(h4:s1.length=i):setCell i d c.st=s1++⟨true,d⟩::s2:=by
 unfold setCell;rw[h2,<-h4];simp
theorem Ac{c:Cfg}{l1 l2:List (List Addr)}{as:List Addr}{s1 s2:Store}{cl:Cell}(h1:c.lay=l1++as::l2)(h2:c.st=s1++cl::s2)(h3:l1.length=s1.length)(hl:cl.live=true):
 ∀b∈as,b∈c.live:=λ b hb=>by
 show b∈jj c.lay c.st;rw[h1,h2,qx _ h3];rw[zu hl];exact jq _ (j5 _ hb)
theorem Ek{c:Cfg}(x:Ju prog w C c.B c.h c.lay c.st){l1 l2:List (List Addr)}{as:List Addr}{s1 s2:Store}{cl:Cell}(h1:c.lay=l1++as::l2)(h2:c.st=s1++cl::s2)(h3:l1.length=s1.length)(hl:cl.live=true):
 as.Nodup:=by
 have:=x.nodup;rw[h1,h2,qx _ h3]at this;rw[zu hl]at this;exact(j8.mp (j8.mp this).2.1).1
noncomputable def K8(prog:Program)(w:World) (C:Addr) (H:Heap)(l:List Env)(c:Cfg)(st':Store)(s:Shared) (Q:Unit->Shared->Prop):Prop:=
 ∀c' tk,c'.st=st'->SI prog w C H l c'->Step l [] c c'->Q () { s with heap:=c'.h,toks:=tk }
theorem Ag{a:Addr}{as:List Addr}{h h':Heap}(hs:Heap.SameBut a h h')(ha:a∈as):∀b o,b∉as->h.get? b=some o->h'.get? b=some o:=λ b o hb e=>(hs.2 b (λ q=>hb (q▸ha))).trans e
theorem zx{a:Addr}{h h':Heap}(hs:Heap.SameBut a h h'){B:Heap}(st:B.StaysIn h)(ha:B.get? a=none):B.StaysIn h':=λ b o e=>(hs.2 b (λ q=>by subst q;rw[ha]at e;(first|exact bh e|obtain rfl:=ao e|cases e))).trans (st _ _ e)
theorem Y9{st st':Store}{i:Nat}{k:V}{en:Ent}(e:setB (.cell i) k en st=some st'):
 (∃l x,st[i]? = some ⟨true,.dict l⟩/\k=.str x/\l.length<=1000/\setCell i (.dict (put x en l)) st=st')\/
 ∃l j v,st[i]? = some ⟨true,.list l⟩/\k=.int j/\en=.val v/\(0<=j/\j<l.length/\l.length<=lim)/\setCell i (.list (l.set j.toNat v)) st=st':=by
 have e:(match(generalizing:=false) st[i]? with
  |some ⟨true,.dict l⟩=>(match(generalizing:=false) k with
   |.str x=>if l.length<=1000 then some (setCell i (.dict (put x en l)) st)else Option.none
   | _=>Option.none)
  |some ⟨true,.list l⟩=>(match(generalizing:=false) k,en with
   |.int j,.val v=>if 0<=j/\j<l.length/\l.length<=lim then some (setCell i (.list (l.set j.toNat v)) st)else Option.none
   | _,_=>Option.none)
  | _=>Option.none)=some st':=e
 cases hq:st[i]? with
 |none=>rw[hq]at e;exact bh e
 |some c=>
  rw[hq]at e;obtain⟨lv,d⟩:=c
  induction lv with
  |false=>cases d<;>exact bh e
  |true=>
   cases d with
   |dict l=>
    cases k with
    |str x=>exact .inl ⟨l,x,rfl,rfl,o7 e⟩
    | _=>exact bh e
   |list l=>
    cases k with
    |int j=>
     induction en using Ent.casesOn with
     |val v=>exact .inr ⟨l,j,v,rfl,rfl,rfl,o7 e⟩
     | _=>exact bh e
    | _=>exact bh e
   | _=>exact bh e
theorem ahn{st st':Store}{i:Nat}{v:V}(e:Gd (.cell i) none v st=some st'):∃l,st[i]? = some ⟨true,.list l⟩/\l.length<=lim/\setCell i (.list (l++[v])) st=st':=by
 have e:(match(generalizing:=false) st[i]? with
  |some ⟨true,.list l⟩=>if l.length<=lim then some (setCell i (.list (l++[v])) st)else Option.none
  | _=>Option.none)=some st':=e
 cases hq:st[i]? with
 |none=>rw[hq]at e;exact bh e
 |some c=>
  rw[hq]at e;obtain⟨lv,d⟩:=c
  induction lv with
  |false=>cases d<;>exact bh e
  |true=>
   cases d with
   |list l=>exact⟨l,rfl,o7 e⟩
   | _=>exact bh e
theorem aln{st:Store}{i:Nat}{x:String}{l:List (String×Ent)}{q:List V}(v:V)(h:st[i]? = some ⟨true,.dict l⟩)(hl:lk x l=some (.own q)):
 Gd (.cell i) (some x) v st=if q.length<=lim then some (setCell i (.dict (put x (.own (q++[v])) l)) st)else none:=by
 show(match st[i]? with
  |some ⟨true,.dict l⟩=>(match lk x l with
   |some (.own q)=>if q.length<=lim then some (setCell i (.dict (put x (.own (q++[v])) l)) st)else Option.none
   | _=>Option.none)
  | _=>Option.none)=_
 rw[h];dsimp only;rw[hl]
theorem amq{c:Cfg}(x:SI prog w C H l c){b:qp}{v vk u:Value}{k d:V}{st':Store}{Q:Unit->Shared->Prop}(hs:s.heap=c.h)(hb:um prog w C c.B c.lay b v)(hk:Rep prog w C c.B vk k)
 (hu:Rep prog w C c.B u d) (e:setB b k (.val d) c.st=some st') (h:K8 prog w C H l c st' s Q):wpAny (model prog w) A (setItem v vk u) Q E s:=by
 cases b with
 |val _=>(first|exact bh e|obtain rfl:=ao e|cases e)
 |cell i=>
  rcases Y9 e with⟨es,kx,hq,rfl,hz,rfl⟩|⟨ds,j,d',hq,rfl,hd',hz,rfl⟩
  ····obtain⟨a,l1,as,l2,s1,s2,rfl,h1,h2,h3,h4,h5,hc,h7⟩:=Dd x hb hq;obtain⟨t,rfl⟩:=Jk hk;obtain⟨kvs,nm,p,r⟩:=hc.dict_inv;have ha:=x.store.out a (Ac h1 h2 h3 rfl a (by simp))
      have nd:=Ek x.store h1 h2 h3 rfl;refine wpAny_setItem_pairs (strKind_is prog w _ t) (hs▸p) (λ h' hm hsb=>?_) (Ur r.len hz);rw[hs]at hsb;obtain⟨bs',h8,h9⟩:=r.putVal (Mf p) kx hu;have hst:=zx hsb x.stay ha;obtain⟨n1,n2⟩:=jl.mp nd;have key:=x.cell (B':=c.B) (h':=h') (as':=a::bs') (cl':=⟨true,.dict (put kx (.val d) es)⟩) h1 h2 h3 rfl h5 h7 (Ag hsb (by simp)) (lu _) hst (λ b e1 e2=>absurd e1 e2)
       (.dict nm hm (h8.keeps (lu _) λ b hb o eb=>(hsb.2 b (λ z=>n1 (z▸h9.subset hb))).trans eb)) (jl.mpr ⟨λ z=>n1 (h9.subset z),h9.nodup n2⟩)
       (λ _ b hb=>x.store.out b (Ac h1 h2 h3 rfl b (by rcases gb.mp hb with rfl|hb<;>simp[*];exact .inr (h9.subset hb)))) (λ b hb=>.inl (by
        rcases gb.mp hb with rfl|hb;· simp
        ·exact bk _ (h9.subset hb))) ⟨a,as,bs',rfl,rfl⟩
      exact h _ (s.toks+1) (Er h2 h4).symm key.1 key.2
  ····obtain⟨a,l1,as,l2,s1,s2,rfl,h1,h2,h3,h4,h5,hc,h7⟩:=Dd x hb hq;obtain rfl:=Ent.val.inj hd';obtain⟨t,rfl⟩:=qy hk;obtain⟨rfl,vs,p,r⟩:=hc.list_inv;have ha:=x.store.out a (Ac h1 h2 h3 rfl a (by simp))
      have hn:=r.length;refine Pq (items:=vs.toArray) (hs▸p) hz.1 (ap5 hz.2.1 hz.2.2) (by rw[gn,hn];exact hz.2.1) λ h' hm hsb=>?_
      rw[hs]at hsb;have hst:=zx hsb x.stay ha;have hm':z9 h' a (vs.set j.toNat u):=by
       obtain⟨n',hm⟩:=hm;exact⟨n',by rw[hm];simp⟩
      have key:=x.cell (B':=c.B) (h':=h') (as':=[a]) (cl':=⟨true,.list (ds.set j.toNat d)⟩) h1 h2 h3 rfl h5 h7 (Ag hsb (by simp)) (lu _) hst (λ b e1 e2=>absurd e1 e2)
       (.list hm' (r.set hu _)) (by simp) (λ _ b hb=>by simp at hb;subst hb;exact ha) (λ b hb=>.inl hb) ⟨a,[],[],rfl,rfl⟩
      exact h _ s.toks (Er h2 h4).symm key.1 key.2
theorem afi{c:Cfg}(x:SI prog w C H l c){b:qp}{v vk:Value}{k:V}{st':Store}{Q:Unit->Shared->Prop}(hs:s.heap=c.h)(hb:um prog w C c.B c.lay b v)(hk:Rep prog w C c.B vk k)
 (e:setB b k (.own []) c.st=some st'){q:Addr}(hq:c.h.get? q=none){h₁:Heap}(kI:∀b o,c.h.get? b=some o->h₁.get? b=some o) (hl:z9 h₁ q []) (hsB:sE.heap=h₁) (hss:sE = { s with heap:=h₁,toks:=sE.toks }) (h:K8 prog w C H l c st' s Q):wpAny (model prog w) A (setItem v vk (.ref q)) Q E sE:=by
 cases b with
 |val _=>(first|exact bh e|obtain rfl:=ao e|cases e)
 |cell i=>
  rcases Y9 e with⟨es,kx,hq',rfl,hz,rfl⟩|⟨ds,j,d',hq',rfl,hd',hz,rfl⟩
  ····obtain⟨a,l1,as,l2,s1,s2,rfl,h1,h2,h3,h4,h5,hc,h7⟩:=Dd x hb hq';obtain⟨t,rfl⟩:=Jk hk;obtain⟨kvs,nm,p,r⟩:=hc.dict_inv;have ha:=x.store.out a (Ac h1 h2 h3 rfl a (by simp))
      have nd:=Ek x.store h1 h2 h3 rfl;obtain⟨n1,n2⟩:=jl.mp nd;have hqa:q≠a:=λ z=>by
       obtain⟨o,_,_,ho,_⟩:=p;rw[z,ho]at hq;(first|exact bh hq|obtain rfl:=ao hq|cases hq)
      have hqs:q∉as:=λ z=>r.there q z hq;have pB:h₁.DictOf (PySem.strKind prog w) a kvs:=v8 (kI a) p;refine wpAny_setItem_pairs (strKind_is prog w _ t) (hsB▸pB) (λ h' hm hsb=>?_) (Ur r.len hz);rw[hsB]at hsb;have hl':z9 h' q []:=Dt (λ o e=>(hsb.2 q hqa).trans e) hl;have stB:c.B.StaysIn h₁:=λ b o e=>kI b o (x.stay b o e);have r':Am prog w C c.B h' as kvs es:=r.keeps (lu _) λ b hb o eb=>(hsb.2 b (λ z=>n1 (z▸hb))).trans (kI b o eb);obtain⟨bs',h8,h9,h10⟩:=r'.putOwn (Mf p) kx hl' (.nil _) hqs n2;have hst:=zx hsb stB ha;have qB:c.B.get? q=none:=by
       cases z:c.B.get? q with
       |none=>rfl
       |some o=>have:=x.stay _ _ z;rw[hq]at this;(first|exact bh this|obtain rfl:=ao this|cases this)
      have key:=x.cell (B':=c.B) (h':=h') (as':=a::bs') (cl':=⟨true,.dict (put kx (.own []) es)⟩) h1 h2 h3 rfl h5 h7 (λ b o hb eb=>Ag hsb (as:=a::as) (by simp) b o hb (kI b o eb)) (lu _) hst (λ b e1 e2=>absurd e1 e2)
       (.dict nm hm h8) (jl.mpr ⟨λ z=>(h10 a z).elim n1 (λ z=>hqa z.symm),h9⟩)
       (λ _ b hb=>by
        rcases gb.mp hb with rfl|hb
        ·exact ha
        ·rcases h10 b hb with hb|rfl
         ·exact x.store.out b (Ac h1 h2 h3 rfl b (by simp[hb]))
         ·exact qB)
       (λ b hb=>by
        rcases gb.mp hb with rfl|hb
        ·exact .inl (by simp)
        ·rcases h10 b hb with hb|rfl
         ·exact .inl (by simp[hb])
         ·exact .inr hq) ⟨a,as,bs',rfl,rfl⟩
      rw[hss];exact h _ _ (Er h2 h4).symm key.1 key.2
  ·exact nomatch hd'
structure avq(prog:Program)(w:World) (C:Addr) (B h:Heap)(bs:List Addr)(kvs:List (Str×Value))(es:List (String×Ent))(k:String)(q:List V)(b:Addr)(vs:List Value):Prop where
 val:valueAt kvs (Str.ofString k)=some (.ref b)
 mem:b∈bs
 list:z9 h b vs
 rep:p8 prog w C B vs q
 put:∀(h':Heap) vs' q',(∀a∈bs,a≠b->∀o,h.get? a=some o->h'.get? a=some o)->bs.Nodup->z9 h' b vs'->p8 prog w C B vs' q'->Am prog w C B h' bs kvs (put k (.own q') es)
theorem Am.own_at{h:Heap}{bs:List Addr}{kvs:List (Str×Value)}{es:List (String×Ent)}(x:Am prog w C B h bs kvs es){k:String}{q:List V}(e:lk k es=some (.own q)):
 ∃b vs,avq prog w C B h bs kvs es k q b vs:=by
 induction x with
 |nil=>(first|exact bh e|obtain rfl:=ao e|cases e)
 | @val bs kvs l k' v d r rest ih=>
  rw[Al]at e
  by_cases hk:k=k'
  ·subst hk;rw[bf rfl]at e;(first|exact bh e|obtain rfl:=ao e|cases e)
  ·rw[bx hk]at e;obtain⟨b,vs,h1,h2,h3,h4,h5⟩:=ih e;refine⟨b,vs,?_,h2,h3,h4,λ h' vs' q' k1 nd hl hr=>?_⟩
   ·have:¬(Str.ofString k'=Str.ofString k):=λ z=>hk (u0 z).symm
    simpa[valueAt,List.find?_cons,this]using h1
   ·rw[Cm];rw[bx hk];exact .val r (h5 h' vs' q' k1 nd hl hr)
 | @own bs kvs l k' b' vs q' a r rest ih=>
  rw[Al]at e
  by_cases hk:k=k'
  ·subst hk;rw[bf rfl]at e
   (first|exact bh e|obtain rfl:=ao e|cases e)
   refine⟨b',vs,by simp[valueAt],by simp,a,r,λ h' vs' q' k1 nd hl hr=>?_⟩
   rw[Cm];rw[bf rfl];obtain⟨n1,n2⟩:=jl.mp nd;exact .own hl hr (rest.keeps (lu _) λ b hb=>k1 b (bk _ hb) λ z=>n1 (z▸hb))
  ·rw[bx hk]at e;obtain⟨b,vs1,h1,h2,h3,h4,h5⟩:=ih e;refine⟨b,vs1,?_,bk _ h2,h3,h4,λ h' vs' q'' k1 nd hl hr=>?_⟩
   ·have:¬(Str.ofString k'=Str.ofString k):=λ z=>hk (u0 z).symm
    simpa[valueAt,List.find?_cons,this]using h1
   ·rw[Cm];rw[bx hk];obtain⟨n1,n2⟩:=jl.mp nd;exact .own (Dt (k1 b' (by simp) (λ z=>n1 (z▸h2))) a) r (h5 h' vs' q'' (λ a ha=>k1 a (bk _ ha)) n2 hl hr)
theorem ar9{c:Cfg}(x:SI prog w C H l c){b:qp}{v u:Value}{d:V}{st':Store}{Q:QV}(hs:s.heap=c.h)(hb:um prog w C c.B c.lay b v)
 (hu:Rep prog w C c.B u d) (e:Gd b none d c.st=some st') (h:K8 prog w C H l c st' s (λ _=>Q .none)):wpAny (model prog w) A (call (.builtin "list.append") [v,u]) Q E s:=by
 cases b with
 |val _=>(first|exact bh e|obtain rfl:=ao e|cases e)
 |cell i=>
  obtain⟨ds,hq,hz,rfl⟩:=ahn e
  ···obtain⟨a,l1,as,l2,s1,s2,rfl,h1,h2,h3,h4,h5,hc,h7⟩:=Dd x hb hq;obtain⟨rfl,vs,p,r⟩:=hc.list_inv;have ha:=x.store.out a (Ac h1 h2 h3 rfl a (by simp))
     have hn:=r.length;refine wpAny_list_append_plain (items:=vs.toArray) (hs▸p) (λ h' hm hsb=>?_) (Lq hn hz);rw[hs]at hsb;have hst:=zx hsb x.stay ha;have hm':z9 h' a (vs++[u]):=by
      obtain⟨n',hm⟩:=hm;exact⟨n',by rw[hm];simp⟩
     have key:=x.cell (B':=c.B) (h':=h') (as':=[a]) (cl':=⟨true,.list (ds++[d])⟩) h1 h2 h3 rfl h5 h7 (Ag hsb (by simp)) (lu _) hst (λ b e1 e2=>absurd e1 e2)
      (.list hm' (r.append (.one hu))) (by simp) (λ _ b hb=>by simp at hb;subst hb;exact ha) (λ b hb=>.inl hb) ⟨a,[],[],rfl,rfl⟩
     exact h _ s.toks (Er h2 h4).symm key.1 key.2
end
end Mine.Internal
namespace Mine.Internal
section
variable{prog:Program}{w:World}{C:Addr}{A:Around}{E:QV}{s sE:Shared}{B:Heap}{H:Heap}{l:List Env}{K:Frag}
theorem abz{v:Value}{d:V}(h:Rep prog w C B v d):handedIn v=true:=by cases h<;>rfl
theorem Qs{es:List DictEntry}(h:Df prog w C B es []):es=[]:=by cases h;rfl
theorem Js{es:List DictEntry}{k:String}{d:V}{ds:List (String×V)}(h:Df prog w C B es ((k,d)::ds)):∃t v r,es=⟨PyData.keyHash w.params (Str.ofString k),.str (Str.ofString k) t,v⟩::r/\Rep prog w C B v d/\Df prog w C B r ds:=by
 cases h with
 |cons h r=>exact⟨_,_,_,rfl,h,r⟩
theorem aft{ds:List (String×V)}:∀{es:List DictEntry},Df prog w C B es ds->es.any (·.refKey)=false:=by
 induction ds with
 |nil=>intro es h;obtain rfl:=Qs h;rfl
 |cons p ds ih=>intro es h;obtain⟨t,v,r,rfl,_,hr⟩:=Js h;rw[List.any_cons,ih hr];rfl
theorem W8{ds:List (String×V)}:∀{es:List DictEntry},Df prog w C B es ds->es.length=ds.length:=by
 induction ds with
 |nil=>intro es h;obtain rfl:=Qs h;rfl
 |cons p ds ih=>intro es h;obtain⟨t,v,r,rfl,_,hr⟩:=Js h;exact au Nat.succ (ih hr)
theorem T9(k:Str)(t:Tok)(n:Str):(Value.str k t).isStr n=(k==n):=rfl
theorem aed{ds:List (String×V)}:∀{es:List DictEntry}{n:String}{d:V},Df prog w C B es ds->lk n ds=some d->
 ∃e,es.find? (·.key.isStr (Str.ofString n))=some e/\Rep prog w C B e.val d:=by
 induction ds with
 |nil=>intro es n d h e;exact bh e
 |cons p ds ih=>
  intro es n d h e;obtain⟨k,d'⟩:=p;obtain⟨t,v,r,rfl,hv,hr⟩:=Js h;rw[Al]at e;rw[List.find?_cons,T9]
  by_cases hk:n=k
  ·subst hk;rw[bf rfl]at e;obtain rfl:=ao e;rw[uq];exact⟨_,rfl,hv⟩
  ·rw[bx hk]at e;rw[m8.mpr λ q=>hk (u0 q).symm];exact ih hr e
theorem aei{es:List DictEntry}{ds:List (String×V)}{n:String}{d:V}(r:Df prog w C B es ds)(e:lk n ds=some d):∃v,getL (Str.ofString n) es=some (some v)/\Rep prog w C B v d:=by
 obtain⟨en,h1,h2⟩:=aed r e;exact⟨en.val,by unfold getL;rw[h1],h2⟩
theorem aiv{ds:List (String×V)}:∀{es:List DictEntry}(n:String){d:V}{v:Value}(t:Tok),Df prog w C B es ds->Rep prog w C B v d->
 Df prog w C B (putL (Str.ofString n) (PyData.keyHash w.params (Str.ofString n)) (.str (Str.ofString n) t) v es) (put n d ds):=by
 induction ds with
 |nil=>intro es n d v t h h';obtain rfl:=Qs h;exact .cons h' (.nil _)
 |cons p ds ih=>
  intro es n d v t h h';obtain⟨k,d'⟩:=p;obtain⟨t',v',r,rfl,hv,hr⟩:=Js h;unfold putL;rw[Cm,T9]
  by_cases hk:n=k
  ·subst hk;rw[bf (c:=n=n) rfl,bf (uq _)];exact .cons h' hr
  ·rw[bx hk,bx (by rw[beq_iff_eq];exact λ q=>hk (u0 q).symm)]
   exact .cons hv (ih n t hr h')
theorem O5(n:Str)(hsh:Int)(k v:Value):∀es:List DictEntry,(putL n hsh k v es).length<=es.length+1
 |[]=>by simp[putL]
 |e::r=>by
  unfold putL
  split
  ·simp
  ·exact qj (O5 n hsh k v r)
theorem abm{v:Value}{ds:List (String×V)}{n:String}{d:V}{Q:QV}(st:B.StaysIn s.heap) (X:K.In s.heap)(a:Ra K C (Str.ofString n))(hv:Rep prog w C B v (.obj ds))(e:lk n ds=some d)
 (h:∀u tk,Rep prog w C B u d->Q u { s with toks:=tk }):wpAny (model prog w) A (getAttr v (Str.ofString n) true) Q E s:=by
 obtain⟨x,dx,es,m,rfl,h1,h2,r⟩:=alg hv;obtain⟨u,h3,h4⟩:=aei r e;obtain⟨attr,h5,h6⟩:=a.cls;exact get_value X (⟨st _ _ h1,rfl,rfl,st _ _ h2⟩:InstAt s.heap x (instObj C dx) C (some (dictOf es m))) (plainGet_of a.get).1 (findObj_own a.hd h5 h6 h3) (abz h4) (h u _ h4)
theorem Z9{x dx:Addr}{es:List DictEntry}{m:Nat}{n:Str}{v:Value}{Q:Unit->Shared->Prop}(X:K.In s.heap)(a:Ra K C n)(sa:findIn K (.ref C) "__setattr__" = some (some (.builtin "object.__setattr__")))(po:plainOver K C=true)
 (h1:s.heap.get? x=some (instObj C dx)) (h2:s.heap.get? dx=some (dictOf es m)) (hk:es.any (·.refKey)=false) (hz:es.length<=900)
 (h:∀h' tk m',h'.get? dx=some (dictOf (putL n (PyData.keyHash w.params n) (.str n (s.toks+1)) v es) m')->Heap.SameBut dx s.heap h'->Q () { s with heap:=h',toks:=tk }):
 wpAny (model prog w) A (setAttr (.ref x) n v) Q E s:=by
 have I:InstAt s.heap x (instObj C dx) C (some (dictOf es m)):=⟨h1,rfl,rfl,h2⟩;refine set_plain X I sa ?_;have X':K.In ({ s with toks:=s.toks+1 }:Shared).heap:=X;refine osa_open (s:={ s with toks:=s.toks+1 }) X' I po a.tk λ b=>?_;obtain⟨cd,hc,hd'⟩:=any_some a.hd;refine wpAny_bind (wpAny_pure (wpAny_bind (wpAny_bind (wpAny_loadPart h1 (wpAny_bind ((looks_clsIn X' hc).here ?_))))));rw[hd'];refine wpAny_pure (a:=some dx) (wpAny_bind (wpAny_pure (wpAny_bind ?_)));unfold nsSet;refine wpAny_bind (wpAny_bind (wpAny_askSetting (wpAny_pure (wpAny_bind (wpAny_mkText (wpAny_bind (wpAny_loadPart h2 ?_)))))));dsimp only;have c:(!es.toArray.any (·.key.isStr n)&&es.toArray.any (·.refKey))=false:=by
  have hk':es.toArray.any (·.refKey)=false:=by rw[List.any_toArray];exact hk
  rw[hk',Bool.and_false]
 rw[aRefKeyMayBeTheName_at,c];have e1:=putName_dict n (PyData.keyHash w.params n) (.str n (s.toks+1)) v es m;have hz':=O5 n (PyData.keyHash w.params n) (.str n (s.toks+1)) v es;have hg:(s.heap.update dx (Obj.putName n (PyData.keyHash w.params n) (.str n (s.toks+1)) v)).get? dx=some (dictOf (putL n (PyData.keyHash w.params n) (.str n (s.toks+1)) v es) (putN n es m)):=by
  rw[Heap.get?_update_self _ h2 (by rw[e1];rfl),e1]
 refine wpAny_updatePart h2 ?_;refine wpAny_bind (wpAny_lookBehind hg (by exact pastItsLine_dict (ak hz' (ak (qj hz) (aj rfl)))) ?_)
 exact wpAny_pure (h _ _ _ hg (Heap.SameBut.update ..))
theorem ai5{st st':Store}{i:Nat}{n:String}{v:V}(e:Bh (.cell i) n v st=some st'):∃l,st[i]? = some ⟨true,.obj l⟩/\l.length<=900/\setCell i (.obj (put n v l)) st=st':=by
 have e:(match(generalizing:=false) st[i]? with
  |some ⟨true,.obj l⟩=>if l.length<=900 then some (setCell i (.obj (put n v l)) st)else Option.none
  | _=>Option.none)=some st':=e
 cases hq:st[i]? with
 |none=>rw[hq]at e;exact bh e
 |some c=>
  rw[hq]at e;obtain⟨lv,d⟩:=c
  induction lv with
  |false=>cases d<;>exact bh e
  |true=>
   cases d with
   |obj l=>exact⟨l,rfl,o7 e⟩
   | _=>exact bh e
theorem Zc{c:Cfg}(x:SI prog w C H l c){b:qp}{v u:Value}{n:String}{d:V}{st':Store}{Q:Unit->Shared->Prop}(hs:s.heap=c.h) (X:K.In c.h)(a:Ra K C (Str.ofString n))
 (sa:findIn K (.ref C) "__setattr__" = some (some (.builtin "object.__setattr__"))) (po:plainOver K C=true) (hb:um prog w C c.B c.lay b v)
 (hu:Rep prog w C c.B u d) (e:Bh b n d c.st=some st') (h:K8 prog w C H l c st' s Q):wpAny (model prog w) A (setAttr v (Str.ofString n) u) Q E s:=by
 cases b with
 |val _=>(first|exact bh e|obtain rfl:=ao e|cases e)
 |cell i=>
  obtain⟨es,hq,hz,rfl⟩:=ai5 e
  ···obtain⟨p,l1,as,l2,s1,s2,rfl,h1,h2,h3,h4,h5,hc,h7⟩:=Dd x hb hq;obtain⟨dx,ents,m,rfl,g1,g2,r⟩:=hc.obj_inv;have ndx:=Ek x.store h1 h2 h3 rfl;have hdB:=x.store.out dx (Ac h1 h2 h3 rfl dx (by simp))
     have hne:p≠dx:=λ z=>by subst z;simp at ndx
     refine Z9 (hs▸X) a sa po (hs▸g1) (hs▸g2) (aft r) (by rw[W8 r];exact hz) λ h' tk m' hg hsb=>?_
     rw[hs]at hsb;have hst:=zx hsb x.stay hdB;have key:=x.cell (B':=c.B) (h':=h') (as':=[p,dx]) (cl':=⟨true,.obj (put n d es)⟩) h1 h2 h3 rfl h5 h7 (Ag hsb (by simp)) (lu _) hst (λ b e1 e2=>absurd e1 e2)
      (.obj ((hsb.2 p hne).trans g1) hg (aiv n _ r hu)) ndx (λ _ b hb=>x.store.out b (Ac h1 h2 h3 rfl b hb)) (λ b hb=>.inl hb) ⟨p,[dx],[dx],rfl,rfl⟩
     exact h _ tk (Er h2 h4).symm key.1 key.2
theorem SI.hide{c:Cfg}(x:SI prog w C H l c){l1 l2:List (List Addr)}{as:List Addr}{s1 s2:Store}{cl:Cell}(h1:c.lay=l1++as::l2)(h2:c.st=s1++cl::s2)(h3:l1.length=s1.length)(hl:cl.live=true)(hne:as≠[])
 (k1:CellsOk prog w C c.B c.h l1 s1) (k2:CellsOk prog w C c.B c.h l2 s2):
 SI prog w C H l ⟨c.B,c.h,c.lay,s1++⟨false,.hid⟩::s2⟩/\Step l [] c ⟨c.B,c.h,c.lay,s1++⟨false,.hid⟩::s2⟩:=by
 obtain⟨a,r,rfl⟩:=List.exists_cons_of_ne_nil hne;have:=x.cell (B':=c.B) (h':=c.h) (as':=a::r) (cl':=⟨false,.hid⟩) h1 h2 h3 hl k1 k2 (λ _ _ _ e=>e) (lu _) x.stay (λ b e1 e2=>absurd e1 e2) .hid (Ek x.store h1 h2 h3 hl) (λ q=>by cases q) (λ b hb=>.inl hb) ⟨a,r,r,rfl,rfl⟩
 rw[<-h1]at this;exact this
theorem SI.unhide{c cC:Cfg}(x:SI prog w C H l c){l1 l2:List (List Addr)}{as:List Addr}{s1 s2:Store}{cl:Cell}(h1:c.lay=l1++as::l2)(h2:c.st=s1++cl::s2)(h3:l1.length=s1.length)(hl:cl.live=true)
 (hc:qw prog w C c.B c.h as cl){a:Addr}{r:List Addr}(has:as=a::r)
 (y:SI prog w C H l cC) (z:Step l [] ⟨c.B,c.h,c.lay,s1++⟨false,.hid⟩::s2⟩ cC) (hq:cC.st[s1.length]? = some ⟨false,.hid⟩):
 ∃lay',SI prog w C H l ⟨cC.B,cC.h,lay',cC.st.set s1.length cl⟩/\Step l [] c ⟨cC.B,cC.h,lay',cC.st.set s1.length cl⟩/\lay'[s1.length]? = some as/\
  (∀b∈as,∀o,c.h.get? b=some o->cC.h.get? b=some o)/\∀(i:Nat) b t,cC.lay[i]? = some (b::t)->∃t',lay'[i]? = some (b::t'):=by
 obtain⟨l1',as',l2',s1',s2',g1,g2,g3,g4,g5,g6,g7⟩:=y.store.cells.split hq;have hset:cC.st.set s1.length cl=s1'++cl::s2':=by rw[g2,<-g4];simp
 have live0:jj c.lay c.st=jj l1 s1++(as++jj l2 s2):=by rw[h1,h2,qx _ h3,zu hl]
 have liveh:jj c.lay (s1++⟨false,.hid⟩::s2)=jj l1 s1++jj l2 s2:=by rw[h1,qx _ h3];rfl
 have live1:jj cC.lay cC.st=jj l1' s1'++jj l2' s2':=by rw[g1,g2,qx _ g3];rfl
 have live2:jj (l1'++as::l2') (s1'++cl::s2')=jj l1' s1'++(as++jj l2' s2'):=by rw[qx _ g3,zu hl]
 have nd:=x.store.nodup;rw[live0]at nd;obtain⟨n1,n23,d1⟩:=j8.mp nd;obtain⟨nA,n2,d2⟩:=j8.mp n23;have inA:∀b∈as,b∈c.live:=λ b hb=>by show b∈jj c.lay c.st;rw[live0];exact jq _ (j5 _ hb)
 have notH:∀b∈as,b∉jj c.lay (s1++⟨false,.hid⟩::s2):=λ b hb q=>by
  rw[liveh]at q;rcases j4.mp q with q|q
  ·exact d1 b q b (j5 _ hb) rfl
  ·exact d2 b hb b q rfl
 have notF:∀b∈as,b∉frs l:=λ b hb q=>x.frl b q (inA b hb);have kept:∀b∈as,∀o,c.h.get? b=some o->cC.h.get? b=some o:=λ b hb o e=>z.keep b o e (notH b hb) (λ h=>nomatch h) (notF b hb);have thA:∀b∈as,c.h.get? b≠none:=λ b hb=>x.store.cells.there b (inA b hb);have outA:∀b∈as,cC.B.get? b=none:=λ b hb=>by
  cases q:cC.B.get? b with
  |none=>rfl
  |some o=>
   rcases z.new b (x.store.out b (inA b hb)) (by rw[q];exact λ q=>nomatch q)with h|h
   ·exact absurd h (thA b hb)
   ·exact absurd h (notH b hb)
 have notL:∀b∈as,b∉cC.live:=λ b hb q=>by
  rcases z.live b q with h|h
  ·exact absurd h (thA b hb)
  ·exact absurd h (notH b hb)
 have y5:=y.store.nodup;have y6:=y.store.out;rw[live1]at y5 y6;simp only[Cfg.live,live1]at notL;obtain⟨m1,m2,m12⟩:=j8.mp y5;refine⟨l1'++as::l2',?_,?_,?_,kept,?_⟩
 ·rw[hset];refine⟨y.h0,y.stay,y.frames,⟨g5.join (.cons (hc.keeps (z.base) λ _=>kept) g7),?_,?_⟩,?_⟩
  ·show(jj (l1'++as::l2') (s1'++cl::s2')).Nodup;rw[live2];refine j8.mpr ⟨m1,j8.mpr ⟨nA,m2,?_⟩,?_⟩
   ·rintro b hb b' hb' rfl;exact notL b hb (jq _ hb')
   ·rintro b hb b' hb' rfl;rcases j4.mp hb' with q|q
    ·exact notL b q (j5 _ hb)
    ·exact m12 b hb b q rfl
  ·intro b hb;have hb:b∈jj (l1'++as::l2') (s1'++cl::s2'):=hb;rw[live2]at hb;rcases j4.mp hb with q|q
   ·exact y6 b (j5 _ q)
   ·rcases j4.mp q with q|q
    ·exact outA b q
    ·exact y6 b (jq _ q)
  ·intro L hL hb;have hb:L∈jj (l1'++as::l2') (s1'++cl::s2'):=hb;rw[live2]at hb;have yf:=y.frl L hL;simp only[Cfg.live,live1]at yf;rcases j4.mp hb with q|q
   ·exact yf (j5 _ q)
   ·rcases j4.mp q with q|q
    ·exact notF L q hL
    ·exact yf (jq _ q)
 ·rw[hset];have sub:∀b,b∉c.live->b∉jj c.lay (s1++⟨false,.hid⟩::s2):=λ b hb q=>hb (by
   show b∈jj c.lay c.st;rw[live0];rw[liveh]at q;rcases j4.mp q with q|q
   ·exact j5 _ q
   ·exact jq _ (jq _ q))
  have sub':∀b,b∈jj c.lay (s1++⟨false,.hid⟩::s2)->b∈c.live:=λ b q=>by
   by_cases hb:b∈c.live
   ·exact hb
   ·exact absurd q (sub b hb)
  refine⟨λ b o e hl=>z.keep b o e (sub b hl),λ b hb o e hl=>z.fr b hb o e (sub b hl),λ b hb hl=>z.frw b hb (sub b hl),λ b hb=>(nomatch hb),?_,z.base,λ b e1 e2=>(z.new b e1 e2).imp_right (sub' b),?_⟩
  ·intro b hb;have hb:b∈jj (l1'++as::l2') (s1'++cl::s2'):=hb;rw[live2]at hb;have zl:b∈cC.live->_:=z.live b;simp only[Cfg.live,live1]at zl;rcases j4.mp hb with q|q
   ·exact(zl (j5 _ q)).imp_right (sub' b)
   ·rcases j4.mp q with q|q
    ·exact .inr (inA b q)
    ·exact(zl (jq _ q)).imp_right (sub' b)
  ·intro i b t e;obtain⟨t',e'⟩:=z.heads i b t e;rw[g1]at e'
   by_cases hi:i=l1'.length
   ·rw[hi,g3.trans (g4.trans h3.symm),h1,En]at e;exact⟨t,by rw[hi];exact(En l1').trans e⟩
   ·exact⟨t',(aa8 l1' hi).trans e'⟩
 ·rw[<-g4,<-g3];simp
 ·intro i b t e;rw[g1]at e
  by_cases hi:i=l1'.length
  ·rw[hi,En]at e;obtain⟨t0,e0⟩:=z.heads l1.length a r (by rw[h1,has];exact En l1)
   rw[g1,<-g3.trans (g4.trans h3.symm),En]at e0;exact⟨r,by rw[hi,has];exact(En l1').trans (au (λ c=>some (c::r)) (List.cons.inj (ao (e0.symm.trans e))).1)⟩
  ·exact⟨t,(aa8 l1' hi).trans e⟩
end
end Mine.Internal
namespace Mine.Internal
variable{P:Px}
noncomputable def SB(P:Px)(ae:Expr)(e:Ex):Prop:=∀(ρ:Loc) (c:Cfg) (s:Shared) (Q:QV) (E:QV),s.heap=c.h->P.SI c->P.NI c ρ->
 P.Post [] c s (Wa ρ e (iu P.cf ρ e c.st) c.st) (λ c' v b=>um P.prog P.w P.C c'.B c'.lay b v) Q E->wpAny P.M P.A (eval ae P.env) Q E s
theorem aqu{ρ:Loc}{x:String}{b:qp}(h:lk x ρ=some b)(w:R V)(st:Store):Wa ρ (.nm x) w st=.ok b st:=by
 show(match lk x ρ with|some b=>R.ok b st|Option.none=>R.bad)=_
 rw[h]
theorem as4{ρ:Loc}{x:String}(h:lk x ρ=none)(w:R V)(st:Store):Wa ρ (.nm x) w st=.bad:=by
 show(match lk x ρ with|some b=>R.ok b st|Option.none=>R.bad)=_
 rw[h]
theorem aw5{ρ:Loc}{e:Ex}(h:Vj e=none)(w:R V)(st:Store):Wa ρ e w st=w.bind λ v st=>.ok (.val v) st:=by
 show(match Vj e with|some x=>(match lk x ρ with|some b=>R.ok b st|Option.none=>R.bad)|Option.none=>w.bind λ v st=>R.ok (qp.val v) st)=_
 rw[h]
theorem av6(cf:CF)(ρ:Loc)(x n:String)(st:Store):iu cf ρ (.attr (.nm x) n) st=(match lk x ρ with|some (.val (.obj l))=>m5 (lk n l) st | _=>.bad):=rfl
theorem aub(ok:P.Ok){x:String}{pos:Pos}(hd:uf x=true):SB P (.Name (Str.ofString x) pos) (.nm x):=by
 intro ρ c s Q E hs si ni p;cases hb:lk x ρ with
 |none=>rw[as4 hb]at p;exact p.elim
 |some b=>
  rw[aqu hb]at p;exact Eb ok.ev hs ni hb hd λ v hv=>ji s.toks hs p si hv
theorem aw1{ae:Expr}{e:Ex}(hn:Vj e=none)(h:SE P ae e):SB P ae e:=by
 intro ρ c s Q E hs si ni p;rw[aw5 hn]at p;exact h ρ c s _ E hs si ni (iz.seq si.frames p λ x v cC tk siB stB ra pB=>ji tk rfl pB siB ra)
theorem um.step{c c':Cfg}{l:List Env}(st:Step l [] c c'){b:qp}{v:Value}(h:um P.prog P.w P.C c.B c.lay b v):um P.prog P.w P.C c'.B c'.lay b v:=by
 cases b with
 |val d=>exact Rep.mono st.base h
 |cell i=>
  obtain⟨a,as,h1,h2⟩:=h;obtain⟨as',q⟩:=st.heads i a as h1;exact⟨a,as',q,h2⟩
theorem at5{la li:Expr}{a i:Ex}{pos:Pos}(ha:SB P la a)(hi:SE P li i):SE P (.Subscript la li pos) (.idx a i):=by
 intro ρ c s Q E hs si ni p;refine Subscript_ (ha ρ c s _ E hs si ni (iz.seq si.frames p λ b va cC tk siB stB ra pB=>?_));refine hi ρ cC _ _ E rfl siB (ni.step si.frames stB) (iz.seq siB.frames pB λ k vk cD tkC siC stD rk pC=>?_);obtain⟨z,hz,pD⟩:=pC.lift;exact am3 (s:={ s with heap:=cD.h,toks:=tkC }) siC rfl (um.step stD ra) rk hz λ u tk ru=>ji tk rfl pD siC ru
noncomputable def aat(P:Px) (B:Heap)(v:Value):Option V->Prop
 |none=>v=.none
 |some d=>P.RP B v d
noncomputable def SO(P:Px)(ae:Option Expr)(e:Ii):Prop:=∀(ρ:Loc) (c:Cfg) (s:Shared) (Q:QV) (E:QV),s.heap=c.h->P.SI c->P.NI c ρ->
 P.Post [] c s (evO P.cf ρ e c.st) (λ c' v o=>aat P c'.B v o) Q E->wpAny P.M P.A (evalPart ae P.env) Q E s
theorem akj:SO P none .none:=by
 intro ρ c s Q E hs si ni p;exact wpAny_pure (ji s.toks hs p si rfl)
theorem ami{la:Expr}{a:Ex}(ha:SE P la a):SO P (some la) (.some a):=by
 intro ρ c s Q E hs si ni p;exact ha ρ c s _ E hs si ni (iz.seq si.frames p λ x v cC tk siB stB ra pB=>ji tk rfl pB siB ra)
theorem Uv{B:Heap}{o:Option V}{i:Option Int}{v:Value}(e:Ui o=some i)(h:aat P B v o):IsPart v i:=by
 cases o with
 |none=>(first|exact bh e|obtain rfl:=ao e|cases e);(first|exact bh h|obtain rfl:=ao h|cases h);exact .none
 |some d=>
  induction d using V.casesOn with
  |int k=>
   obtain⟨t,rfl⟩:=qy h;obtain rfl:k=i:=by
    have e:(if k.natAbs<1000000000000 then some (some k)else Option.none)=some i:=e
    split at e
    ·exact ao e
    ·exact nomatch e
   exact .int _ _
  | _=>exact nomatch e
theorem atn{la:Expr}{llo lhi:Option Expr}{a:Ex}{lo hi:Ii}{pos sp:Pos}(ha:SE P la a)(hlo:SO P llo lo)(hhi:SO P lhi hi):SE P (.Subscript la (.Slice llo lhi none sp) pos) (.slc a lo hi):=by
 intro ρ c s Q E hs si ni p;refine Subscript_ (ha ρ c s _ E hs si ni (iz.seq si.frames p λ x va cC tk siB stB ra pB=>?_));refine wpAny_Slice ?_;refine hlo ρ cC _ _ E rfl siB (ni.step si.frames stB) (iz.seq siB.frames pB λ lv vl cD tkC siC stD rl pC=>?_);refine hhi ρ cD _ _ E rfl siC ((ni.step si.frames stB).step siB.frames stD) (iz.seq siC.frames pC λ hv vh cF tkD siD stG rh pD=>?_);refine wpAny_pure ?_;obtain⟨z,hz,pF⟩:=pD.lift;unfold wk at hz;obtain⟨i,hi,hz⟩:=bind_some hz;obtain⟨j,hj,hz⟩:=bind_some hz;have rl':aat P cF.B vl lv:=by
  induction lv with
  |none=>exact rl
  |some d=>exact Rep.mono stG.base rl
 exact atz (s:={ s with heap:=cF.h,toks:=tkD }) siD.stay (ra.mono (rz stD.base stG.base)) (Uv hi rl') (Uv hj rh) hz (Hw rfl pF siD)
theorem asq{la:Expr}{a:Ex}{k:Nat}{pos sp p1 p2:Pos}(ha:SE P la a):SE P (.Subscript la (.Slice none none (some (.UnaryOp .USub (.Constant (.int 1) k p1) p2)) sp) pos) (.rev a):=by
 intro ρ c s Q E hs si ni p;refine Subscript_ (ha ρ c s _ E hs si ni (iz.seq si.frames p λ x va cC tk siB stB ra pB=>?_));refine wpAny_Slice (wpAny_pure (wpAny_pure ?_));show wpAny _ _ (eval _ _) _ _ _;refine wpAny_UnaryOp (wpAny_Constant_int (PySem.P.neg_int ?_))
 induction x using V.casesOn with
 |list ds=>
  obtain⟨hz,pC⟩:=iz.ifs pB;exact aq3 (s:={ s with heap:=cC.h,toks:=tk+1+1 }) siB.stay ra (.int (-1) _) hz (Hw (E:=E) (s:={ s with heap:=cC.h,toks:=tk+1+1 }) rfl pC siB)
 | _=>exact pB.elim
theorem Kr{c:Cfg}(ok:P.Ok)(si:P.SI c):P.K.In c.h:=ok.wd.kin.keeps λ b o e=>si.stay _ _ (si.h0 _ _ e)
theorem alr(ok:P.Ok){x n:String}{np pos:Pos}(hd:uf x=true)(hn:n∈fieldNames):SE P (.Attribute (.Name (Str.ofString x) np) (Str.ofString n) pos) (.attr (.nm x) n):=by
 intro ρ c s Q E hs si ni p;rw[av6]at p;refine Attribute_any_ ?_;cases hb:lk x ρ with
 |none=>rw[hb]at p;exact p.elim
 |some b=>
  rw[hb]at p;refine Eb ok.ev hs ni hb hd λ v hv=>?_
  induction b using qp.casesOn with
  |cell i=>exact p.elim
  |val d=>
   induction d using V.casesOn with
   |obj ds=>
    obtain⟨z,hz,pB⟩:=p.lift;exact abm (hs▸si.stay) (hs▸Kr ok si) (ok.wd.attrs n hn) hv hz λ u tk ru=>ji tk hs pB si ru
   | _=>exact p.elim
theorem Nm{e:Expr}{env:Env}{pos:Pos}(h:notStar e=true):backTo pos (starEach [e] env)=[(false,eval e env)]:=by rw[Aa h];rfl
theorem Gx{e f:Expr}{env:Env}{pos:Pos}(h:notStar e=true)(h':notStar f=true):backTo pos (starEach [e,f] env)=[(false,eval e env),(false,eval f env)]:=by rw[Aa h,Aa h'];rfl
section
variable{M:Model}{A:Around}{env:Env}{Q:QV}{E:QV}{s:Shared}
theorem with1{la:Expr}{pos:Pos}{id:String}{first:List Value}(hn:notStar la=true)(h:wpAny M A (eval la env) (λ v sE=>wpAny M A (call (.builtin id) (first++[v])) Q E sE) E s):
 wpAny M A (callWith pos (.builtin id) first (backTo pos (starEach [la] env)) []) Q E s:=by
 rw[Nm hn];exact callWith_builtin rfl (evalArgs_plain (Calls.spliced_cons (wpAny_mono h (λ v sE h₁=>Calls.spliced_nil h₁) λ _ _ x=>x)))
theorem with2{la lb:Expr}{pos:Pos}{id:String}{first:List Value}(hn:notStar la=true)(hm:notStar lb=true)
 (h:wpAny M A (eval la env) (λ v sE=>wpAny M A (eval lb env) (λ u sG=>wpAny M A (call (.builtin id) (first++[v,u])) Q E sG) E sE) E s):
 wpAny M A (callWith pos (.builtin id) first (backTo pos (starEach [la,lb] env)) []) Q E s:=by
 rw[Gx hn hm];exact callWith_builtin rfl (evalArgs_plain (Calls.spliced_cons (wpAny_mono h (λ v sE h₁=>Calls.spliced_cons (wpAny_mono h₁ (λ u sG h₂=>Calls.spliced_nil h₂) λ _ _ x=>x)) λ _ _ x=>x)))
theorem awb{pos:Pos}{id:String}{first:List Value}(h:wpAny M A (call (.builtin id) first) Q E s):wpAny M A (callWith pos (.builtin id) first (backTo pos (starEach [] env)) []) Q E s:=
 callWith_builtin rfl (evalArgs_nil3 (by rw[jo];exact h))
theorem ac5{la:Expr}{pos:Pos}{T:String}(hn:notStar la=true)(h:wpAny M A (eval la env) (λ v sE=>wpAny M A (call (.type T) [v]) Q E sE) E s):
 wpAny M A (callWith pos (.type T) [] (backTo pos (starEach [la] env)) []) Q E s:=by
 rw[Nm hn];exact PyProof.Rows.callWith_type rfl (evalArgs_plain (Calls.spliced_cons (wpAny_mono h (λ v sE h₁=>Calls.spliced_nil h₁) λ _ _ x=>x)))
end
theorem asb(ok:P.Ok){la:Expr}{a:Ex}{np pos:Pos}(hx:P.env.kindOf (Str.ofString "len")=some .globalImplicit)(hn:notStar la=true)(ha:SB P la a):SE P (.Call (.Name (Str.ofString "len") np) [la] [] pos) (.len a):=by
 intro ρ c s Q E hs si ni p;refine wpAny_Call_NameR (q9 (v:=.builtin "len") ok hs si (by decide) hx (by kernel_rfl) ?_)
 refine with1 hn (ha ρ c s _ E hs si ni (iz.seq si.frames p λ b va cC tk siB stB ra pB=>?_));obtain⟨z,hz,pC⟩:=pB.lift;exact amt (s:={ s with heap:=cC.h,toks:=tk }) siB rfl ra hz λ u tk ru=>ji tk rfl pC siB ru
theorem aq8(ok:P.Ok){la:Expr}{a:Ex}{np lp pos:Pos}(hx:P.env.kindOf (Str.ofString "isinstance")=some .globalImplicit)(hy:P.env.kindOf (Str.ofString "list")=some .globalImplicit)(hn:notStar la=true)(ha:SE P la a)
 {ρ:Loc}{c:Cfg}{s:Shared}{α : Type}{f:Option Bool->Store->R α}{rel:Cfg->α->α->Prop}{Q : α->Shared->Prop}{K:QV}{E:QV}(hs:s.heap=c.h) (si:P.SI c) (ni:P.NI c ρ)
 (p:P.Post [] c s ((iu P.cf ρ a c.st).bind λ x st=>f (z6 x) st) rel Q E)
 (k:∀r cC tk,P.SI cC->P.Post [] cC { s with heap:=cC.h,toks:=tk } (f r cC.st) rel Q E->∃z,r=some z/\∀tk,K (.bool z) { s with heap:=cC.h,toks:=tk }):
 wpAny P.M P.A (eval (.Call (.Name (Str.ofString "isinstance") np) [la,.Name (Str.ofString "list") lp] [] pos) P.env) K E s:=by
 refine wpAny_Call_NameR (q9 (v:=.builtin "isinstance") ok hs si (by decide) hx (by kernel_rfl) ?_)
 refine with2 hn rfl (ha ρ c s _ E hs si ni (iz.seq si.frames p λ x va cC tk siB stB ra pB=>?_));refine q9 (v:=.type "list") (c:=cC) ok rfl siB (by decide) hy (by kernel_rfl) ?_
 obtain⟨z,hz,hk⟩:=k _ cC tk siB pB;exact ag4 (s:={ s with heap:=cC.h,toks:=tk }) siB.stay ra hz hk
theorem ap7(ok:P.Ok){la:Expr}{a:Ex}{np lp pos:Pos}(hx:P.env.kindOf (Str.ofString "isinstance")=some .globalImplicit)(hy:P.env.kindOf (Str.ofString "list")=some .globalImplicit)(hn:notStar la=true)(ha:SE P la a):
 SE P (.Call (.Name (Str.ofString "isinstance") np) [la,.Name (Str.ofString "list") lp] [] pos) (.isl a):=by
 intro ρ c s Q E hs si ni p;refine wpAny_Call_NameR (q9 (v:=.builtin "isinstance") ok hs si (by decide) hx (by kernel_rfl) ?_)
 refine with2 hn rfl (ha ρ c s _ E hs si ni (iz.seq si.frames p λ x va cC tk siB stB ra pB=>?_));refine q9 (v:=.type "list") (c:=cC) ok rfl siB (by decide) hy (by kernel_rfl) ?_
 obtain⟨z,hz,pC⟩:=pB.lift;cases hq:z6 x with
 |none=>rw[hq]at hz;(first|exact bh hz|obtain rfl:=ao hz|cases hz)
 |some r=>
  rw[hq]at hz;(first|exact bh hz|obtain rfl:=ao hz|cases hz);exact ag4 (s:={ s with heap:=cC.h,toks:=tk }) siB.stay ra hq λ tk=>ji tk rfl pC siB (.bool _ _)
theorem arj(ok:P.Ok){la:Expr}{a:Ex}{np lp pos:Pos}(hx:P.env.kindOf (Str.ofString "isinstance")=some .globalImplicit)(hy:P.env.kindOf (Str.ofString "list")=some .globalImplicit)(hn:notStar la=true)(ha:SE P la a):
 ST P (.Call (.Name (Str.ofString "isinstance") np) [la,.Name (Str.ofString "list") lp] [] pos) (.isl a):=by
 intro ρ c s Q E hs si ni p;refine wpAny_isTrue_value ?_;refine aq8 (f:=λ r st=>m5 r st) ok hx hy hn ha hs si ni p λ r cC tk siB pB=>?_;obtain⟨z,hz,pC⟩:=pB.lift;exact⟨z,hz,λ tk=>wpAny_truthy_bool (ji tk rfl pC siB rfl)⟩
theorem asi(ok:P.Ok){la:Expr}{a:Ex}{np lp pos:Pos}(hx:P.env.kindOf (Str.ofString "isinstance")=some .globalImplicit)(hy:P.env.kindOf (Str.ofString "bytes")=some .globalImplicit)(hn:notStar la=true)(ha:SE P la a):
 SE P (.Call (.Name (Str.ofString "isinstance") np) [la,.Name (Str.ofString "bytes") lp] [] pos) (.isb a):=by
 intro ρ c s Q E hs si ni p;refine wpAny_Call_NameR (q9 (v:=.builtin "isinstance") ok hs si (by decide) hx (by kernel_rfl) ?_)
 refine with2 hn rfl (ha ρ c s _ E hs si ni (iz.seq si.frames p λ x va cC tk siB stB ra pB=>?_));refine q9 (v:=.type "bytes") (c:=cC) ok rfl siB (by decide) hy (by kernel_rfl) ?_
 obtain⟨z,hz,pC⟩:=pB.lift;cases hq:Mx x with
 |none=>rw[hq]at hz;(first|exact bh hz|obtain rfl:=ao hz|cases hz)
 |some r=>
  rw[hq]at hz;(first|exact bh hz|obtain rfl:=ao hz|cases hz);exact aij (s:={ s with heap:=cC.h,toks:=tk }) ra hq λ tk=>ji tk rfl pC siB (.bool _ _)
theorem aqp(ok:P.Ok){la:Expr}{a:Ex}{np lp pos:Pos}(hx:P.env.kindOf (Str.ofString "isinstance")=some .globalImplicit)(hy:P.env.kindOf (Str.ofString "bytes")=some .globalImplicit)(hn:notStar la=true)(ha:SE P la a):
 ST P (.Call (.Name (Str.ofString "isinstance") np) [la,.Name (Str.ofString "bytes") lp] [] pos) (.isb a):=by
 intro ρ c s Q E hs si ni p;refine wpAny_isTrue_value ?_;refine wpAny_Call_NameR (q9 (v:=.builtin "isinstance") ok hs si (by decide) hx (by kernel_rfl) ?_)
 refine with2 hn rfl (ha ρ c s _ E hs si ni (iz.seq si.frames p λ x va cC tk siB stB ra pB=>?_));refine q9 (v:=.type "bytes") (c:=cC) ok rfl siB (by decide) hy (by kernel_rfl) ?_
 obtain⟨z,hz,pC⟩:=pB.lift;exact aij (s:={ s with heap:=cC.h,toks:=tk }) ra hz λ tk=>wpAny_truthy_bool (ji tk rfl pC siB rfl)
theorem aty(ok:P.Ok){la:Expr}{a:Ex}{np pos:Pos}(hx:P.env.kindOf (Str.ofString "bytes")=some .globalImplicit)(hn:notStar la=true)(ha:SE P la a):SE P (.Call (.Name (Str.ofString "bytes") np) [la] [] pos) (.mkb a):=by
 intro ρ c s Q E hs si ni p;obtain⟨n,room⟩:=ok.room;refine wpAny_Call_NameR (q9 (v:=.type "bytes") ok hs si (by decide) hx (by kernel_rfl) ?_)
 refine ac5 hn (ha ρ c s _ E hs si ni (iz.seq si.frames p λ x va cC tk siB stB ra pB=>?_));obtain⟨z,hz,pC⟩:=pB.lift;exact aqa (s:={ s with heap:=cC.h,toks:=tk }) siB.stay room.hh ra hz (Hw rfl pC siB)
theorem Qk(ok:P.Ok){c:Cfg}(si:P.SI c):1<c.h.objs.size:=by
 have:=(ok.wd.g.keeps λ b o e=>si.stay _ _ (si.h0 _ _ e)).lt;exact Nat.lt_trans (by decide) this
theorem arb(ok:P.Ok){la:Expr}{a:Ex}{np pos:Pos}(hx:P.env.kindOf (Str.ofString "dict")=some .globalImplicit)(hn:notStar la=true)(ha:SE P la a):SE P (.Call (.Name (Str.ofString "dict") np) [la] [] pos) (.mkd a):=by
 intro ρ c s Q E hs si ni p;refine wpAny_Call_NameR (q9 (v:=.type "dict") ok hs si (by decide) hx (by kernel_rfl) ?_)
 refine ac5 hn (ha ρ c s _ E hs si ni (iz.seq si.frames p λ x va cC tk siB stB ra pB=>?_))
 induction x using V.casesOn with
 |dict l=>
  obtain⟨hz,pC⟩:=iz.ifs pB;exact arn (s:={ s with heap:=cC.h,toks:=tk }) (Qk ok siB) siB.stay ra hz (Hw (s:={ s with heap:=cC.h,toks:=tk }) rfl pC siB)
 | _=>exact pB.elim
theorem aru(ok:P.Ok){la:Expr}{a:Ex}{np pos:Pos}(hx:P.env.kindOf (Str.ofString "all")=some .globalImplicit)(hn:notStar la=true)(ha:SE P la a):SE P (.Call (.Name (Str.ofString "all") np) [la] [] pos) (.all a):=by
 intro ρ c s Q E hs si ni p;obtain⟨n,room⟩:=ok.room;refine wpAny_Call_NameR (q9 (v:=.builtin "all") ok hs si (by decide) hx (by kernel_rfl) ?_)
 refine with1 hn (ha ρ c s _ E hs si ni (iz.seq si.frames p λ x va cC tk siB stB ra pB=>?_))
 induction x using V.casesOn with
 |list l=>
  dsimp only at pB;cases hb:boolsOf l with
  |none=>rw[hb]at pB;exact pB.elim
  |some bs=>
   rw[hb]at pB;refine apj (s:={ s with heap:=cC.h,toks:=tk }) siB.stay room.hh ra hb λ h' tk' k=>?_;exact iz.done (iz.ifs pB).2 siB (Ext.grow siB.stay k) (.bool _ _)
 | _=>exact pB.elim
end Mine.Internal
namespace Mine.Internal
variable{P:Px}
noncomputable def baseOk:Expr->Bool
 |.Call (.Name _ _) [] [] _=>false
 | _=>true
theorem Qn{o:Expr}{n:Str}{env:Env}{whole:Sem Value}(h:baseOk o=true):attributeBase o n env whole=whole:=by
 induction o using PySem.Expr.casesOn with
 |Call f a k=>induction f using PySem.Expr.casesOn with
  |Name=>induction a using List.casesOn with
   |nil=>induction k using List.casesOn with
    |nil=>exact nomatch h
    | _=>rfl
   | _=>rfl
  | _=>rfl
 | _=>rfl
section
variable{prog:Program}{w:World}{A:Around}{env:Env}{Q:QV}{E:QV}{s:Shared}
theorem aua{o:Expr}{name:Str}{apos pos:Pos}{T id:String}(hb:baseOk o=true)(hline:(apos.endLine==pos.line)=true)(pa:PlainAttrs T)(slot:Slot T name id)(hty:typeOf (.builtin id)=pure (.type "method_descriptor"))
 (h:wpAny (model prog w) A (eval o env) (λ ov sE=>sE.TypeIs ov T/\(∀a,ov=.ref a->∃ob,sE.heap.get? a=some ob/\ob.dict=none)/\wpAny (model prog w) A (call (.builtin id) [ov]) Q E sE) E s):
 wpAny (model prog w) A (eval (.Call (.Attribute o name apos) [] [] pos) env) Q E s:=
 wpAny_Call_method (Qn hb) rfl hline pa slot hty (wpAny_mono h (λ _ _ h₁=>⟨h₁.1,h₁.2.1,awb h₁.2.2⟩) λ _ _ x=>x)
theorem ajc{o la:Expr}{name:Str}{apos pos:Pos}{T id:String}(hb:baseOk o=true)(hn:notStar la=true)(hline:(apos.endLine==pos.line)=true)(pa:PlainAttrs T)(slot:Slot T name id)(hty:typeOf (.builtin id)=pure (.type "method_descriptor"))
 (h:wpAny (model prog w) A (eval o env) (λ ov sE=>sE.TypeIs ov T/\(∀a,ov=.ref a->∃ob,sE.heap.get? a=some ob/\ob.dict=none)/\
  wpAny (model prog w) A (eval la env) (λ v sG=>wpAny (model prog w) A (call (.builtin id) [ov,v]) Q E sG) E sE) E s):
 wpAny (model prog w) A (eval (.Call (.Attribute o name apos) [la] [] pos) env) Q E s:=
 wpAny_Call_method (Qn hb) (by rw[Nm hn];rfl) hline pa slot hty (wpAny_mono h (λ _ _ h₁=>⟨h₁.1,h₁.2.1,with1 hn h₁.2.2⟩) λ _ _ x=>x)
theorem ayk{o la lb:Expr}{name:Str}{apos pos:Pos}{T id:String}(hb:baseOk o=true)(hn:notStar la=true)(hm:notStar lb=true)(hline:(apos.endLine==pos.line)=true)(pa:PlainAttrs T)(slot:Slot T name id)(hty:typeOf (.builtin id)=pure (.type "method_descriptor"))
 (h:wpAny (model prog w) A (eval o env) (λ ov sE=>sE.TypeIs ov T/\(∀a,ov=.ref a->∃ob,sE.heap.get? a=some ob/\ob.dict=none)/\
  wpAny (model prog w) A (eval la env) (λ v sG=>wpAny (model prog w) A (eval lb env) (λ u sH=>wpAny (model prog w) A (call (.builtin id) [ov,v,u]) Q E sH) E sG) E sE) E s):
 wpAny (model prog w) A (eval (.Call (.Attribute o name apos) [la,lb] [] pos) env) Q E s:=
 wpAny_Call_method (Qn hb) (by rw[Gx hn hm];rfl) hline pa slot hty (wpAny_mono h (λ _ _ h₁=>⟨h₁.1,h₁.2.1,with2 hn hm h₁.2.2⟩) λ _ _ x=>x)
end
set_option tactic.hygienic true in
theorem ael{la:Expr}{a:Ex}{apos pos:Pos}(hb:baseOk la=true)(hline:(apos.endLine==pos.line)=true)(ha:SE P la a):SE P (.Call (.Attribute la (Str.ofString "bit_length") apos) [] [] pos) (.bitlen a):=by
 intro ρ c s Q E hs si ni p;refine aua (id:="int.bit_length") hb hline PySem.F.plainAttrs_int PySem.F.slot_int_bit_length (by kernel_rfl) (ha ρ c s _ E hs si ni (iz.seq si.frames p λ x va cC tk siB stB ra pB=>?_))
 split at pB
 ·split at pB
  ·rename_i i hz;obtain⟨t,rfl⟩:=qy ra;exact⟨PySem.typeIs_int _ _ _,(λ a h=>nomatch h),aer (s:={ s with heap:=cC.h,toks:=tk }) ra hz λ v tk r=>ji tk rfl pB siB r⟩
  ·exact pB.elim
 ·exact pB.elim
set_option tactic.hygienic true in
theorem abd{la lb:Expr}{a b:Ex}{k:Nat}{apos pos sp:Pos}(hbs:baseOk la=true)(hline:(apos.endLine==pos.line)=true)(hm:notStar lb=true)(ha:SE P la a)(hb:SE P lb b):
 SE P (.Call (.Attribute la (Str.ofString "to_bytes") apos) [lb,.Constant (.str (Str.ofString "big")) k sp] [] pos) (.tobytes a b):=by
 intro ρ c s Q E hs si ni p;refine ayk (id:="int.to_bytes") hbs hm rfl hline PySem.F.plainAttrs_int PySem.F.slot_int_to_bytes (by kernel_rfl) (ha ρ c s _ E hs si ni (iz.seq si.frames p λ x va cC tk siB stB ra pB=>?_))
 split at pB
 ·rename_i i;obtain⟨t,rfl⟩:=qy ra;refine⟨PySem.typeIs_int _ _ _,(λ a h=>nomatch h),?_⟩;refine hb ρ cC _ _ E rfl siB (ni.step si.frames stB) (iz.seq siB.frames pB λ y vb cD tkC siC stD rb pC=>?_);refine wpAny_Constant_str ?_
  split at pC
  ·split at pC
   ·rename_i kk hz;exact aay (B:=cD.B) (s:={ s with heap:=cD.h,toks:=tkC+1 }) (ra.mono stD.base) rb hz.1 hz.2.1 hz.2.2.1 hz.2.2.2 λ v tk r=>ji (s:={ s with heap:=cD.h,toks:=tkC }) tk rfl pC siC r
   ·exact pC.elim
  ·exact pC.elim
 ·exact pB.elim
set_option tactic.hygienic true in
theorem alu{la lb:Expr}{a b:Ex}{apos pos:Pos}(hbs:baseOk la=true)(hline:(apos.endLine==pos.line)=true)(hm:notStar lb=true)(ha:SE P la a)(hb:SE P lb b):
 SE P (.Call (.Attribute la (Str.ofString "join") apos) [lb] [] pos) (.join a b):=by
 intro ρ c s Q E hs si ni p;refine ajc (id:="bytes.join") hbs hm hline PySem.W.FB.plainAttrs_bytes Uw (by kernel_rfl) (ha ρ c s _ E hs si ni (iz.seq si.frames p λ x va cC tk siB stB ra pB=>?_))
 split at pB
 ·rename_i l;obtain⟨t,rfl⟩:=o9 ra;refine⟨typeIs_bytes _ _ _,(λ a h=>nomatch h),?_⟩;refine hb ρ cC _ _ E rfl siB (ni.step si.frames stB) (iz.seq siB.frames pB λ y vb cD tkC siC stD rb pC=>?_);obtain⟨z,hz,pD⟩:=pC.lift;exact alf (s:={ s with heap:=cD.h,toks:=tkC }) siC.stay (ra.mono stD.base) rb hz λ v tk r=>ji tk rfl pD siC r
 ·exact pB.elim
theorem Us{prog:Program}{w:World}{A:Around}{env:Env}{E:QV}{s:Shared}{o:Expr}{name:Str}{apos pos:Pos}{args:List Expr}{Q:QV}(hb:baseOk o=true)
 (hfew:((backTo pos (starEach args env)).all (λ x=>!x.1)&&(backToKw pos (keywordEach [] env)).all (λ x=>x.1.isSome)
  &&decide (args.length+([]:List Keyword).length+(if([]:List Keyword).isEmpty then 0 else 1)<30))=true)
 (hline:(apos.endLine==pos.line)=true)
 (h:wpAny (model prog w) A (eval o env) (λ ov sE=>∀pl,wpAny (model prog w) A (getMethod ov name pl) (λ fm sG=>wpAny (model prog w) A (callWith pos fm.1 fm.2 (backTo pos (starEach args env)) []) Q E sG) E sE) E s):
 wpAny (model prog w) A (eval (.Call (.Attribute o name apos) args [] pos) env) Q E s:=by
 rw[arm_eval_Call,Qn hb];refine wpAny_bind (wpAny_mono h (λ ov sE h₁=>?_) λ _ _ e=>e);refine wpAny_bind (wpAny_standAt ?_);have hform:methodCallForm (args.length+([]:List Keyword).length) (backTo pos (starEach args env)) (backToKw pos (keywordEach [] env))=true:=hfew;have hpos:methodCallPos true o env apos pos=pure pos:=by unfold methodCallPos;simp[hline]
 unfold methodCall;rw[hform];refine wpAny_bind (wpAny_holding (wpAny_mono (h₁ _) (λ fm sG h₂=>?_) λ _ _ e=>e));exact wpAny_bind (wpAny_of_eq hpos h₂)
theorem Vx(ok:P.Ok){la:Expr}{a:Ex}{k:Nat}{np apos pos sp:Pos}(hline:(apos.endLine==pos.line)=true)(hx:P.env.kindOf (Str.ofString "int")=some .globalImplicit)(hn:notStar la=true)(ha:SE P la a):
 SE P (.Call (.Attribute (.Name (Str.ofString "int") np) (Str.ofString "from_bytes") apos) [la,.Constant (.str (Str.ofString "big")) k sp] [] pos) (.frombytes a):=by
 intro ρ c s Q E hs si ni p;refine Us rfl (by rw[Gx hn rfl];rfl) hline (q9 (v:=.type "int") ok hs si (by decide) hx (by kernel_rfl) λ pl=>?_)
 refine Xp λ tk0=>?_;rw[Gx hn rfl];obtain⟨cB,ch,clay,cst⟩:=c;simp only at hs;subst hs;have ex:=Jg si.stay KFB.bound rfl;obtain⟨si0,st0'⟩:=si.ext ex.1;have p0:=iz.after (tk:=tk0) si.frames st0' p;refine KFB.callWith_fields rfl (evalArgs_plain (Calls.spliced_cons ?_));refine ha ρ ⟨grow cB s.heap (s.heap.push KFB.bound),s.heap.push KFB.bound,clay,cst⟩ _ _ E rfl si0 (ni.step si.frames st0') (iz.seq si0.frames p0 λ x va cC tk siB stB ra pB=>?_);refine Calls.spliced_cons (wpAny_Constant_str (Calls.spliced_nil ?_));have hb1:cC.h.get? s.heap.objs.size=some KFB.bound:=siB.stay _ _ (stB.base _ _ ex.2);refine⟨hb1,?_⟩
 split at pB
 ·split at pB
  ·rename_i hz;obtain⟨t,rfl⟩:=o9 ra;exact ad8 (s:={ s with heap:=cC.h,toks:=tk+1 }) hb1 hz λ v tk' r=>ji (E:=E) (s:={ s with heap:=cC.h,toks:=tk }) tk' rfl pB siB r
  ·exact pB.elim
 ·exact pB.elim
end Mine.Internal
namespace Mine.Internal
section
variable{M:Model}{A:Around}{E:QV}{s:Shared}
noncomputable def Traced(l:List Env) (Bx:Heap)(e:Addr)(cls:Value)(h:Heap):Prop:=
 Bx.StaysIn h/\Bx.get? e=none/\h.FunFrames Bx l/\∃a0 fl,h.TracedAtW Bx e cls a0 fl
theorem Traced.fly{l:List Env}{Bx:Heap}{e:Addr}{cls:Value}{h:Heap}(x:Traced l Bx e cls h):Fly l Bx e cls h:=⟨x.1,x.2.1,x.2.2.1,.inr x.2.2.2⟩
theorem Qg{env env₀:Env}{outer:List Env}{L e:Addr}{cls:Value}{Bx:Heap}{Q:Unit->Shared->Prop}(hfr:A.frames=some (env₀::outer))(hf:env₀.frame=some L)(hen:env.frame=env₀.frame)
 (x:Fly (env₀::outer) Bx e cls s.heap) (hQ:∀h',Traced (env₀::outer) Bx e cls h'->s.heap.UpToSlots h'->Q () { s with heap:=h' }):wpAny M A (noteFrame (.ref e) env) Q E s:=by
 have he:noteFrame (.ref e) env=noteFrame (.ref e) env₀:=by unfold noteFrame PySem.frameOf;rw[hen]
 rw[he];obtain⟨f1,f2,f3,f4⟩:=x;unfold noteFrame;simp only[hf];rcases f4 with⟨oe,vs,a0,g1,g2,g3,g4,g5⟩|⟨a0,fl,oe,vs,T,oT,ts,g1,⟨g2,g3⟩,g4,g5,g6,g7,g8,g9,g10⟩
 ·subst g2;refine wpAny_bind (wpAny_field g1 g3 g4 ?_);rw[bx (by decide)]
  refine wpAny_entryW hfr f3 hf g1 f1 f2 g3 (wu.mp g4).1 g5 λ h' hN=>?_;obtain⟨k1,k2,k3,k4⟩:=hN;exact hQ h' ⟨k1,f2,k2,_,_,k3⟩ k4
 ·subst g2;refine wpAny_bind (wpAny_field g1 g4 g5 ?_);rw[bf (show(Value.ref T != Value.none)=true from by simp)]
  refine wpAny_bind (wpAny_field g8 g9 g10 ?_)
  by_cases hq:(fl==rawInt L)=true
  ·rw[bf hq];exact wpAny_pure (hQ s.heap ⟨f1,f2,f3,a0,fl,oe,vs,T,oT,ts,g1,⟨rfl,g3⟩,g4,g5,g6,g7,g8,g9,g10⟩ (Heap.UpToSlots.refl _))
  ·rw[bx hq];refine wpAny_bind (wpAny_setField g8 g9 (wu.mp g10).1 ?_);have other:∀b,b≠T->(s.heap.update T (Obj.mapFields (·.setIfInBounds 3 Value.none))).get? b=s.heap.get? b:=λ b hb=>Heap.get?_update_other _ _ (Ne.symm hb);have noRecord:∀b o,s.heap.get? b=some o->(∀vs,o.data≠.fields vs)->b≠T:=λ b o hb hnf q=>by
    rw[q,g8]at hb;injection hb with hb;subst hb;exact hnf ts g9
   refine wpAny_entryW hfr (f3.of_keeps λ b o hb hnf=>⟨o,(other b (noRecord b o hb hnf)).trans hb,rfl⟩) hf ((other e (Ne.symm g7)).trans g1)
    (λ b o hbo=>(other b λ q=>by rw[q,g6]at hbo;cases hbo).trans (f1 b o hbo)) f2 g4 (wu.mp g5).1 g3 λ h' hN=>?_
   obtain⟨k1,k2,k3,k4⟩:=hN;exact hQ h' ⟨k1,f2,k2,_,_,k3⟩ λ b o hb hnf=>k4 b o ((other b (noRecord b o hb hnf)).trans hb) hnf
theorem Gv{l:List Env}{e:Addr}{cls:Value}{Bx:Heap}{fr:Option Addr}{Q:Unit->Shared->Prop}(x:Traced l Bx e cls s.heap)
 (hQ:∀h',Traced l Bx e cls h'->s.heap.UpToSlots h'->Q () { s with heap:=h' }):wpAny M A (setFlight (.ref e) fr) Q E s:=by
 obtain⟨f1,f2,f3,a0,fl,oe,vs,T,oT,ts,g1,⟨g2,g3⟩,g4,g5,g6,g7,g8,g9,g10⟩:=x;have hsz3 : 3<ts.size:=(wu.mp g10).1;have other:∀b,b≠T->(s.heap.update T (Obj.mapFields (·.setIfInBounds 3 (fr.elim Value.none λ f=>rawInt f)))).get? b=s.heap.get? b:=
  λ b hb=>Heap.get?_update_other _ _ (Ne.symm hb)
 have noRecord:∀b o,s.heap.get? b=some o->(∀vs,o.data≠.fields vs)->b≠T:=λ b o hb hnf q=>by
  rw[q,g8]at hb;injection hb with hb;subst hb;exact hnf ts g9
 unfold setFlight;refine wpAny_bind (wpAny_field g1 g4 g5 ?_);rw[bf (show(Value.ref T != Value.none)=true from by simp)]
 refine wpAny_setField g8 g9 hsz3 (hQ _ ⟨λ b o hbo=>(other b λ q=>by rw[q,g6]at hbo;cases hbo).trans (f1 b o hbo),f2,
  f3.of_keeps λ b o hb hnf=>⟨o,(other b (noRecord b o hb hnf)).trans hb,rfl⟩,a0,fr.elim Value.none λ f=>rawInt f,?_⟩ λ b o hb hnf=>⟨o.slots,(other b (noRecord b o hb hnf)).trans hb⟩)
 exact⟨oe,vs,T,_,_,(other e (Ne.symm g7)).trans g1,⟨g2,g3⟩,g4,g5,g6,g7,Heap.get?_update_self _ g8 (Obj.isFreed_of_fields (Obj.data_mapFields g9 _)),Obj.data_mapFields g9 _,by simp[hsz3]⟩
theorem ai9{env:Env}{outer:List Env}{L e:Addr}{cls:Value}{Bx:Heap}{Q:Unit->Shared->Prop}(hfr:A.frames=some (env::outer))(hf:env.frame=some L)
 (x:Fly (env::outer) Bx e cls s.heap) (hQ:∀h',Fly outer Bx e cls h'->s.heap.UpToSlots h'->Q () { s with heap:=h' }):wpAny M A (leaving env (.ref e)) Q E s:=by
 unfold leaving;refine wpAny_bind (Qg hfr hf rfl x λ h₁ tB uD=>?_);refine Gv (s:={ s with heap:=h₁ }) tB λ h₂ tC uE=>?_;obtain⟨k1,k2,⟨_,_,k3⟩,k4⟩:=tC;exact hQ h₂ ⟨k1,k2,k3,.inr k4⟩ (uD.trans uE)
theorem am1{α : Type}{env:Env}{l:List Env}{e:Addr}{cls:Value}{Bx:Heap}{what:String}{Q : α->Shared->Prop}(x:Traced l Bx e cls s.heap)
 (hQ:∀h',Traced l Bx e cls h'->s.heap.UpToSlots h'->E (.ref e) { s with heap:=h' }):wpAny M A (PySem.passOn what (.ref e) env:Sem α) Q E s:=by
 unfold PySem.passOn;obtain⟨f1,f2,f3,a0,fl,oe,vs,T,oT,ts,g1,⟨g2,g3⟩,g4,g5,g6,g7,g8,g9,g10⟩:=id x;refine wpAny_bind (wpAny_field g1 g4 g5 ?_);rw[bx (show ¬(Value.ref T==Value.none)=true from by simp)]
 exact wpAny_bind (Gv x λ h' t u=>wpAny_throw (hQ h' t u))
theorem ak7{env:Env}{l:List Env}{e:Addr}{cls:Value}{Bx:Heap}(x:Traced l Bx e cls s.heap)
 (hQ:∀h',Traced l Bx e cls h'->s.heap.UpToSlots h'->E (.ref e) { s with heap:=h' }):cameBackBy M A env E (.ref e) s:=by
 unfold cameBackBy;obtain⟨f1,f2,f3,a0,fl,oe,vs,T,oT,ts,g1,⟨g2,g3⟩,g4,g5,g6,g7,g8,g9,g10⟩:=id x;refine wpAny_bind (wpAny_field g1 g4 g5 ?_);rw[bx (show ¬(Value.ref T==Value.none)=true from by simp)]
 exact Gv x λ h' t u=>hQ h' t u
end
section
variable{prog:Program}{w:World}{C:Addr}{l:List Env}
theorem Ij.move{W:List Addr}{c:Cfg}{st' h' h'' B' Bx lay'} (y:Ij prog w C l W c st' h' B' Bx lay')(u:h'.UpToSlots h''):Ij prog w C l W c st' h'' B' Bx lay' where
 base:=y.base
 inx:=y.inx
 store:=y.store
 frl:=y.frl
 keep:=y.keep
 fr b hb o e hl hw hn:=by
  obtain⟨sl,q⟩:=y.fr b hb o e hl hw hn;obtain⟨sl',q'⟩:=u b _ q hn;exact⟨sl',q'⟩
 frw b hb hl o e hn:=by
  obtain⟨o',q,hn'⟩:=y.frw b hb hl o e hn;obtain⟨sl',q'⟩:=u b _ q hn';exact⟨_,q',hn'⟩
 live:=y.live
 new:=y.new
 heads:=y.heads
noncomputable def Et(prog:Program)(w:World) (C:Addr)(cR cT:Addr)(l:List Env) (W:List Addr)(c:Cfg)(x:Exc)(st':Store)(s:Shared) (E:QV):Prop:=
 ∀e h' B' Bx lay' tk,Fly l Bx e (clsOf cR cT x) h'->Ij prog w C l W c st' h' B' Bx lay'->E (.ref e) { s with heap:=h',toks:=tk }
theorem Et.noted{M:Model}{A:Around}{cR cT:Addr}{env env₀:Env}{outer:List Env}{L:Addr}{W:List Addr}{c:Cfg}{x:Exc}{st':Store}{s:Shared}{E:QV}(hfr:A.frames=some (env₀::outer))(hf:env₀.frame=some L)(hen:env.frame=env₀.frame)
 (h:∀e h' B' Bx lay' tk,Traced (env₀::outer) Bx e (clsOf cR cT x) h'->Ij prog w C (env₀::outer) W c st' h' B' Bx lay'->E (.ref e) { s with heap:=h',toks:=tk }):
 Et prog w C cR cT (env₀::outer) W c x st' s (notedBy M A env E):=by
 intro e h' B' Bx lay' tk fl ex;exact Qg (s:={ s with heap:=h',toks:=tk }) hfr hf hen fl λ h₁ t u=>h e h₁ B' Bx lay' tk t (ex.move u)
theorem Et.back{M:Model}{A A':Around}{cR cT:Addr}{env env₀:Env}{outer:List Env}{L:Addr}{W:List Addr}{c:Cfg}{x:Exc}{st':Store}{s:Shared}{E:QV}(hfr:A.frames=some (env₀::outer))(hf:env₀.frame=some L)(hen:env.frame=env₀.frame)
 (h:Et prog w C cR cT (env₀::outer) W c x st' s E):Et prog w C cR cT (env₀::outer) W c x st' s (notedBy M A env (cameBackBy M A' env E)):=
 Et.noted hfr hf hen λ e h' B' Bx lay' tk t ex=>ak7 (s:={ s with heap:=h',toks:=tk }) t λ h₁ tB u=>h e h₁ B' Bx lay' tk tB.fly (ex.move u)
end
end Mine.Internal
namespace Mine.Internal
section
variable{prog:Program}{w:World}{C:Addr}{H:Heap}{l:List Env}
structure ajs(prog:Program)(w:World) (C:Addr) (H:Heap)(l:List Env)(c cC:Cfg)(h':Heap)(p:Addr->Bool):Prop where
 si:SI prog w C H l ⟨mask h' λ a=>(cC.B.get? a).isSome||p a,h',cC.lay,cC.st⟩
 st:Step l [] c ⟨mask h' λ a=>(cC.B.get? a).isSome||p a,h',cC.lay,cC.st⟩
 base:cC.B.StaysIn (mask h' λ a=>(cC.B.get? a).isSome||p a)
 new:∀a,p a=true->∀o,h'.get? a=some o->(mask h' λ a=>(cC.B.get? a).isSome||p a).get? a=some o
theorem SI.adopt{c cC:Cfg}(si:SI prog w C H l c)(x:SI prog w C H l cC)(st:Step l [] c cC){h':Heap}{Z:List Addr}
 (hZ:∀a∈Z,(c.h.get? a=none\/a∈c.live)/\cC.B.get? a=none/\a∉cC.live/\a∉frs l) (hs:∀b o,b∉Z->cC.h.get? b=some o->h'.get? b=some o) (p:Addr->Bool) (hp:∀a,p a=true->a∈Z):
 ajs prog w C H l c cC h' p:=by
 have nZB:∀b o,cC.B.get? b=some o->b∉Z:=λ b o e q=>by rw[(hZ b q).2.1]at e;(first|exact bh e|obtain rfl:=ao e|cases e)
 have st1:cC.B.StaysIn (mask h' λ a=>(cC.B.get? a).isSome||p a):=λ b o e=>wj.mpr ⟨by simp[e],hs b o (nZB b o e) (x.stay _ _ e)⟩
 have outs:∀a,a∉Z->cC.B.get? a=none->(mask h' λ a=>(cC.B.get? a).isSome||p a).get? a=none:=λ a h1 h2=>by
  rw[Ca,h2];simp only[Option.isSome_none,Bool.false_or]
  split
  ·rename_i q;exact absurd (hp a q) h1
  ·rfl
 have nZL:∀a∈cC.live,a∉Z:=λ a h q=>(hZ a q).2.2.1 h;have nZF:∀a∈frs l,a∉Z:=λ a h q=>(hZ a q).2.2.2 h;refine⟨⟨rz x.h0 st1,Ku _ _,?_,x.store.keeps st1 (λ a ha o e=>hs a o (nZL a ha) e) λ a ha=>outs a (nZL a ha) (x.store.out a ha),x.frl⟩,?_,st1,λ a ha o e=>wj.mpr ⟨by simp[ha],e⟩⟩
 ·have fr:=x.frames;show h'.FunFrames _ l
  generalize hB:(mask h' λ a=>(cC.B.get? a).isSome||p a)=B' at outs
  clear hB st st1 hZ nZL
  clear x si
  induction l with
  |nil=>trivial
  |cons env r ih=>
   obtain⟨h1,⟨L,o,h2,h3,h4,h5⟩,h6⟩:=fr;have hm:L∈frs (env::r):=by simp[frs,h2]
   have hr:∀L∈frs r,L∈frs (env::r):=λ L' h=>by
    unfold frs at h⊢;rw[oh]
    split
    ·exact h
    ·exact bk _ h
   exact⟨h1,⟨L,o,h2,outs L (nZF L hm) h3,hs _ _ (nZF L hm) h4,h5⟩,ih (λ a h=>nZF a (hr a h)) h6⟩
 ·refine⟨?_,?_,?_,λ b h=>(nomatch h),st.live,rz st.base st1,?_,st.heads⟩
  ·intro b o e hl hw hr;refine hs b o (λ q=>?_) (st.keep b o e hl hw hr);rcases(hZ b q).1 with z|z
   ·rw[e]at z;(first|exact bh z|obtain rfl:=ao z|cases z)
   ·exact hl z
  ·intro b hb o e hl hw hn;obtain⟨sl,q⟩:=st.fr b hb o e hl hw hn;exact⟨sl,hs b _ (nZF b hb) q⟩
  ·intro b hb hl o e hn;obtain⟨o',q,hn'⟩:=st.frw b hb hl o e hn;exact⟨o',hs b _ (nZF b hb) q,hn'⟩
  ·intro a h1 h2
   by_cases hq:a∈Z
   ·exact(hZ a hq).1
   ·cases q:cC.B.get? a with
    |some o=>exact st.new a h1 (by rw[q];exact λ q=>nomatch q)
    |none=>exact absurd (outs a hq q) h2
end
variable{P:Px}
structure Hid(P:Px)(c:Cfg)(a:Addr):Prop where
 out:c.B.get? a=none
 nl:a∉c.live
 nf:a∉frs P.l
theorem Hid.step{c c':Cfg}{a:Addr}{o:Obj}(x:Hid P c a)(e:c.h.get? a=some o)(st:Step P.l [] c c'):Hid P c' a/\c'.h.get? a=some o:=by
 refine⟨⟨?_,st.nlive e x.nl,x.nf⟩,st.keep a o e x.nl (λ h=>nomatch h) x.nf⟩;cases q:c'.B.get? a with
 |none=>rfl
 |some o'=>
  rcases st.new a x.out (by rw[q];exact λ q=>nomatch q)with h|h
  ·rw[e]at h;(first|exact bh h|obtain rfl:=ao h|cases h)
  ·exact absurd h x.nl
theorem xr{c:Cfg}(si:P.SI c){a:Addr}(e:c.h.get? a=none):Hid P c a:=by
 refine⟨?_,λ q=>si.store.cells.there a q e,λ q=>?_⟩
 ·cases q:c.B.get? a with
  |none=>rfl
  |some o=>have:=si.stay _ _ q;rw[e]at this;(first|exact bh this|obtain rfl:=ao this|cases this)
 ·obtain⟨_,o,ho,_⟩:=si.frames.mem q;rw[e]at ho;(first|exact bh ho|obtain rfl:=ao ho|cases ho)
theorem SI.push{c:Cfg}(si:P.SI c){h':Heap}(k:∀b o,c.h.get? b=some o->h'.get? b=some o):P.SI ⟨c.B,h',c.lay,c.st⟩/\Step P.l [] c ⟨c.B,h',c.lay,c.st⟩:=
 SI.ext si ⟨k,lu _,λ b o e=>k b o (si.stay _ _ e),λ a h1 h2=>absurd h1 h2⟩
structure ae3(P:Px)(c:Cfg) (I:Addr)(l:List V)(o:Obj):Prop where
 hid:Hid P c I
 at':c.h.get? I=some o
 itr:Mr P.prog P.w P.C P.A c.B I l o
structure apg(P:Px)(c:Cfg) (I:Addr)(o:Obj):Prop where
 self:∀(s':Shared) (Q':QV) (E':QV),s'.heap.get? I=some o->c.B.StaysIn s'.heap->Q' (.ref I) s'->wpAny P.M P.A (pyIter (.ref I)) Q' E' s'
 own:I≠P.env.locals/\∀n a,(n,a)∈P.env.cells->a≠I
theorem Mr.mono{prog:Program}{w:World}{C:Addr}{A:Around}{B B':Heap}{I:Addr}(hB:B.StaysIn B'):∀{l:List V}{o:Obj},Mr prog w C A B I l o->Mr prog w C A B' I l o
 |[],_,x=>λ s Q E e b k=>x s Q E e (rz hB b) k
 | _::_,_,x=>λ s Q E e b k=>x s Q E e (rz hB b) λ v h' tk o' k1 k2 k0 k3 k4=>k v h' tk o' k1 k2 k0 (Mr.mono hB k3) (k4.mono hB)
noncomputable def SIt(P:Px)(ae:Expr)(e:Ex):Prop:=∀(ρ:Loc) (c:Cfg) (s:Shared) (K:QV) (E:QV),s.heap=c.h->P.SI c->P.NI c ρ->
 P.Post [] c s ((iu P.cf ρ e c.st).bind λ v st=>m5 (itemsOf v) st) (λ c' it l=>∃I o,it=.ref I/\(c.h.get? I=none\/I∈c.live)/\ae3 P c' I l o/\apg P c' I o) K E->
 wpAny P.M P.A (eval ae P.env) (λ xv sE=>wpAny P.M P.A (pyIter xv) K E sE) E s
theorem NI.apart{c:Cfg}{ρ:Loc}(ni:P.NI c ρ){a:Addr}(e:c.h.get? a=none):a≠P.env.locals/\∀n b,(n,b)∈P.env.cells->b≠a:=by
 refine⟨λ q=>?_,λ n b hb q=>?_⟩
 ·obtain⟨m,o,_,_,ho,_⟩:=ni.ln;rw[<-q,e]at ho;(first|exact bh ho|obtain rfl:=ao ho|cases ho)
 ·obtain⟨_,_,_,v,o,ho,_⟩:=ni.cl n b hb;rw[q,e]at ho;(first|exact bh ho|obtain rfl:=ao ho|cases ho)
theorem aa9(ok:P.Ok){ae:Expr}{e:Ex}(h:SE P ae e):SIt P ae e:=by
 intro ρ c s K E hs si ni p;obtain⟨n,room⟩:=ok.room;refine h ρ c s _ E hs si ni (iz.seq si.frames p λ x va cC tk siB stB ra pB=>?_);obtain⟨l,hl,pC⟩:=pB.lift;refine alh (s:={ s with heap:=cC.h,toks:=tk }) siB.stay room.hh ra hl λ o hf hi hself=>?_;obtain⟨siC,stD⟩:=siB.push (h':=cC.h.push o) λ b o e=>Heap.get?_push_of_some _ e;have fr:cC.h.get? cC.h.objs.size=none:=zf;have hd:=xr siB fr;exact pC _ ⟨cC.B,cC.h.push o,cC.lay,cC.st⟩ tk rfl siC stD ⟨_,o,rfl,stB.gone si.frames fr,⟨⟨hd.out,hd.nl,hd.nf⟩,Heap.get?_push_size _ hf,hi⟩,⟨hself,(ni.step si.frames stB).apart fr⟩⟩
theorem R.bind_bind{α β γ : Type}(r:R α)(f : α->Store->R β)(g : β->Store->R γ):(r.bind f).bind g=r.bind λ a st=>(f a st).bind g:=by cases r<;>rfl
theorem aem{v:V}{l:List V}(h:itemsOf v=some l):l.length<=lim:=by
 induction v using V.casesOn with
 |list l=>obtain⟨q,rfl⟩:=o7 (h:(if _ then _ else _)=_);exact q
 |tuple l=>obtain⟨q,rfl⟩:=o7 (h:(if _ then _ else _)=_);exact q
 |bytes l=>obtain⟨q,rfl⟩:=o7 (h:(if _ then _ else _)=_);rw[bw];exact q
 | _=>exact nomatch h
theorem apq{x z:V}{l:List V}(h:Kv x=some z)(hl:itemsOf z=some l):∃N:Int,x=.int N/\(0<=N/\N<=100000)/\(List.range N.toNat).map (λ (i:Nat)=>V.int (i:Int))=l:=by
 induction x using V.casesOn with
 |int N=>
  obtain⟨q,rfl⟩:=o7 (h:(if 0<=N/\N<=100000 then _ else _)=_)
  exact⟨N,rfl,q,(o7 (hl:(if _ then _ else _)=_)).2⟩
 | _=>exact nomatch h
theorem ake(ok:P.Ok){la:Expr}{a:Ex}{np pos:Pos}(hx:P.env.kindOf (Str.ofString "range")=some .globalImplicit)(hn:notStar la=true)(ha:SE P la a):SIt P (.Call (.Name (Str.ofString "range") np) [la] [] pos) (.rng a):=by
 intro ρ c s K E hs si ni p;obtain⟨n,room⟩:=ok.room;refine wpAny_Call_NameR (q9 (v:=.type "range") ok hs si (by decide) hx (by kernel_rfl) ?_)
 have e:iu P.cf ρ (.rng a) c.st=(iu P.cf ρ a c.st).bind λ x st=>m5 (Kv x) st:=rfl;rw[e,R.bind_bind]at p;refine ac5 hn (ha ρ c s _ E hs si ni (iz.seq si.frames p λ x va cC tk siB stB ra pB=>?_));obtain⟨z,hz,pB⟩:=iz.liftb pB;obtain⟨l,hl,pC⟩:=iz.lift pB;obtain⟨N,rfl,hN,rfl⟩:=apq hz hl;obtain⟨t,rfl⟩:=qy ra;refine call_range_1 ?_;have hsz:Builtin.Range.rangeSize 0 N 1=(N.toNat:Int):=by rw[rangeSize_one];split<;>lia
 refine wpAny_pyIter_range (IsRange.new ..) (small_one (by decide) (by decide) (Int.le_trans (by decide) hN.1) (Int.lt_of_le_of_lt hN.2 (by decide))) ?_
 dsimp only
 generalize hr0:cC.h.push { cls:=.type "range",data:=.fields #[.int 0 tk,.int N t,.int 1 (tk+1)] }=h₁
 have fr0:∀a,cC.h.objs.size<=a->cC.h.get? a=none:=λ a h=>by
  cases e:cC.h.get? a with
  |none=>rfl
  |some o=>exact absurd (Heap.lt_size e) (jx.mpr h)
 have hs1:h₁.objs.size=cC.h.objs.size+1:=by rw[<-hr0,Heap.size_push]
 have k1:∀b o,cC.h.get? b=some o->h₁.get? b=some o:=λ b o e=>by rw[<-hr0];exact Heap.get?_push_of_some _ e
 generalize ho:({ cls:=.type "range_iterator",data:=.fields #[rawInt 0,rawInt (Builtin.Range.rangeSize 0 N 1),rawInt 1] }:Obj)=o
 have hf:o.isFreed=false:=by rw[<-ho];rfl
 obtain⟨siC,stD⟩:=siB.push (h':=h₁.push o) λ b o e=>Heap.get?_push_of_some _ (k1 b o e);have fr:=fr0 h₁.objs.size (hs1▸Nat.le_succ _);have hd:=xr siB fr;have W:=Walks.range (prog:=P.prog) (w:=P.w) (A:=P.A) room.hh h₁.objs.size 0 1 N.toNat;have hI:(h₁.push o).get? h₁.objs.size=some o:=Heap.get?_push_size _ hf;have h00:IsRangeIter (h₁.push o) h₁.objs.size (0+((0:Nat):Int)*1) ((N.toNat:Int)-((0:Nat):Int)) 1:=by
  have e1:(0+((0:Nat):Int)*1)=0:=by simp
  have e2:((N.toNat:Int)-((0:Nat):Int))=Builtin.Range.rangeSize 0 N 1:=by rw[hsz];simp
  rw[e1,e2];unfold IsRangeIter;rw[hI,<-ho]
 have hlen:N.toNat=((List.range N.toNat).map λ (i:Nat)=>V.int (i:Int)).length:=by simp
 have hitr:Mr P.prog P.w P.C P.A cC.B h₁.objs.size ((List.range N.toNat).map λ (i:Nat)=>V.int (i:Int)) o:=by
  refine Mw (fp:=[h₁.objs.size]) (wr:=[h₁.objs.size]) (P:=λ i v=>∃t,v=.int (0+i*1) t) (St:=λ i h=>IsRangeIter h h₁.objs.size (0+(i:Nat)*1) ((N.toNat:Int)-(i:Nat)) 1)
   (hlen▸W) (λ b hb=>.inl (by simpa using hb)) (λ b hb=>by simpa using hb) (by simp) ?_ (λ i h hh=>by unfold IsRangeIter at hh;exact⟨_,hh,rfl⟩) hd.out _ 0 (h₁.push o) o (n6 _) rfl h00 hI siC.stay
  rintro i v hi ⟨t,rfl⟩;have hi':i<N.toNat:=by simpa using hi
  refine⟨.int i,by simp[hi'],?_⟩
  have:(0+(i:Int)*1)=(i:Int):=by simp
  rw[this];exact .int _ _ _
 refine pC _ ⟨cC.B,h₁.push o,cC.lay,cC.st⟩ _ rfl siC stD ⟨_,o,rfl,stB.gone si.frames fr,⟨⟨hd.out,hd.nl,hd.nf⟩,hI,hitr⟩,⟨λ s' Q' E' e b q=>?_,(ni.step si.frames stB).apart fr⟩⟩;refine W.self 0 s' Q' E' ?_ q;have:IsRangeIter (h₁.push o) h₁.objs.size (0+((0:Nat):Int)*1) ((N.toNat:Int)-((0:Nat):Int)) 1:=h00;unfold IsRangeIter at this ⊢;rw[hI]at this;rw[e,this]
end Mine.Internal
namespace Mine.Internal
noncomputable def Bk(cells:List (Str×Addr)):List (Str×NameKind)->List (Str×Addr)->List (Str×Addr)
 |[],acc=>acc
 |(n,k)::r,acc=>if k==.free then Bk cells r ((n,(cells.lookup n).getD 0)::acc)else Bk cells r acc
theorem Jr(cells:List (Str×Addr))(n:Str)(k:NameKind)(r:List (Str×NameKind))(acc:List (Str×Addr)):Bk cells ((n,k)::r) acc=if k==.free then Bk cells r ((n,(cells.lookup n).getD 0)::acc)else Bk cells r acc:=rfl
theorem Tv{scope:Scope}{env:Env}(h:∀p∈scope.names,p.2=.free->∃a,env.cells.lookup p.1=some a):closureFor scope env=pure (Bk env.cells scope.names []):=by
 unfold closureFor
 generalize([]:List (Str×Addr))=acc
 revert h acc
 generalize scope.names=names
 induction names with
 |nil=>intro h acc;rfl
 |cons p r ih=>
  intro h acc;obtain⟨n,k⟩:=p;have hr:∀p∈r,p.2=.free->∃a,env.cells.lookup p.1=some a:=λ p hp=>h p (bk _ hp)
  by_cases hk:k=.free
  ·subst hk;obtain⟨a,ha⟩:=h (n,.free) (by simp) rfl
   have hc:PySem.cellOf env n=pure a:=by unfold PySem.cellOf;rw[ha]
   simp only[List.forIn_cons,uq,if_true,hc,pure_bind];show _ = pure (Bk env.cells r ((n,(env.cells.lookup n).getD 0)::acc));rw[ha];exact ih hr _
  ·have hb:(k==NameKind.free)=false:=by simpa using hk
   simp only[List.forIn_cons,hb,Bool.false_eq_true,if_false,pure_bind];rw[Jr];simp only[hb,Bool.false_eq_true,if_false];exact ih hr _
theorem Iv{cells:List (Str×Addr)}:∀{names:List (Str×NameKind)}{acc:List (Str×Addr)}{n:Str}{a:Addr},(∀p∈names,p.2=.free->∃a,cells.lookup p.1=some a)->
 (n,a)∈Bk cells names acc->(n,a)∈acc\/(n,a)∈cells
 |[],_,_,_,_,h=>.inl h
 |(m,k)::r,acc,n,a,hf,h=>by
  have hr:∀p∈r,p.2=.free->∃a,cells.lookup p.1=some a:=λ p hp=>hf p (bk _ hp);rw[Jr]at h
  split at h
  ·rename_i hk;obtain⟨b,hb⟩:=hf (m,k) (by simp) (by simpa using hk)
   rcases Iv hr h with h|h
   ·rcases gb.mp h with h|h
    ·obtain⟨rfl,rfl⟩:=Prod.mk.inj h;rw[hb,Option.getD_some];obtain⟨l1,l2,e,_⟩:=List.lookup_eq_some_iff.mp hb;exact .inr (by rw[e];simp)
    ·exact .inl h
   ·exact .inr h
  ·exact Iv hr h
theorem Ik{cells:List (Str×Addr)}{n:Str}{a:Addr}(ha:cells.lookup n=some a):∀{names:List (Str×NameKind)}{acc:List (Str×Addr)},acc.lookup n=some a->(Bk cells names acc).lookup n=some a
 |[],_,h=>h
 |(m,k)::r,acc,h=>by
  rw[Jr]
  split
  ·refine Ik ha ?_;rw[ou]
   split
   ·rename_i q;have:n=m:=by simpa using q
    subst this;rw[ha];rfl
   ·exact h
  ·exact Ik ha h
theorem Ew{cells:List (Str×Addr)}{n:Str}{a:Addr}(ha:cells.lookup n=some a):∀{names:List (Str×NameKind)}{acc:List (Str×Addr)},(n,NameKind.free)∈names->(Bk cells names acc).lookup n=some a
 |(m,k)::r,acc,h=>by
  rw[Jr];rcases gb.mp h with q|q
  ·obtain⟨rfl,rfl⟩:=Prod.mk.inj q;simp only[uq,if_true];exact Ik ha (by simp[ha])
  ·split<;>exact Ew ha q
theorem Nf{env:Env}:∀{names:List (Str×NameKind)}{x:Str},names.lookup x=some .free->env.scope.kind=.function->env.kindOf x=some .cell->
 (names.map λ (n,k)=>if(k==NameKind.free&&env.scope.kind==.function&&env.kindOf n==some .cell)then(n,NameKind.cell)else(n,k)).lookup x=some .cell
 |[],_,h,_,_=>by simp at h
 |(n,k)::r,x,h,hk,hc=>by
  show List.lookup x ((if(k==NameKind.free&&env.scope.kind==.function&&env.kindOf n==some .cell)=true then(n,NameKind.cell)else(n,k))::_)=_
  cases hx:x==n with
  |true=>
   have:x=n:=by simpa using hx
   subst this;simp only[ou,hx]at h
   (first|exact bh h|obtain rfl:=ao h|cases h)
   simp[ou,hk,hc]
  |false=>
   simp only[ou,hx]at h;have ih:=Nf h hk hc
   split<;>(simp only[ou,hx];exact ih)
section
variable{prog:Program}{w:World}{C:Addr}{l:List Env}
theorem Traced.drop{Bx:Heap}{e:Addr}{cls:Value}{h h':Heap}{Z:Addr}(x:Traced l Bx e cls h)(hz:Z∉frs l)(hn:∀o,h.get? Z=some o->∀vs,o.data≠.fields vs)(hs:Heap.SameBut Z h h'):
 Traced l (mask Bx λ a=>a != Z) e cls h':=by
 obtain⟨f1,f2,f3,a0,fl,oe,vs,T,oT,ts,g1,g2,g4,g5,g6,g7,g8,g9,g10⟩:=x;have none':∀a,Bx.get? a=none->(mask Bx λ a=>a != Z).get? a=none:=λ a e=>by rw[Ca,e];split<;>rfl
 have ne1:e≠Z:=λ q=>hn oe (q▸g1) vs g4;have ne2:T≠Z:=λ q=>hn oT (q▸g8) ts g9;refine⟨λ b o hb=>?_,none' _ f2,?_,a0,fl,oe,vs,T,oT,ts,(hs.2 e ne1).trans g1,g2,g4,g5,none' _ g6,g7,(hs.2 T ne2).trans g8,g9,g10⟩
 ·obtain⟨q1,q2⟩:=wj.mp hb;have:b≠Z:=by simpa using q1
  exact(hs.2 b this).trans (f1 _ _ q2)
 ·clear f1 f2 g1 g6 g8
  generalize hB:(mask Bx λ a=>a != Z)=B' at none'
  clear hB
  induction l with
  |nil=>trivial
  |cons env r ih=>
   obtain⟨h1,⟨L,o,h2,h3,h4,h5⟩,h6⟩:=f3;have hm:L∈frs (env::r):=by simp[frs,h2]
   have hr:∀L∈frs r,L∈frs (env::r):=λ L' h=>by
    unfold frs at h⊢;rw[oh]
    split
    ·exact h
    ·exact bk _ h
   exact⟨h1,⟨L,o,h2,none' L h3,(hs.2 L (λ q=>hz (q▸hm))).trans h4,h5⟩,ih (λ q=>hz (hr _ q)) h6⟩
theorem Ij.drop{W:List Addr}{c:Cfg}{st':Store}{h h' B' Bx:Heap}{lay':List (List Addr)}{Z:Addr}(x:Ij prog w C l W c st' h B' Bx lay')(hf:c.h.get? Z=none\/Z∈c.live)(hB:B'.get? Z=none)(hl:Z∉jj lay' st')(hz:Z∉frs l)
 (hs:Heap.SameBut Z h h'):Ij prog w C l W c st' h' B' (mask Bx λ a=>a != Z) lay' where
 base:=x.base
 inx b o e:=wj.mpr ⟨by simp only[bne_iff_ne,ne_eq];intro q;subst q;rw[hB]at e;exact(nomatch e),x.inx _ _ e⟩
 store:=x.store.keeps (lu _) (λ a ha o e=>wj.mpr ⟨by simp only[bne_iff_ne,ne_eq];intro q;subst q;exact hl ha,e⟩) x.store.out
 frl:=x.frl
 keep b o e hl' hw hr:=wj.mpr ⟨by
  simp only[bne_iff_ne,ne_eq];intro q;subst q;rcases hf with q|q
  ·rw[e]at q;(first|exact bh q|obtain rfl:=ao q|cases q)
  ·exact hl' q,x.keep b o e hl' hw hr⟩
 fr b hb o e hl' hw hn:=by
  obtain⟨sl,q⟩:=x.fr b hb o e hl' hw hn;exact⟨sl,(hs.2 b (λ z=>hz (z▸hb))).trans q⟩
 frw b hb hl' o e hn:=by
  obtain⟨o',q,hn'⟩:=x.frw b hb hl' o e hn;exact⟨o',(hs.2 b (λ z=>hz (z▸hb))).trans q,hn'⟩
 live:=x.live
 new:=x.new
 heads:=x.heads
end
variable{P:Px}
set_option tactic.hygienic true in
theorem amx{caps:List String}{ρ:Loc}{y:String}{b:qp}(h:lk y (Bp caps ρ)=some b):y∈caps/\lk y ρ=some b:=by
 induction caps with
 |nil=>(first|exact bh h|obtain rfl:=ao h|cases h)
 |cons z r ih=>
  unfold Bp at h;rw[oh]at h
  split at h
  ·obtain⟨h1,h2⟩:=ih h;exact⟨bk _ h1,h2⟩
  ·rename_i p hp;obtain⟨b',hb',rfl⟩:=uc.mp hp;rw[Al]at h
   split at h
   ·rename_i q;(first|exact bh h|obtain rfl:=ao h|cases h);subst q;exact⟨by simp,hb'⟩
   ·obtain⟨h1,h2⟩:=ih h;exact⟨bk _ h1,h2⟩
noncomputable def abp(P:Px)(ifs:List Expr)(cond:Ii):Prop:=∀(ρ:Loc) (c:Cfg) (s:Shared) (Q:Bool->Shared->Prop) (E:QV),s.heap=c.h->P.SI c->P.NI c ρ->
 P.Post [] c s (match cond with|.none=>.ok true c.st|.some e=>ug P.cf ρ e c.st) (λ _ v d=>v=d) Q E->
 wpAny P.M P.A (forIn ifs true λ c r=>if r=true then do let ok <-isTrue c P.env (eval c P.env);pure (ForInStep.yield ok)else pure (ForInStep.yield r)) Q E s
theorem aea:abp P [] .none:=by
 intro ρ c s Q E hs si ni p;exact wpAny_pure (ji s.toks hs p si rfl)
theorem afh{la:Expr}{a:Ex}(h:ST P la a):abp P [la] (.some a):=by
 intro ρ c s Q E hs si ni p;exact wpAny_tests_one (h ρ c s Q E hs si ni p)
noncomputable abbrev Px.comp(P:Px)(scope:Scope) (Cx:Addr):Px:={ P with env:=compEnvC scope (Bk P.env.cells scope.names []) Cx P.env }
structure I3(P:Px)(scope:Scope)(x:String)(caps:List String):Prop where
 nocell:∀y∈scope.names,y.2≠.cell
 kind:scope.kind=.function
 names:∀y∈scope.names,y.2=.local->scope.names.lookup y.1=some .local
 hx:scope.names.lookup (Str.ofString x)=some .local
 free:∀p∈scope.names,p.2=.free->P.env.kindOf p.1=some .cell
 caps:∀y∈caps,scope.names.lookup (Str.ofString y)=some .free
theorem mem_of_lookup{n:Str}{k:NameKind}:∀{names:List (Str×NameKind)},names.lookup n=some k->(n,k)∈names:=λ h=>by
 obtain⟨l1,l2,e,_⟩:=List.lookup_eq_some_iff.mp h;rw[e];simp
theorem ajv(ok:P.Ok){scope:Scope}{x:String}{caps:List String}(k:I3 P scope x caps) (Cx:Addr):(P.comp scope Cx).Ok where
 room:=ok.room
 wd:=ok.wd
 fr:=ok.fr
 ev:={
  kind:=k.kind
  g:=ok.ev.g
  b:=ok.ev.b
  cel:=λ n h=>by
   have h':(scope.names.map λ (n,k)=>if(k==NameKind.free&&P.env.scope.kind==.function&&P.env.kindOf n==some .cell)then(n,NameKind.cell)else(n,k)).lookup n=some .cell:=h
   obtain⟨⟨m,kk⟩,hm,e⟩:=kj.mp (mem_of_lookup h');dsimp only at e
   split at e
   ·rename_i q;simp only[sy,beq_iff_eq]at q
    (first|exact bh e|obtain rfl:=ao e|cases e)
    obtain⟨a,ha⟩:=ok.ev.cel _ q.2;exact⟨a,Ew ha (q.1.1▸hm)⟩
   ·(first|exact bh e|obtain rfl:=ao e|cases e)
    exact absurd rfl (k.nocell _ hm) }
theorem ako(ok:P.Ok){scope:Scope}{x:String}{caps:List String}(k:I3 P scope x caps){Cx:Addr}{c:Cfg}{ρ:Loc}(ni:P.NI c ρ)(hd:Hid P c Cx){m:Str->Option Value}(hn:c.h.Ns Cx m){v:Value}{d:V}
 (hm:m (Str.ofString x)=some v) (hv:P.RP c.B v d):(P.comp scope Cx).NI c ((x,.val d)::Bp caps ρ) where
 fn:=k.kind
 lb:=hd.out
 ll:=hd.nl
 ln:=⟨m,hn⟩
 cl n a h:=by
  rcases Iv (λ p hp hk=>ok.ev.cel _ (k.free p hp hk)) h with q|q
  ·exact nomatch q
  ·exact ni.cl n a q
 names y b h:=by
  rw[Al]at h
  split at h
  ·rename_i q;subst q
   (first|exact bh h|obtain rfl:=ao h|cases h)
   exact⟨v,.inl ⟨lookup_relabel_local k.hx,m,hn,hm⟩,hv⟩
  ·obtain⟨h1,h2⟩:=amx h;obtain⟨u,hu,hb⟩:=ni.names y b h2;have hf:=k.caps y h1;have hk:=k.free _ (mem_of_lookup hf) rfl;refine⟨u,.inr ⟨.inl (Nf hf ok.ev.kind hk),?_⟩,hb⟩;rcases hu with⟨q,_⟩|⟨_,a,ha,hi⟩
   ·rw[hk]at q;(first|exact bh q|obtain rfl:=ao q|cases q)
   ·exact⟨a,Ew ha (mem_of_lookup hf),hi⟩
end Mine.Internal
namespace Mine.Internal
variable{P:Px}
noncomputable def Bc(cf:CF)(ρ:Loc)(e:Ex)(x:String)(cond:Ii)(caps:List String)(v:V)(st:Store):R (Option V):=
 (match cond with|.none=>R.ok true st|.some c=>ug cf ((x,.val v)::Bp caps ρ) c st).bind λ b st=>match b with
  |true=>(iu cf ((x,.val v)::Bp caps ρ) e st).bind λ y st=>.ok (some y) st
  |false=>.ok none st
noncomputable def Ql(l:List V)(st:Store):R V:=if l.length<=lim then .ok (.list l) st else .bad
theorem agi(cf:CF)(ρ:Loc)(e:Ex)(x:String)(it:Ex)(cond:Ii)(caps:List String)(st:Store):
 iu cf ρ (.comp e x it cond caps) st=((iu cf ρ it st).bind λ v st=>m5 (itemsOf v) st).bind λ l st=>(mapR (Bc cf ρ e x cond caps) l st).bind Ql:=by
 cases cond<;>exact(R.bind_bind _ _ _).symm
theorem Yd(ok:P.Ok){scope:Scope}{Cx D:Addr}{c cj:Cfg}{s:Shared}{Q:QV}{E:QV}{use:Option (Value->Sem Unit)}{x:Exc}{st':Store}{tk:Nat}{m:Str->Option Value}
 (hf:c.h.FunFrames c.B P.l) (st:Step P.l [] c cj) (hd:Hid P cj Cx) (hn:cj.h.Ns Cx m) (hfresh:c.h.get? Cx=none\/Cx∈c.live)
 (h:Et P.prog P.w P.C P.cR P.cT P.l [] c x st' s E):
 Et P.prog P.w P.C P.cR P.cT P.l [] cj x st' { s with heap:=cj.h,toks:=tk } (notedBy P.M P.A (P.comp scope Cx).env λ e s'=>compPost P.M P.A E use Q (.ref D) Cx (.error e) s'):=by
 obtain⟨env₀,outer,L,hl,hfL,hen⟩:=ok.fr;obtain⟨n,room⟩:=ok.room;have hfr:=room.fr;obtain⟨oC,es,ep,hoC,hdC,hrC⟩:=id hn;have nfC:∀vs,oC.data≠.fields vs:=λ vs q=>by rw[hdC]at q;(first|exact bh q|obtain rfl:=ao q|cases q)
 intro e h' B' Bx lay' tk' fl ex;rw[hl]at fl;refine Qg (s:={ s with heap:=h',toks:=tk' }) (hfr.trans (au some hl)) hfL hen fl λ h₁ t u=>?_;rw[<-hl]at t;have ex1:=ex.move u;have hC1:h₁.get? Cx=some oC:=t.1 _ _ (ex.keep Cx oC hoC hd.nl (λ h=>nomatch h) hd.nf);have goal:∃m,h₁.Ns Cx m/\∀h₂,Heap.SameBut Cx h₁ h₂->∀cenv:Env,cenv.locals=Cx->wpAny P.M P.A (PySem.passOn "comprehension.variables-let-go" (.ref e) cenv:Sem Value) (λ _ _=>False) E { s with heap:=h₂,toks:=tk' }:=?_
 ·cases use<;>exact goal
 refine⟨m,⟨oC,es,ep,hC1,hdC,hrC⟩,λ h₂ hsb cenv hcenv=>?_⟩;have t2:Traced P.l (mask Bx λ a=>a != Cx) e (clsOf P.cR P.cT x) h₂:=t.drop hd.nf (λ o ho=>by rw[hC1]at ho;(first|exact bh ho|obtain rfl:=ao ho|cases ho);exact nfC) hsb
 have hB':B'.get? Cx=none:=by
  cases q:B'.get? Cx with
  |none=>rfl
  |some o=>
   rcases ex.new Cx hd.out (by rw[q];exact λ q=>nomatch q)with z|z
   ·rw[hoC]at z;(first|exact bh z|obtain rfl:=ao z|cases z)
   ·exact absurd z hd.nl
 have hL':Cx∉jj lay' st':=λ q=>by
  rcases ex.live Cx q with z|z
  ·rw[hoC]at z;(first|exact bh z|obtain rfl:=ao z|cases z)
  ·exact hd.nl z
 have ex2:=(ex1.after hf st).drop hfresh hB' hL' hd.nf hsb;exact am1 (s:={ s with heap:=h₂,toks:=tk' }) t2 λ h₃ tD uF=>h e h₃ B' _ lay' tk' tD.fly (ex2.move uF)
theorem Oh{h' B:Heap}{a:Addr}(e:B.get? a=none):(mask h' λ a=>(B.get? a).isSome||false).get? a=none:=by
 rw[Ca,e];rfl
noncomputable def Vc(cf:CF)(ρ:Loc)(e:Ex)(x:String)(cond:Ii)(caps:List String)(r ds:List V)(st:Store):R V:=(mapR (Bc cf ρ e x cond caps) r st).bind λ l st=>Ql (ds++l) st
inductive ara(P:Px)(ρ:Loc)(e:Ex)(x:String)(cond:Ii)(caps:List String)(c:Cfg)(s:Shared) (I D Cx:Addr)(r0:R V)(n:Nat)(s':Shared):Prop
 |mk (ci:Cfg) (tk:Nat) (rem ds:List V) (vs:List Value) (o:Obj) (m:Str->Option Value) (hs:s' = { s with heap:=ci.h,toks:=tk }) (si:P.SI ci) (st:Step P.l [] c ci) (hd:Hid P ci D) (hc:Hid P ci Cx) (it:ae3 P ci I rem o)
  (hp:ci.h.PlainList D vs.toArray) (hr:p8 P.prog P.w P.C ci.B vs ds) (ns:ci.h.Ns Cx m) (hn:n=rem.length+1) (hl:vs.length+rem.length<=lim)
  (e:r0=Vc P.cf ρ e x cond caps rem ds ci.st)
structure awh(P:Px)(cF:Cfg) (I D Cx:Addr)(r:List V)(o':Obj)(vs:List Value)(ds:List V)(m:Str->Option Value):Prop where
 hd:Hid P cF D
 hc:Hid P cF Cx
 it:ae3 P cF I r o'
 pl:cF.h.PlainList D vs.toArray
 rl:p8 P.prog P.w P.C cF.B vs ds
 ns:cF.h.Ns Cx m
theorem Lj{h h':Heap}{a:Addr}{m:Str->Option Value}(hn:h.Ns a m)(k:∀o,h.get? a=some o->h'.get? a=some o):h'.Ns a m:=hn.at' k
noncomputable def Ud(cf:CF)(ρ:Loc)(cond:Ii)(st:Store):R Bool:=match cond with
 |.none=>R.ok true st
 |.some c=>ug cf ρ c st
noncomputable def aog(cf:CF)(ρ:Loc)(e:Ex)(x:String)(cond:Ii)(caps:List String)(d:V)(r ds:List V)(b:Bool)(st:Store):R V:=match b with
 |true=>(iu cf ((x,.val d)::Bp caps ρ) e st).bind λ y st=>Vc cf ρ e x cond caps r (ds++[y]) st
 |false=>Vc cf ρ e x cond caps r ds st
theorem aeu(cf:CF)(ρ:Loc)(e:Ex)(x:String)(cond:Ii)(caps:List String)(d:V)(r ds:List V)(st:Store):
 Vc cf ρ e x cond caps (d::r) ds st=(Ud cf ((x,.val d)::Bp caps ρ) cond st).bind (aog cf ρ e x cond caps d r ds):=by
 show(((((Ud cf ((x,.val d)::Bp caps ρ) cond st).bind _)).bind _).bind _)=_;cases Ud cf ((x,.val d)::Bp caps ρ) cond st with
 |bad=>rfl
 |exc=>rfl
 |ok b st=>
  induction b with
  |true=>
   show((((iu cf ((x,.val d)::Bp caps ρ) e st).bind _).bind _).bind _)=(iu cf ((x,.val d)::Bp caps ρ) e st).bind _;cases iu cf ((x,.val d)::Bp caps ρ) e st with
   |bad=>rfl
   |exc=>rfl
   |ok y st=>
    show((mapR (Bc cf ρ e x cond caps) r st).bind _).bind _ = (mapR (Bc cf ρ e x cond caps) r st).bind _;cases mapR (Bc cf ρ e x cond caps) r st with
    |ok l st=>exact au (Ql · st) (jc ds [y] l).symm
    |bad=>rfl
    |exc=>rfl
  |false=>
   show((mapR (Bc cf ρ e x cond caps) r st).bind _).bind _ = (mapR (Bc cf ρ e x cond caps) r st).bind _;cases mapR (Bc cf ρ e x cond caps) r st<;>rfl
theorem all2{p:Addr->Prop}{a b:Addr}(h:p a)(k:p b):∀x∈[a,b],p x:=dg.2 ⟨h,dg.2 ⟨k,λ _ h=>nomatch h⟩⟩
theorem in2{a b x:Addr}(h:x=b):x∈[a,b]:=bk _ (gb.2 (.inl h))
theorem in1{x a:Addr}{l:List Addr}(h:x=a):x∈a::l:=gb.2 (.inl h)
theorem afv(ok:P.Ok){scope:Scope}{x:String}{caps:List String}{iter elt:Expr}{ifs:List Expr}{e:Ex}{cond:Ii}{px pos:Pos}(k:I3 P scope x caps)
 (helt:∀Cx,SE (P.comp scope Cx) elt e) (hifs:∀Cx,abp (P.comp scope Cx) ifs cond){ρ:Loc}{c:Cfg}{s:Shared}{I D Cx:Addr}{Q QQ:QV}{E:QV}{use:Option (Value->Sem Unit)}{r0:R V}(si:P.SI c) (ni:P.NI c ρ) (hp0:P.Post [] c s r0 (λ c' v d=>P.RP c'.B v d) QQ E)
 (hend:∀(cf':Cfg) (tk':Nat) (l:List V) (m:Str->Option Value),P.SI cf'->Step P.l [] c cf'->P.RP cf'.B (.ref D) (.list l)->Hid P cf' Cx->cf'.h.Ns Cx m->r0=.ok (.list l) cf'.st->
  compPost P.M P.A E use Q (.ref D) Cx (.ok .next) { s with heap:=cf'.h,toks:=tk' })
 (hID:I≠D) (hIC:I≠Cx) (hDC:D≠Cx) (fI:c.h.get? I=none\/I∈c.live) (fD:c.h.get? D=none\/D∈c.live) (fC:c.h.get? Cx=none\/Cx∈c.live){n:Nat}{s':Shared}(h0:ara P ρ e x cond caps c s I D Cx r0 n s'):
 codeAny P.M P.A (.compLoop (.ListComp elt [⟨.Name (Str.ofString x) px,iter,ifs,0⟩] scope pos) 0 (.ref I) (.ref D) (P.comp scope Cx).env) (compPost P.M P.A E use Q (.ref D) Cx) s':=by
 refine codeAny_compLoop_tests (ara P ρ e x cond caps c s I D Cx r0) ?_ n h0;rintro n s' ⟨ci,tk,rem,ds,vs,o,m,rfl,sii,sti,hD,hC,hI,hpl,hrl,hns,rfl,hlen,pr⟩;have p:=hp0;rw[pr]at p;have hxk:(P.comp scope Cx).env.kindOf (Str.ofString x)=some .local:=lookup_relabel_local k.hx;have hp:((P.comp scope Cx).env.scope.kind==.class||((P.comp scope Cx).env.scope.kind==.module&&(P.comp scope Cx).env.locals != (P.comp scope Cx).env.globals))=false:=by
  have:(P.comp scope Cx).env.scope.kind=.function:=k.kind;rw[this];rfl
 induction rem using List.casesOn with
 |nil=>
  refine hI.itr _ _ _ hI.at' sii.stay λ h' tk' kp=>?_;obtain⟨nn,hpl'⟩:=hpl;have hDh:h'.get? D=some { cls:=.type "list",data:=.seq vs.toArray nn }:=kp D _ (Ne.symm hID) hpl';obtain⟨si',st',b',inn⟩:=si.adopt sii sti (h':=h') (Z:=[I,D]) (all2 ⟨fI,hI.hid.out,hI.hid.nl,hI.hid.nf⟩ ⟨fD,hD.out,hD.nl,hD.nf⟩) (λ b o hb e=>kp b o (λ q=>hb (in1 q)) e) (λ a=>a==D) (λ a ha=>in2 (eq_of_beq ha));have hfin:r0=.ok (.list ds) ci.st:=pr.trans (by
   show Ql (ds++[]) ci.st = _;rw[jo];exact bf (by rw[<-hrl.length];exact hlen))
  refine hend ⟨mask h' λ a=>(ci.B.get? a).isSome||a==D,h',ci.lay,ci.st⟩ tk' ds m si' st' (.list (inn D (uq D) _ hDh) (hrl.mono b')) ⟨?_,hC.nl,hC.nf⟩ (Lj hns λ o e=>kp _ o (Ne.symm hIC) e) hfin;rw[Ca,hC.out,show(Cx==D)=false from m8.mpr (Ne.symm hDC)];rfl
 |cons d r=>
  refine hI.itr _ _ _ hI.at' sii.stay λ v h₁ tkE o' kp hI' _ hitr rv=>?_;refine wpAny_assign_Name (wpAny_storeName_local hxk (Lj hns λ o e=>kp _ o (Ne.symm hIC) e) (λ h₂ hnD hsC=>?_) hp);obtain⟨siC,stD,bC,-⟩:=si.adopt sii sti (h':=h₂) (Z:=[I,Cx]) (all2 ⟨fI,hI.hid.out,hI.hid.nl,hI.hid.nf⟩ ⟨fC,hC.out,hC.nl,hC.nf⟩) (λ b o hb e=>(hsC.2 b λ q=>hb (in2 q)).trans (kp b o (λ q=>hb (in1 q)) e)) (λ _=>false) (λ a ha=>nomatch ha)
  generalize hcE:(⟨mask h₂ λ a=>(ci.B.get? a).isSome||false,h₂,ci.lay,ci.st⟩:Cfg)=cD at siC stD
  have eB:cD.B=mask h₂ λ a=>(ci.B.get? a).isSome||false:=by rw[<-hcE]
  have eh:cD.h=h₂:=by rw[<-hcE]
  have el:cD.live=ci.live:=by rw[<-hcE];rfl
  have es:cD.st=ci.st:=by rw[<-hcE]
  rw[<-eB]at bC;have hidC:∀a,Hid P ci a->Hid P cD a:=λ a q=>⟨by rw[eB];exact Oh q.out,by rw[el];exact q.nl,q.nf⟩
  have hnC':cD.h.Ns Cx (λ y=>if y=Str.ofString x then some v else m y):=by rw[eh];exact hnD
  have nic:(P.comp scope Cx).NI cD ((x,.val d)::Bp caps ρ):=ako ok k (ni.step si.frames stD) (hidC _ hC) hnC' (bf rfl) (rv.mono bC);have hIE:ae3 P cD I r o':=⟨hidC _ hI.hid,by rw[eh];exact(hsC.2 I hIC).trans hI',hitr.mono bC⟩
  have hplC:cD.h.PlainList D vs.toArray:=by rw[eh];exact hpl.at λ o e=>(hsC.2 D hDC).trans (kp D o (Ne.symm hID) e)
  have hrlC:=hrl.mono bC;have hDD:=hidC _ hD;have hCC:=hidC _ hC;have hsz:∃(oD:Obj),cD.h.get? D=some oD:=let⟨_,q⟩:=hplC;⟨_,q⟩;have more:∀(cF:Cfg) (tkD:Nat) (ds':List V) (vs':List Value),P.SI cF->Step P.l [] c cF->Hid P cF D->Hid P cF Cx->ae3 P cF I r o'->cF.h.PlainList D vs'.toArray->p8 P.prog P.w P.C cF.B vs' ds'->
   cF.h.Ns Cx (λ y=>if y=Str.ofString x then some v else m y)->vs'.length+r.length<=lim->r0=Vc P.cf ρ e x cond caps r ds' cF.st->
   ∃m<(d::r).length+1,ara P ρ e x cond caps c s I D Cx r0 m { s with heap:=cF.h,toks:=tkD }:=λ cF tkD ds' vs' a1 a2 a3 a4 a5 a6 a7 a8 a9 a10=>
   ⟨r.length+1,m9 _,cF,tkD,r,ds',vs',o',_,rfl,a1,a2,a3,a4,a5,a6,a7,a8,rfl,a9,a10⟩
  have stepD:∀(cF:Cfg),Step P.l [] cD cF->awh P cF I D Cx r o' vs ds (λ y=>if y=Str.ofString x then some v else m y):=λ cF stG=>by
   obtain⟨nD,hDo⟩:=hplC;obtain⟨q1,q2⟩:=hDD.step hDo stG;obtain⟨oC,es',ep,hoC,hrC⟩:=id hnC';obtain⟨q3,q4⟩:=hCC.step hoC stG;obtain⟨q5,q6⟩:=hIE.hid.step hIE.at' stG;exact⟨q1,q3,⟨q5,q6,hIE.itr.mono stG.base⟩,⟨nD,q2⟩,hrlC.mono stG.base,⟨oC,es',ep,q4,hrC⟩⟩
  show wpAny P.M P.A _ _ _ { s with heap:=h₂,toks:=tkE+1 };rw[<-eh];refine hifs Cx ((x,.val d)::Bp caps ρ) cD _ _ _ rfl siC nic ?_;show iz P.prog P.w P.C P.H P.cR P.cT P.l [] cD _ (Ud P.cf ((x,.val d)::Bp caps ρ) cond cD.st) _ _ _;have pr':r0=(Ud P.cf ((x,.val d)::Bp caps ρ) cond cD.st).bind (aog P.cf ρ e x cond caps d r ds):=pr.trans (by rw[es];exact aeu ..)
  clear p pr
  have p':=hp0;rw[pr']at p'
  generalize Ud P.cf ((x,.val d)::Bp caps ρ) cond cD.st=T at p' pr' ⊢
  induction T with
  |bad=>exact p'.elim
  |exc q st'=>exact Yd ok si.frames stD hCC hnC' fC p'
  |ok b st'=>
   intro v' cF tkD hst siD stG hv;subst hv;subst hst;obtain⟨q1,q2,q3,q4,q5,q6⟩:=stepD cF stG;have stD':=stD.trans si.frames stG
   induction v' with
   |false=>exact more cF tkD ds vs siD stD' q1 q2 q3 q4 q5 q6 (Nat.le_of_succ_le hlen) pr'
   |true=>
    rw[bf rfl];refine helt Cx ((x,.val d)::Bp caps ρ) cF _ _ _ rfl siD (NI.step siC.frames nic stG) ?_;have pr'':r0=((iu P.cf ((x,.val d)::Bp caps ρ) e cF.st).bind λ y st=>Vc P.cf ρ e x cond caps r (ds++[y]) st):=pr';have p'':=hp0;rw[pr'']at p'';show iz P.prog P.w P.C P.H P.cR P.cT P.l [] cF _ (iu P.cf ((x,.val d)::Bp caps ρ) e cF.st) _ _ _
    generalize iu P.cf ((x,.val d)::Bp caps ρ) e cF.st=T at p'' pr'' ⊢
    induction T with
    |bad=>exact p''.elim
    |exc q st'=>exact Yd ok si.frames stD' q2 q6 fC p''
    |ok y st'=>
     intro yv cG tkF hst siE stJ ry;subst hst;obtain⟨q1,q2,q3,q4,q5,q6⟩:=stepD cG (stG.trans siC.frames stJ);have stE':=stD'.trans si.frames stJ;refine wpAny_list_append_plain q4 (λ h' hpl' hsb=>?_) (Rx (ak (dz _ _) hlen));obtain⟨siF,stO,bF,-⟩:=si.adopt siE stE' (h':=h') (Z:=[D]) (dg.2 ⟨⟨fD,q1.out,q1.nl,q1.nf⟩,λ _ h=>nomatch h⟩) (λ b o hb e=>(hsb.2 b λ q=>hb (in1 q)).trans e) (λ _=>false) (λ a ha=>nomatch ha);have hidF:∀a,Hid P cG a->Hid P ⟨mask h' λ a=>(cG.B.get? a).isSome||false,h',cG.lay,cG.st⟩ a:=λ a q=>⟨Oh q.out,q.nl,q.nf⟩;obtain⟨oC,es',ep,hoC,hrC⟩:=id q6;refine more ⟨_,h',cG.lay,cG.st⟩ tkF (ds++[y]) (vs++[yv]) siF stO (hidF _ q1) (hidF _ q2) ⟨hidF _ q3.hid,(hsb.2 I hID).trans q3.at',q3.itr.mono bF⟩ ?_ ((q5.mono bF).append (.one (ry.mono bF))) ⟨oC,es',ep,(hsb.2 Cx (Ne.symm hDC)).trans hoC,hrC⟩
      (by rw[cg,jt,j6 [yv].length];exact hlen) pr''
     obtain⟨nn,hpl'⟩:=hpl';exact⟨nn,by rw[hpl',List.push_toArray]⟩
theorem Ro(ok:P.Ok){scope:Scope}{x:String}{caps:List String}{iter elt:Expr}{ifs:List Expr}{it e:Ex}{cond:Ii}{px pos:Pos}{Q QQ:QV}{use:Option (Value->Sem Unit)}(k:I3 P scope x caps)(hfold:∀v,foldedSetIterable iter P.env v=pure v)
 (hit:SIt P iter it) (helt:∀Cx,SE (P.comp scope Cx) elt e) (hifs:∀Cx,abp (P.comp scope Cx) ifs cond){ρ:Loc}{c:Cfg}{s:Shared}{E:QV}(hs:s.heap=c.h) (si:P.SI c) (ni:P.NI c ρ)
 (p:P.Post [] c s (iu P.cf ρ (.comp e x it cond caps) c.st) (λ c' v d=>P.RP c'.B v d) QQ E)
 (hend:∀(D Cx:Addr),(c.h.get? Cx=none\/Cx∈c.live)->∀(cf':Cfg) (tk':Nat) (l:List V) (m:Str->Option Value),P.SI cf'->Step P.l [] c cf'->P.RP cf'.B (.ref D) (.list l)->Hid P cf' Cx->cf'.h.Ns Cx m->iu P.cf ρ (.comp e x it cond caps) c.st=.ok (.list l) cf'.st->
  compPost P.M P.A E use Q (.ref D) Cx (.ok .next) { s with heap:=cf'.h,toks:=tk' }):
 wpAny P.M P.A (comprehension (.ListComp elt [⟨.Name (Str.ofString x) px,iter,ifs,0⟩] scope pos) scope P.env (firstIterPos [⟨.Name (Str.ofString x) px,iter,ifs,0⟩] pos) (newList []) false (eval iter P.env) use) Q E s:=by
 rw[agi]at p hend;refine wpAny_comprehension_free (use:=use) rfl hfold (Tv λ p hp hk=>ok.ev.cel _ (k.free p hp hk)) k.kind k.names ?_;refine hit ρ c s _ E hs si ni ?_;have hl:∀l st,((iu P.cf ρ it c.st).bind λ v st=>m5 (itemsOf v) st)=.ok l st->l.length<=lim:=by
  intro l st e;cases hq:iu P.cf ρ it c.st with
  |ok v st'=>
   rw[hq]at e;simp only[R.bind]at e;cases hi:itemsOf v with
   |none=>rw[hi]at e;(first|exact bh e|obtain rfl:=ao e|cases e)
   |some l'=>
    rw[hi]at e;(first|exact bh e|obtain rfl:=ao e|cases e);exact aem hi
  |exc=>rw[hq]at e;(first|exact bh e|obtain rfl:=ao e|cases e)
  |bad=>rw[hq]at e;(first|exact bh e|obtain rfl:=ao e|cases e)
 generalize((iu P.cf ρ it c.st).bind λ v st=>m5 (itemsOf v) st)=T at p hl hend ⊢
 induction T with
 |bad=>exact p.elim
 |exc q st'=>exact p
 |ok l st'=>
  rintro itv cC tk hst siB stB ⟨I,o,rfl,fI,hI,hself⟩;subst hst;have hll:=hl l _ rfl;refine wpAny_newObj_type (wpAny_newFunctionEnv k.nocell (by intro y hy;simp at hy) (λ h₁ hnsB hsbB=>?_) k.kind)
  dsimp only at hnsB hsbB ⊢
  generalize hH2:cC.h.push { cls:=.type "list",dict:=none,data:=.seq ([]:List Value).toArray }=H2 at hnsB hsbB ⊢
  have hCs:H2.objs.size=cC.h.objs.size+1:=by rw[<-hH2,Heap.size_push]
  have fr:∀a,cC.h.objs.size<=a->cC.h.get? a=none:=λ a h=>by
   cases e:cC.h.get? a with
   |none=>rfl
   |some o=>exact absurd (Heap.lt_size e) (jx.mpr h)
  have hDC:cC.h.objs.size≠H2.objs.size:=by rw[hCs];exact qz (m9 _)
  have ltI:=Heap.lt_size hI.at';have hID:I≠cC.h.objs.size:=qz ltI;have hIC:I≠H2.objs.size:=by rw[hCs];exact qz (Nat.lt_succ_of_lt ltI)
  have old:∀b o,cC.h.get? b=some o->h₁.get? b=some o:=λ b o e=>hsbB.extBut b o (by rw[hCs];exact qz (Nat.lt_succ_of_lt (Heap.lt_size e))) (Heap.get?_push_of_some _ (hH2▸Heap.get?_push_of_some _ e))
  have hacc:h₁.PlainList cC.h.objs.size #[]:=⟨_,hsbB.extBut _ _ hDC (Heap.get?_push_of_some _ (hH2▸Heap.get?_push_size _ rfl))⟩;obtain⟨siC,stBC⟩:=siB.push old;have hD:=xr siB (fr _ (jf _));have hC:=xr siB (fr H2.objs.size (by rw[hCs];exact Nat.le_succ _))
  have loop:=afv (px:=px) (iter:=iter) (elt:=elt) (ifs:=ifs) (pos:=pos) (Q:=Q) (QQ:=QQ) (use:=use) (E:=E) (s:=s) (I:=I) (D:=cC.h.objs.size) (Cx:=H2.objs.size) ok k helt hifs si ni p (hend _ _ (stB.gone si.frames (fr _ (by rw[hCs];exact Nat.le_succ _)))) hID hIC hDC fI (stB.gone si.frames (fr _ (jf _))) (stB.gone si.frames (fr _ (by rw[hCs];exact Nat.le_succ _)))
   (n:=l.length+1) (s':={ s with heap:=h₁,toks:=tk })
   ⟨⟨cC.B,h₁,cC.lay,cC.st⟩,tk,l,[],[],o,_,rfl,siC,stB.trans si.frames stBC,⟨hD.out,hD.nl,hD.nf⟩,⟨hC.out,hC.nl,hC.nf⟩,⟨⟨hI.hid.out,hI.hid.nl,hI.hid.nf⟩,old _ _ hI.at',hI.itr⟩,hacc,.nil _,hnsB,rfl,by simpa using hll,rfl⟩
  exact codeAny_compStart_list loop (hself.self _ _ _ (old _ _ hI.at') siC.stay loop)
theorem al6(ok:P.Ok){scope:Scope}{x:String}{caps:List String}{iter elt:Expr}{ifs:List Expr}{it e:Ex}{cond:Ii}{px pos:Pos}(k:I3 P scope x caps)(hfold:∀v,foldedSetIterable iter P.env v=pure v)
 (hit:SIt P iter it) (helt:∀Cx,SE (P.comp scope Cx) elt e) (hifs:∀Cx,abp (P.comp scope Cx) ifs cond):
 SE P (.ListComp elt [⟨.Name (Str.ofString x) px,iter,ifs,0⟩] scope pos) (.comp e x it cond caps):=by
 intro ρ c s Q E hs si ni p;rw[eval_ListComp];refine Ro (use:=none) (QQ:=Q) ok k hfold hit helt hifs hs si ni p λ D Cx fC cf' tk' l m si' st' r hC hn pe=>⟨m,hn,λ h'' hsb=>?_⟩;have pf:=p;rw[pe]at pf;obtain⟨siC,stD,bC,-⟩:=si.adopt si' st' (h':=h'') (Z:=[Cx]) (by
  intro a ha;simp only[gb,uw,or_false]at ha;subst ha;exact⟨fC,hC.out,hC.nl,hC.nf⟩) (λ b o hb e=>(hsb.2 b (λ q=>hb (by simp[q]))).trans e) (λ _=>false) (λ a ha=>nomatch ha)
 exact pf (.ref D) ⟨mask h'' λ a=>(cf'.B.get? a).isSome||false,h'',cf'.lay,cf'.st⟩ tk' rfl siC stD (r.mono bC)
end Mine.Internal
namespace Mine.Internal
variable{P:Px}
inductive Dz(prog:Program)(w:World) (C:Addr) (B:Heap)(lay:List (List Addr)):List qp->List Value->Prop
 |nil:Dz prog w C B lay [] []
 |cons {b v bs vs}:um prog w C B lay b v->Dz prog w C B lay bs vs->Dz prog w C B lay (b::bs) (v::vs)
theorem Dz.inv{prog:Program}{w:World}{C:Addr}{B:Heap}{lay:List (List Addr)}{bs:List qp}{vs:List Value}(h:Dz prog w C B lay bs vs):match bs with
 |[]=>vs=[]
 |b::bs=>∃v us,vs=v::us/\um prog w C B lay b v/\Dz prog w C B lay bs us:=by
 cases h with
 |nil=>rfl
 |cons a r=>exact⟨_,_,rfl,a,r⟩
noncomputable abbrev Bm(P:Px) (B:Heap)(lay:List (List Addr)):List qp->List Value->Prop:=Dz P.prog P.w P.C B lay
theorem Bm.step{c c':Cfg}(st:Step P.l [] c c'){bs:List qp}{vs:List Value}(h:Bm P c.B c.lay bs vs):Bm P c'.B c'.lay bs vs:=by
 show Dz _ _ _ _ _ _ _
 induction h with
 |nil=>exact .nil
 |cons a _ ih=>exact .cons (um.step st a) ih
noncomputable def SBs(P:Px)(aes:List Expr)(es:Aq):Prop:=∀(pos:Pos) (ρ:Loc) (c:Cfg) (s:Shared) (Q:List Value->Shared->Prop) (E:QV),s.heap=c.h->P.SI c->P.NI c ρ->
 P.Post [] c s (Jx P.cf ρ es c.st) (λ c' vs bs=>Bm P c'.B c'.lay bs vs) Q E->wpAny P.M P.A (spliced (backTo pos (starEach aes P.env))) Q E s
theorem amy:SBs P [] .nil:=by
 intro pos ρ c s Q E hs si ni p;exact spliced_none (ji s.toks hs p si .nil)
theorem ahj{la:Expr}{a:Ex}{aes:List Expr}{es:Aq}(hn:notStar la=true)(ha:SB P la a)(hr:SBs P aes es):SBs P (la::aes) (.cons a es):=by
 intro pos ρ c s Q E hs si ni p;refine wpAny_items_cons (ha ρ c s _ E hs si ni (iz.seq si.frames p λ x v cC tk siB stB ra pB=>?_)) (Aa hn);refine hr pos ρ cC _ _ E rfl siB (ni.step si.frames stB) (iz.seq siB.frames pB λ xs vs cD tkC siC stD rs pC=>?_);exact ji tkC rfl pC siC (.cons (um.step stD ra) rs)
noncomputable def Hp(P:Px)(f:String)(a:Addr):Prop:=∀(c:Cfg) (s:Shared) (bs:List qp) (vs:List Value) (Q:QV) (E:QV),s.heap=c.h->P.SI c->Bm P c.B c.lay bs vs->
 P.Post [] c s (P.cf f bs c.st) (λ c' v d=>P.RP c'.B v d) Q E->wpAny P.M P.A (call (.ref a) vs) Q E s
noncomputable def Ak:List Expr->Bool
 |[]=>true
 |e::r=>notStar e&&Ak r
theorem Jf:∀{aes:List Expr}{env:Env}{pos:Pos},Ak aes=true->(backTo pos (starEach aes env)).any (·.1)=false
 |[],_,_,_=>rfl
 |e::r,env,pos,h=>by
  simp only[Ak,sy]at h;rw[Aa h.1];show(false||(backTo pos (starEach r env)).any (·.1))=false;rw[Jf h.2];rfl
theorem Om{M:Model}{A:Around}{env:Env}{pos:Pos}{f:Value}{aes:List Expr}{Q:Args->Shared->Prop}{E:QV}{s:Shared}(hn:Ak aes=true)
 (h:wpAny M A (spliced (backTo pos (starEach aes env))) (λ vs s'=>Q ⟨vs,[]⟩ s') E s):wpAny M A (evalArgs f true (backTo pos (starEach aes env)) []) Q E s:=by
 induction aes using List.casesOn with
 |nil=>
  unfold evalArgs;show wpAny M A (spliced [] >>= _) Q E s;refine wpAny_bind (wpAny_mono (show wpAny M A (spliced []) (λ vs s'=>Q ⟨vs,[]⟩ s') E s from h) (λ vs s' h'=>?_) λ _ _ x=>x)
  first
   |exact wpAny_bind (wpAny_pure (wpAny_holding (wpAny_bind (wpAny_pure (wpAny_bind (wpAny_pure (wpAny_pure h')))))))
   |exact wpAny_holding (wpAny_bind (wpAny_pure (wpAny_bind (wpAny_pure (wpAny_pure h')))))
 |cons e r=>
  simp only[Ak,sy]at hn;rw[Aa hn.1]at h⊢;exact evalArgs_plain h
theorem acz(ok:P.Ok){f:String}{a:Addr}{aes:List Expr}{es:Aq}{np pos:Pos}(hd:uf f=true)(hx:P.env.kindOf (Str.ofString f)=some .globalImplicit)(hm:P.mg (Str.ofString f)=some (.ref a))
 (hk:keepIn P.K (.ref a)=true) (hn:Ak aes=true) (hf:Hp P f a) (h:SBs P aes es){ρ:Loc}{c:Cfg}{s:Shared}{Q:QV}{E:QV}(hs:s.heap=c.h) (si:P.SI c) (ni:P.NI c ρ)
 (p:P.Post [] c s ((Jx P.cf ρ es c.st).bind λ l st=>P.cf f l st) (λ c' v d=>P.RP c'.B v d) Q E):wpAny P.M P.A (eval (.Call (.Name (Str.ofString f) np) aes [] pos) P.env) Q E s:=by
 refine wpAny_Call_NameR (Nz ok hs si (R8 hd) hx hm ?_);refine callWith_of (P:=P.K.In) (by rw[Jf hn];rfl) (keeps_K hk) (Om hn ?_)
 refine h pos ρ c s _ E hs si ni (iz.seq si.frames p λ bs vs cC tk siB stB rb pB=>?_);exact⟨Kr ok siB,hf cC _ bs vs Q E rfl siB rb pB⟩
theorem akv(ok:P.Ok){f:String}{a:Addr}{aes:List Expr}{es:Aq}{np pos:Pos}(hd:uf f=true)(hx:P.env.kindOf (Str.ofString f)=some .globalImplicit)(hm:P.mg (Str.ofString f)=some (.ref a))
 (hk:keepIn P.K (.ref a)=true) (hn:Ak aes=true) (hf:Hp P f a) (h:SBs P aes es):SE P (.Call (.Name (Str.ofString f) np) aes [] pos) (.call f es):=by
 intro ρ c s Q E hs si ni p;exact acz ok hd hx hm hk hn hf h hs si ni p
theorem apv(ok:P.Ok){a:Addr}{aes:List Expr}{es:Aq}{np pos:Pos}(hx:P.env.kindOf (Str.ofString "Transaction")=some .globalImplicit)(hm:P.mg (Str.ofString "Transaction")=some (.ref a))
 (hk:keepIn P.K (.ref a)=true) (hn:Ak aes=true) (hf:Hp P "Transaction" a) (h:SBs P aes es):SE P (.Call (.Name (Str.ofString "Transaction") np) aes [] pos) (.new es):=by
 intro ρ c s Q E hs si ni p;exact acz ok (by decide +kernel) hx hm hk hn hf h hs si ni p
inductive SEL(P:Px):List Expr->Aq->Prop
 |nil:SEL P [] .nil
 |cons {la a aes es}:notStar la=true->SE P la a->SEL P aes es->SEL P (la::aes) (.cons a es)
theorem SEL.ses{aes:List Expr}{es:Aq}(h:SEL P aes es):SEs P aes es:=by
 induction h with
 |nil=>exact ajo
 |cons hn ha _ ih=>exact aie hn ha ih
inductive KeysAre:List (Option Expr)->List String->Prop
 |nil:KeysAre [] []
 |cons {k x n pos ks xs}:k=some (.Constant (.str (Str.ofString x)) n pos)->KeysAre ks xs->KeysAre (k::ks) (x::xs)
theorem KeysAre.all{ks:List (Option Expr)}{xs:List String}(h:KeysAre ks xs):ks.all (·.isSome)=true:=by
 induction h with
 |nil=>rfl
 |cons h _ ih=>subst h;simpa using ih
theorem T6{env:Env}{pos:Pos}{aes:List Expr}{es:Aq}(hl:SEL P aes es):∀{keys:List (Option Expr)}{ks:List String},KeysAre keys ks->keys.length=aes.length->
 ∀(ρ:Loc) (c:Cfg) (s:Shared) (Q:List (Value×Value)->Shared->Prop) (E:QV),env=P.env->s.heap=c.h->P.SI c->P.NI c ρ->
  P.Post [] c s (Bl P.cf ρ es c.st) (λ c' kvs l=>∃vs,p8 P.prog P.w P.C c'.B vs l/\vs.length=ks.length/\Carries (PySem.strKind P.prog P.w) kvs ((ks.map Str.ofString).zip vs)) Q E->
  wpAny P.M P.A (evalPairs (pairTrees keys aes env pos)) Q E s:=by
 induction hl with
 |nil=>
  intro keys ks hk hlen ρ c s Q E he hs si ni p;cases hk with
  |nil=>
   exact evalPairs_nil (ji s.toks hs p si ⟨[],.nil _,rfl,trivial⟩)
  |cons _ _=>simp at hlen
 | @cons la a aes es hn ha _ ih=>
  intro keys ks hk hlen ρ c s Q E he hs si ni p;subst he;cases hk with
  |nil=>simp at hlen
  | @cons k x n kp ks' xs hk hks=>
   subst hk;refine evalPairs_cons (wpAny_Constant_str ?_);refine wpAny_bind (ha ρ c _ _ E hs si ni (iz.seq (s:={ s with toks:=s.toks+1 }) si.frames p λ y v cC tk siB stB ra pB=>?_));refine wpAny_bind (wpAny_standAt (wpAny_pure ?_));refine ih hks (by simpa using hlen) ρ cC _ _ E rfl rfl siB (ni.step si.frames stB) (iz.seq siB.frames pB λ ys kvs cD tkC siC stD rs pC=>?_)
   obtain⟨vs,r1,r2,r3⟩:=rs;exact ji tkC rfl pC siC ⟨v::vs,.cons (ra.mono stD.base) r1,by simp[r2],strKind_is P.prog P.w _ _,rfl,r3⟩
theorem Ls{kvs acc:List (Str×Value)}(h:((acc++kvs).map (·.1)).Nodup):merged acc kvs=acc++kvs:=by
 induction kvs generalizing acc with
 |nil=>simp[merged]
 |cons p r ih=>
  obtain⟨k,v⟩:=p;have hst:stored acc k v=acc++[(k,v)]:=by
   unfold stored;rw[bx];simp only[List.any_eq_true,decide_eq_true_eq,not_exists,not_and];intro q hq e;rw[nu]at h;exact(j8.mp h).2.2 q.1 (kj.mpr ⟨q,hq,rfl⟩) k (by simp) e
  have:merged acc ((k,v)::r)=merged (stored acc k v) r:=rfl;rw[this,hst,ih (by simpa using h)]
  simp
theorem Zn{B:Heap}{vs:List Value}:∀{ks:List String}{ds:List V},p8 P.prog P.w P.C B vs ds->vs.length=ks.length->Dr P.prog P.w P.C B ((ks.map Str.ofString).zip vs) (ks.zip ds):=by
 induction vs with
 |nil=>
  intro ks ds h e;obtain rfl:=yc h;obtain rfl:ks=[]:=u5 e.symm;exact .nil _
 |cons v vs ih=>
  intro ks ds h e;obtain⟨d,r,rfl,hd,hr⟩:=uh h
  induction ks using List.casesOn with
  |nil=>exact nomatch e
  |cons k ks=>exact .cons hd (ih hr (Nat.succ.inj e))
theorem Im{ks:List String}(h:ks.Nodup):(ks.map Str.ofString).Nodup:=by
 induction ks with
 |nil=>simp
 |cons k r ih=>
  obtain⟨h1,h2⟩:=jl.mp h;refine jl.mpr ⟨λ q=>?_,ih h2⟩;obtain⟨y,hy,e⟩:=kj.mp q;exact h1 (u0 e▸hy)
theorem ap3(ok:P.Ok){keys:List (Option Expr)}{ks:List String}{aes:List Expr}{es:Aq}{pos:Pos}(hk:KeysAre keys ks)(hlen:keys.length=aes.length)(h0:keys≠[])(h15:keys.length<=15)(h:SEL P aes es):
 SE P (.Dict keys aes pos) (.dct ks es):=by
 intro ρ c s Q E hs si ni p;refine wpAny_Dict_any hk.all hlen h0 h15 ?_;obtain⟨cB,ch,clay,cst⟩:=c;simp only at hs;subst hs;obtain⟨siB,stB⟩:=si.push (h':=s.heap.push { cls:=.type "dict",data:=.dict #[] }) λ b o e=>Heap.get?_push_of_some _ e;have fr:s.heap.get? s.heap.objs.size=none:=zf;have hd:=xr si fr;have hdE:Hid P ⟨cB,s.heap.push { cls:=.type "dict",data:=.dict #[] },clay,cst⟩ s.heap.objs.size:=⟨hd.out,hd.nl,hd.nf⟩;have pB:=iz.after (tk:=s.toks) si.frames stB p;have pk:=p;refine T6 h hk hlen ρ ⟨cB,s.heap.push { cls:=.type "dict",data:=.dict #[] },clay,cst⟩ _ _ E rfl rfl siB (ni.step si.frames stB) ?_;show P.Post [] _ _ (Bl P.cf ρ es cst) _ _ E;have pB':P.Post [] _ _ ((Bl P.cf ρ es cst).bind _) _ _ E:=pB;have pk':P.Post [] _ s ((Bl P.cf ρ es cst).bind _) _ Q E:=pk
 generalize Bl P.cf ρ es cst=T at pB' pk' ⊢
 induction T with
 |bad=>exact pB'.elim
 |exc x st'=>exact pB'
 |ok l st'=>
  rintro kvs cD tkC hst siC stD ⟨vs,r1,r2,r3⟩;subst hst;simp only[R.bind]at pk'
  split at pk'
  ·rename_i hz;obtain⟨hz1,hz2,hz3⟩:=hz;obtain⟨hdF,hoE⟩:=hdE.step (Heap.get?_push_size _ rfl) stD;have hnew:cD.h.DictOf (PySem.strKind P.prog P.w) s.heap.objs.size []:=v8 (h:=s.heap.push { cls:=.type "dict",data:=.dict #[] }) (λ o e=>by rw[Heap.get?_push_size _ rfl]at e;(first|exact bh e|obtain rfl:=ao e|cases e);exact hoE) (Heap.DictOf.new s.heap)
   refine wpAny_storeAll kvs ((ks.map Str.ofString).zip vs) [] _ _ r3 hnew (ajf hz3) λ h' hm hsb=>?_;have hkeys:(((ks.map Str.ofString).zip vs).map (·.1)).Nodup:=by
    have:((ks.map Str.ofString).zip vs).map (·.1)=ks.map Str.ofString:=by
     rw[show((·.1):Str×Value->Str)=Prod.fst from rfl,List.map_fst_zip (by rw[bw,r2];exact jf _)]
    rw[this];exact Im hz2
   rw[Ls (by simpa using hkeys),List.nil_append]at hm
   obtain⟨siD,stG,bD,inn⟩:=si.adopt siC (stB.trans si.frames stD) (h':=h') (Z:=[s.heap.objs.size]) (by
    intro a ha;simp only[gb,uw,or_false]at ha;subst ha;exact⟨.inl fr,hdF.out,hdF.nl,hdF.nf⟩) (λ b o hb e=>(hsb.2 b (λ q=>hb (by simp[q]))).trans e) (λ a=>a==s.heap.objs.size) (λ a ha=>by
     have:a=s.heap.objs.size:=by simpa using ha
     simp[this])
   exact pk' (.ref s.heap.objs.size) ⟨mask h' λ a=>(cD.B.get? a).isSome||a==s.heap.objs.size,h',cD.lay,cD.st⟩ _ rfl siD stG
    (.dict (m8.mpr (Nat.ne_of_gt (Qk ok si))) (v8 (λ o e=>inn _ (by simp) o e) hm) (Zn (r1.mono bD) r2))
  ·exact pk'.elim
end Mine.Internal
namespace Mine.Internal
variable{P:Px}
structure Px.Fun(P:Px):Prop where
 ok:P.Ok
 cnd:(P.env.cells.map (·.2)).Nodup
 own:P.env.frame=some P.env.locals
 top:∃outer,P.l=P.env::outer
noncomputable abbrev Px.W(P:Px):List Addr:=P.env.locals::P.env.cells.map (·.2)
theorem Px.Fun.mem(f:P.Fun):P.env.locals∈frs P.l:=by
 obtain⟨outer,h⟩:=f.top;unfold frs;rw[h,oh];simp[f.own]
theorem Uz{h:Heap}{a:Addr}{m m':Str->Option Value}(x:h.Ns a m)(y:h.Ns a m'):m=m':=by
 obtain⟨o,es,ep,ho,hd,_,hf⟩:=x;obtain⟨o',es',ep',ho',hd',_,hf'⟩:=y;rw[ho]at ho';(first|exact bh ho'|obtain rfl:=ao ho'|cases ho');rw[hd]at hd';(first|exact bh hd'|obtain rfl:=ao hd'|cases hd')
 funext z
 rw[<-hf z,hf' z]
theorem Qv{β : Type}{x y:String}{b : β}:∀{ρ:List (String×β)},lk y (put x b ρ)=if y=x then some b else lk y ρ
 |[]=>by simp[put,lk]
 |(z,c)::r=>by
  rw[Cm]
  by_cases hx:x=z
  ·subst hx;rw[bf rfl,Al,Al]
   split<;>rfl
  ·rw[bx hx,Al,Al]
   by_cases hy:y=z
   ·subst hy;rw[bf rfl,bf rfl,bx (Ne.symm hx)]
   ·rw[bx hy,bx hy];exact Qv
theorem Ad{h h' base base':Heap}:∀{l:List Env},h.FunFrames base l->(∀L∈frs l,∀o,h.get? L=some o->(∀vs,o.data≠.fields vs)->∃o',h'.get? L=some o'/\∀vs,o'.data≠.fields vs)->
 (∀L∈frs l,base.get? L=none->base'.get? L=none)->h'.FunFrames base' l
 |[],_,_,_=>trivial
 |env::r,x,k,kb=>by
  obtain⟨h1,⟨L,o,h2,h3,h4,h5⟩,h6⟩:=x;have hm:L∈frs (env::r):=by simp[frs,h2]
  have hr:∀L∈frs r,L∈frs (env::r):=λ L' h=>by
   unfold frs at h⊢;rw[oh]
   split
   ·exact h
   ·exact bk _ h
  obtain⟨o',q1,q2⟩:=k L hm o h4 h5;exact⟨h1,⟨L,o',h2,kb L hm h3,q1,q2⟩,Ad h6 (λ L hL=>k L (hr L hL)) λ L hL=>kb L (hr L hL)⟩
theorem SI.same{c:Cfg}(si:P.SI c){a:Addr}{o:Obj}{h':Heap}{W:List Addr}(ha:c.h.get? a=some o)(hB:c.B.get? a=none)(hl:a∉c.live)(hW:a∈W)(nf:∀vs,o.data≠.fields vs)(hs:Heap.SameBut a c.h h'){o':Obj}(ho':h'.get? a=some o')(nf':∀vs,o'.data≠.fields vs):
 P.SI ⟨c.B,h',c.lay,c.st⟩/\Step P.l W c ⟨c.B,h',c.lay,c.st⟩:=by
 have st:c.B.StaysIn h':=λ b o e=>(hs.2 b (λ q=>by subst q;rw[hB]at e;(first|exact bh e|obtain rfl:=ao e|cases e))).trans (si.stay _ _ e)
 refine⟨⟨si.h0,st,Ad si.frames (λ b _ o e hn=>?_) (λ _ _ e=>e),si.store.keeps (lu _) (λ b hb o e=>(hs.2 b (λ q=>hl (q▸hb))).trans e) si.store.out,si.frl⟩,
  ⟨λ b o e _ hw _=>(hs.2 b (λ q=>hw (q▸hW))).trans e,λ b _ o e _ hw _=>⟨o.slots,(hs.2 b (λ q=>hw (q▸hW))).trans e⟩,λ b _ _ o e hn=>?_,λ b _ _ e=>?_,λ a h=>.inr h,lu _,λ a h1 h2=>absurd h1 h2,λ i a as e=>⟨as,e⟩⟩⟩
 ·by_cases q:b=a
  ·subst q;exact⟨o',ho',nf'⟩
  ·exact⟨o,(hs.2 b q).trans e,hn⟩
 ·by_cases q:b=a
  ·subst q;exact⟨o',ho',nf'⟩
  ·exact⟨o,(hs.2 b q).trans e,hn⟩
 ·by_cases q:b=a
  ·subst q;show h'.get? b≠none;rw[ho'];exact λ q=>nomatch q
  ·show h'.get? b≠none;rw[hs.2 b q];exact e
theorem Lx{α β : Type}{l:List (α×β)}{a : α}{b : β}(h:(a,b)∈l):b∈l.map (·.2):=kj.mpr ⟨(a,b),h,rfl⟩
theorem afb{α β : Type}{l:List (α×β)}(hn:(l.map (·.2)).Nodup){x y : α}{b : β}(h1:(x,b)∈l)(h2:(y,b)∈l):x=y:=by
 induction l with
 |nil=>exact nomatch h1
 |cons p r ih=>
  obtain⟨n1,n2⟩:=jl.mp hn;rcases gb.mp h1 with e1|e1
  ·rcases gb.mp h2 with e2|e2
   ·rw[<-e1]at e2;(first|exact bh e2|obtain rfl:=ao e2|cases e2);rfl
   ·exact absurd (Lx e2) (by rw[<-e1]at n1;exact n1)
  ·rcases gb.mp h2 with e2|e2
   ·exact absurd (Lx e1) (by rw[<-e2]at n1;exact n1)
   ·exact ih n2 e1 e2
theorem lookup_mem{l:List (Str×Addr)}{x:Str}{a:Addr}(h:l.lookup x=some a):(x,a)∈l:=by
 obtain⟨l1,l2,e,_⟩:=List.lookup_eq_some_iff.mp h;rw[e];simp
theorem Ea(f:P.Fun){x:String}{b:qp}{v:Value}{ρ:Loc}{c:Cfg}{s:Shared}{Q:Unit->Shared->Prop}{E:QV}(hs:s.heap=c.h)(si:P.SI c)(ni:P.NI c ρ)
 (hx:P.env.kindOf (Str.ofString x)=some .local\/P.env.kindOf (Str.ofString x)=some .cell) (hb:um P.prog P.w P.C c.B c.lay b v)
 (k:∀c' tk,c'.st=c.st->P.SI c'->Step P.l P.W c c'->P.NI c' (put x b ρ)->Q () { s with heap:=c'.h,toks:=tk }):wpAny P.M P.A (storeName P.env (Str.ofString x) v) Q E s:=by
 obtain⟨cB,ch,clay,cst⟩:=c;simp only at hs;subst hs;have ni0:=ni;obtain⟨fn,lb,ll,⟨m,ln⟩,cl,names⟩:=ni;simp only at lb ll ln cl names hb;obtain⟨oL,es,ep,hoL,hdL,hrest⟩:=id ln;have nfL:∀vs,oL.data≠.fields vs:=λ vs q=>by rw[hdL]at q;(first|exact bh q|obtain rfl:=ao q|cases q)
 have cneq:∀n a,(n,a)∈P.env.cells->a≠P.env.locals:=λ n a hm q=>by
  obtain⟨_,_,_,v,o,ho,hd⟩:=cl n a hm;rw[q,hoL]at ho;(first|exact bh ho|obtain rfl:=ao ho|cases ho);rw[hdL]at hd;(first|exact bh hd|obtain rfl:=ao hd|cases hd)
 rcases hx with hx|hx
 ·have hp:(P.env.scope.kind==.class||(P.env.scope.kind==.module&&P.env.locals != P.env.globals))=false:=by rw[fn];rfl
  refine wpAny_storeName_local hx ln (λ h' hn' hsb=>?_) hp;obtain⟨oL',es',ep',hoL',hdL',_⟩:=id hn';obtain⟨si',st'⟩:=si.same (W:=P.W) hoL lb ll (by simp) nfL hsb hoL' (λ vs q=>by rw[hdL']at q;(first|exact bh q|obtain rfl:=ao q|cases q))
  refine k ⟨cB,h',clay,cst⟩ (s.toks+1) rfl si' st' ⟨fn,lb,ll,⟨_,hn'⟩,λ n a hm=>?_,λ y b' hy=>?_⟩
  ·obtain⟨h1,h2,h3,v,o,ho,hd⟩:=cl n a hm;exact⟨h1,h2,h3,v,o,(hsb.2 a (cneq n a hm)).trans ho,hd⟩
  ·rw[Qv]at hy
   split at hy
   ·rename_i q;subst q
    (first|exact bh hy|obtain rfl:=ao hy|cases hy)
    exact⟨v,.inl ⟨hx,_,hn',by simp⟩,hb⟩
   ·rename_i q;obtain⟨u,hu,hbu⟩:=names y b' hy;refine⟨u,?_,hbu⟩;rcases hu with⟨k1,m2,k2,k3⟩|⟨k1,a,k2,o,k3,k4⟩
    ·refine .inl ⟨k1,_,hn',?_⟩;show(if Str.ofString y=Str.ofString x then some v else m (Str.ofString y))=some u
     rw[bx (Bf q),Uz ln k2];exact k3
    ·exact .inr ⟨k1,a,k2,o,(hsb.2 a (cneq _ a (lookup_mem k2))).trans k3,k4⟩
 ·obtain⟨a,ha⟩:=f.ok.ev.cel _ hx;have hma:=lookup_mem ha;obtain⟨a1,a2,a3,v0,oa,hoa,hda⟩:=cl _ a hma;refine wpAny_storeName_cell (c:=a) (v₀:=v0) fn hx ha ⟨oa,hoa,hda⟩ λ h' hc' hsb=>?_;obtain⟨oa',hoa',hda'⟩:=id hc';obtain⟨si',st'⟩:=si.same (W:=P.W) hoa a1 a2 (bk _ (Lx hma)) (λ vs q=>by rw[hda]at q;(first|exact bh q|obtain rfl:=ao q|cases q)) hsb hoa' (λ vs q=>by rw[hda']at q;(first|exact bh q|obtain rfl:=ao q|cases q))
  have hL':h'.get? P.env.locals=some oL:=(hsb.2 _ (Ne.symm (cneq _ a hma))).trans hoL;refine k ⟨cB,h',clay,cst⟩ s.toks rfl si' st' ⟨fn,lb,ll,⟨m,oL,es,ep,hL',hdL,hrest⟩,λ n b' hm=>?_,λ y b' hy=>?_⟩
  ·obtain⟨h1,h2,h3,v',o,ho,hd⟩:=cl n b' hm
   by_cases q:b'=a
   ·subst q;exact⟨h1,h2,h3,some v,hc'⟩
   ·exact⟨h1,h2,h3,v',o,(hsb.2 b' q).trans ho,hd⟩
  ·rw[Qv]at hy
   split at hy
   ·rename_i q;subst q
    (first|exact bh hy|obtain rfl:=ao hy|cases hy)
    exact⟨v,.inr ⟨.inl hx,a,ha,hc'⟩,hb⟩
   ·rename_i q;obtain⟨u,hu,hbu⟩:=names y b' hy;refine⟨u,?_,hbu⟩;rcases hu with⟨k1,m2,k2,k3⟩|⟨k1,a',k2,o,k3,k4⟩
    ·refine .inl ⟨k1,m,⟨oL,es,ep,hL',hdL,hrest⟩,?_⟩;rw[Uz ln k2];exact k3
    ·have hne:a'≠a:=λ z=>by
      subst z;exact Bf q (afb f.cnd (lookup_mem k2) hma)
     exact .inr ⟨k1,a',k2,o,(hsb.2 a' hne).trans k3,k4⟩
noncomputable def Q7(P:Px)(c:Cfg)(f:Flow):Fl->Prop
 |.next ρ=>f=.next/\P.NI c ρ
 |.ret d=>∃v,f=.ret v/\P.RP c.B v d
noncomputable def SS(P:Px)(can:Bool)(ae:Stmt)(e:St):Prop:=∀(ρ:Loc) (c:Cfg) (s:Shared) (Q:Flow->Shared->Prop) (E:QV),s.heap=c.h->P.SI c->P.NI c ρ->
 P.Post P.W c s (exS P.cf can e ρ c.st) (λ c' v d=>Q7 P c' v d) Q E->wpAny P.M P.A (exec ae P.env) Q E s
noncomputable def SSs(P:Px)(can:Bool)(ae:List Stmt)(e:u9):Prop:=∀(ρ:Loc) (c:Cfg) (s:Shared) (Q:Flow->Shared->Prop) (E:QV),s.heap=c.h->P.SI c->P.NI c ρ->
 P.Post P.W c s (dw P.cf can e ρ c.st) (λ c' v d=>Q7 P c' v d) Q E->wpAny P.M P.A (execs ae P.env) Q E s
theorem iz.wide{α β : Type}{c:Cfg}{s:Shared}{r:R α}{rel:Cfg->β->α->Prop}{Q : β->Shared->Prop}{E:QV}(hf:c.h.FunFrames c.B P.l)(p:P.Post P.W c s r rel Q E):P.Post [] c s r rel Q E:=by
 induction r with
 |ok d st'=>exact λ v c' tk e si st hr=>p v c' tk e si (st.wider hf λ _ h=>nomatch h) hr
 |exc x st'=>
  intro e h' B' Bx lay' tk fl ex;refine p e h' B' Bx lay' tk fl ⟨ex.base,ex.inx,ex.store,ex.frl,λ b o e1 e2 _ e4=>ex.keep b o e1 e2 (λ h=>nomatch h) e4,λ b hb o e1 e2 _ e4=>ex.fr b hb o e1 e2 (λ h=>nomatch h) e4,ex.frw,ex.live,ex.new,ex.heads⟩
 |bad=>exact p.elim
theorem iz.expr{α α' β β':Type}{c:Cfg}{s:Shared}{r:R α}{f : α->Store->R α'}{rel:Cfg->β->α->Prop}{rel':Cfg->β'->α'->Prop}{Q : β'->Shared->Prop}{K : β->Shared->Prop}
 {E:QV}(hf:c.h.FunFrames c.B P.l) (p:P.Post P.W c s (r.bind f) rel' Q E)
 (k:∀d v cC tk,P.SI cC->Step P.l [] c cC->rel cC v d->P.Post P.W cC { s with heap:=cC.h,toks:=tk } (f d cC.st) rel' Q E->K v { s with heap:=cC.h,toks:=tk }):
 P.Post [] c s r rel K E:=by
 induction r with
 |ok d st'=>
  intro v c' tk e si st hr;subst e;exact k d v c' tk si st hr (iz.after hf (st.wider hf λ _ h=>nomatch h) p)
 |exc x st'=>exact iz.wide (r:=(R.exc x st':R α')) hf p
 |bad=>exact p.elim
end Mine.Internal
namespace Mine.Internal
variable{P:Px}{can:Bool}
theorem ajt:SSs P can [] .nil:=by
 intro ρ c s Q E hs si ni p;exact wpAny_execs_nil (ji s.toks hs p si ⟨rfl,ni⟩)
theorem ai0{ast:Stmt}{asts:List Stmt}{σ : St}{σs:u9}(h:SS P can ast σ)(hr:SSs P can asts σs):SSs P can (ast::asts) (.cons σ σs):=by
 intro ρ c s Q E hs si ni p;refine wpAny_execs_cons (h ρ c s _ E hs si ni (iz.seq si.frames p λ fl f cC tk siB stB hf pB=>?_))
 induction fl with
 |next ρ'=>
  obtain⟨rfl,ni'⟩:=hf;exact hr ρ' cC _ Q E rfl siB ni' pB
 |ret d=>
  obtain⟨v,rfl,hv⟩:=hf;exact ji (E:=E) tk rfl pB siB ⟨v,rfl,hv⟩
theorem ap0{la:Expr}{a:Ex}{pos:Pos}(h:SE P la a):SS P can (.Return (some la) pos) (.ret a):=by
 intro ρ c s Q E hs si ni p;refine wpAny_Return_some (h ρ c s _ E hs si ni (iz.expr si.frames p λ d v cC tk siB stB hv pB=>?_));exact ji (E:=E) tk rfl pB siB ⟨v,rfl,hv⟩
theorem ayl{lt:Expr}{t:Ex}{la lb:List Stmt}{a b:u9}{pos:Pos}(ht:ST P lt t)(ha:SSs P can la a)(hb:SSs P can lb b):SS P can (.If lt la lb pos) (.ifs t a b):=by
 intro ρ c s Q E hs si ni p;refine wpAny_If (ht ρ c s _ E hs si ni (iz.expr si.frames p λ d v cC tk siB stB hv pB=>?_));subst hv
 induction v with
 |true=>exact ha ρ cC _ Q E rfl siB (ni.step si.frames stB) pB
 |false=>exact hb ρ cC _ Q E rfl siB (ni.step si.frames stB) pB
noncomputable def Cz:Expr->Bool
 |.ListComp ..|.SetComp ..|.DictComp .. =>false
 | _=>true
theorem zm{e:Expr}{t:Option Expr}{n:Nat}{env:Env}(h:Cz e=true):swapsWith e t n env=pure false:=by
 cases e<;>first|rfl|cases h
theorem Mg{e t:Expr}{n:Nat}{env:Env}(h:Cz e=true):swapsWithSole [t] e n env=pure false:=zm h
theorem Eo(f:P.Fun):interactive P.env=false:=by
 unfold interactive;rw[f.ok.ev.kind];rfl
theorem ap4(f:P.Fun){la:Expr}{a:Ex}{pos:Pos}(hc:Cz la=true)(h:SE P la a):SS P can (.Expr la pos) (.exp a):=by
 intro ρ c s Q E hs si ni p;refine wpAny_Expr_any (h ρ c s _ E hs si ni (iz.expr si.frames p λ d v cC tk siB stB hv pB=>?_)) (Eo f) (zm hc);exact ji (E:=E) tk rfl pB siB ⟨rfl,ni.step si.frames stB⟩
noncomputable def STg(P:Px)(at':Expr)(t:Tg):Prop:=∀(v:Value) (d:V) (ρ:Loc) (c:Cfg) (s:Shared) (Q:Unit->Shared->Prop) (E:QV),s.heap=c.h->P.SI c->P.NI c ρ->P.RP c.B v d->
 P.Post P.W c s (qe P.cf t d ρ c.st) (λ c' _ ρ'=>P.NI c' ρ') Q E->wpAny P.M P.A (PySem.assign at' P.env v) Q E s
theorem atg(f:P.Fun){x:String}{pos:Pos}(hx:P.env.kindOf (Str.ofString x)=some .local\/P.env.kindOf (Str.ofString x)=some .cell):STg P (.Name (Str.ofString x) pos) (.nm x):=by
 intro v d ρ c s Q E hs si ni hv p;have p:P.Post P.W c s (.ok (put x (.val d) ρ) c.st) (λ c' _ ρ'=>P.NI c' ρ') Q E:=p;exact wpAny_assign_Name (Ea f hs si ni hx (b:=.val d) hv λ c' tk e si' st' ni'=>p () c' tk e si' st' ni')
theorem ak3(f:P.Fun){x:String}{lk':Expr}{k:Ex}{np pos:Pos}(hd:uf x=true)(hk:SE P lk' k):STg P (.Subscript (.Name (Str.ofString x) np) lk' pos) (.idx x k):=by
 intro v d ρ c s Q E hs si ni hv p;have e:qe P.cf (.idx x k) d ρ c.st=(match lk x ρ with
  |some b=>(iu P.cf ρ k c.st).bind λ i st=>(match setB b i (.val d) st with|some st=>.ok ρ st|Option.none=>.bad)
  |Option.none=>.bad):=rfl
 rw[e]at p;rw[assign_Subscript];cases hb:lk x ρ with
 |none=>rw[hb]at p;exact p.elim
 |some b=>
  rw[hb]at p;simp only at p;refine wpAny_bind (wpAny_holding (Eb f.ok.ev hs ni hb hd λ ov ho=>?_));refine wpAny_bind (wpAny_holding (hk ρ c s _ E hs si ni (iz.expr si.frames p λ i iv cC tk siB stB hi pB=>?_)));refine wpAny_bind (wpAny_standAt ?_);cases hq:setB b i (.val d) cC.st with
  |none=>rw[hq]at pB;exact pB.elim
  |some st'=>
   rw[hq]at pB;have key:wpAny P.M P.A (setItem ov iv v) Q E { s with heap:=cC.h,toks:=tk }:=
    amq (s:={ s with heap:=cC.h,toks:=tk }) siB rfl (um.step stB ho) hi (hv.mono stB.base) hq λ c' tk' e si' st'=>pB () c' tk' e si' (st'.wider siB.frames λ _ h=>nomatch h) (NI.step siB.frames (ni.step si.frames stB) st')
   refine wpAny_bind (wpAny_holding (wpAny_mono key (λ _ s' hq=>?_) λ _ _ e=>e));exact λ Γ p hΓ =>by rw[Sem.wp_release];exact hq
theorem aia(f:P.Fun){x n:String}{np pos:Pos}(hd:uf x=true)(hn:n∈fieldNames):STg P (.Attribute (.Name (Str.ofString x) np) (Str.ofString n) pos) (.attr x n):=by
 intro v d ρ c s Q E hs si ni hv p;have e:qe P.cf (.attr x n) d ρ c.st=(match lk x ρ with
  |some b=>(match Bh b n d c.st with|some st=>.ok ρ st|Option.none=>.bad)
  |Option.none=>.bad):=rfl
 rw[e]at p;rw[assign_Attribute];cases hb:lk x ρ with
 |none=>rw[hb]at p;exact p.elim
 |some b=>
  rw[hb]at p;simp only at p;refine wpAny_bind (wpAny_holding (Eb f.ok.ev hs ni hb hd λ ov ho=>?_));refine wpAny_bind (wpAny_standAt ?_);cases hq:Bh b n d c.st with
  |none=>rw[hq]at p;exact p.elim
  |some st'=>
   rw[hq]at p;have key:wpAny P.M P.A (setAttr ov (Str.ofString n) v) Q E s:=
    Zc si hs (Kr f.ok si) (f.ok.wd.attrs n hn) f.ok.wd.sa f.ok.wd.po ho hv hq λ c' tk' e si' st'=>p () c' tk' e si' (st'.wider si.frames λ _ h=>nomatch h) (NI.step si.frames ni st')
   refine wpAny_bind (wpAny_holding (wpAny_mono key (λ _ s' hq=>?_) λ _ _ e=>e));exact λ Γ p hΓ =>by rw[Sem.wp_release];exact hq
noncomputable def ajg(P:Px)(ats:List Expr)(ts:Uu):Prop:=∀(vs:List Value) (ds:List V) (ρ:Loc) (c:Cfg) (s:Shared) (Q:Unit->Shared->Prop) (E:QV),s.heap=c.h->P.SI c->P.NI c ρ->p8 P.prog P.w P.C c.B vs ds->
 P.Post P.W c s (Gg P.cf ts ds ρ c.st) (λ c' _ ρ'=>P.NI c' ρ') Q E->wpAny P.M P.A (assignInOrder ((assignEach ats P.env).map (·.2)) vs) Q E s
theorem Gl{t:Expr}{r:List Expr}{env:Env}(h:notStar t=true):assignEach (t::r) env=(false,PySem.assign t env)::assignEach r env:=by
 cases t<;>first|rfl|cases h
theorem af0:ajg P [] .nil:=by
 intro vs ds ρ c s Q E hs si ni hv p;cases hv with
 |nil=>
  exact wpAny_pure (ji (rel:=λ c' _ ρ'=>P.NI c' ρ') s.toks hs p si ni)
 |cons _ _=>exact p.elim
theorem afr{a:Expr}{t:Tg}{ats:List Expr}{ts:Uu}(hn:notStar a=true)(h:STg P a t)(hr:ajg P ats ts):ajg P (a::ats) (.cons t ts):=by
 intro vs ds ρ c s Q E hs si ni hv p;rw[Gl hn];cases hv with
 |nil=>exact p.elim
 | @cons v vs d ds rv rvs=>
  show wpAny P.M P.A (do holding vs (PySem.assign a P.env v);assignInOrder ((assignEach ats P.env).map (·.2)) vs) Q E s
  refine wpAny_bind (wpAny_holding (h v d ρ c s _ E hs si ni rv (iz.seq si.frames p λ ρ' _ cC tk siB stB niB pB=>?_)));exact hr vs ds ρ' cC _ Q E rfl siB niB (rvs.mono stB.base) pB
theorem Ln:∀{ats:List Expr}{env:Env},Ak ats=true->(assignEach ats env).findIdx? (·.1)=none/\(assignEach ats env).length=ats.length
 |[],_,_=>⟨rfl,rfl⟩
 |e::r,env,h=>by
  simp only[Ak,sy]at h;rw[Gl h.1];obtain⟨h1,h2⟩:=Ln (env:=env) h.2;exact⟨by simp[List.findIdx?_cons,h1],by simp[h2]⟩
theorem aj6(f:P.Fun){ats:List Expr}{ts:Uu}{k:Nat}{pos:Pos}(hn:Ak ats=true)(hl:ats.length=Kf ts)(h:ajg P ats ts):STg P (.Tuple ats k pos) (.tup ts):=by
 intro v d ρ c s Q E hs si ni hv p;obtain⟨n,room⟩:=f.ok.room
 induction d using V.casesOn with
 |tuple ds=>
  obtain⟨hz,p⟩:=iz.ifs p;obtain⟨a,vs,m,rfl,ha,rv⟩:=vm hv;obtain⟨e1,e2⟩:=Ln (env:=P.env) hn;refine wpAny_assign_Tuple (items:=vs.toArray) room.hh ⟨_,hs▸si.stay _ _ ha,rfl,m,rfl⟩ (by rw[e2,hl,gn,rv.length,hz.2]) e1 λ h' hx=>?_
  rw[hs]at hx;obtain⟨siB,stB⟩:=si.push (h':=h') λ b o e=>hx b o (qz (Heap.lt_size e)) e;have pB:=iz.after (tk:=s.toks) si.frames (stB.wider si.frames (W':=P.W) λ _ h=>nomatch h) p;exact h vs ds ρ ⟨c.B,h',c.lay,c.st⟩ _ Q E rfl siB (ni.step si.frames stB) rv pB
 | _=>exact p.elim
theorem aag{cf:CF}{t:Tg}{e:Ex}(hd:Ba e=false)(ρ:Loc)(st:Store):exS cf can (.asg t e) ρ st=(iu cf ρ e st).bind λ v st=>(qe cf t v ρ st).bind λ ρ st=>.ok (.next ρ) st:=by
 show(assign cf t e ρ st).bind _ = _;have:assign cf t e ρ st=(iu cf ρ e st).bind λ v st=>qe cf t v ρ st:=by
  delta assign
  rw[hd];cases t<;>rfl
 rw[this];cases iu cf ρ e st<;>rfl
theorem apm{at' av:Expr}{t:Tg}{e:Ex}{pos:Pos}(hd:Ba e=false)(hc:Cz av=true)(hn:notStar at'=true)(hw:swappedStores [at'] av P.env=pure none)(ht:STg P at' t)(he:SE P av e):
 SS P can (.Assign [at'] av pos) (.asg t e):=by
 intro ρ c s Q E hs si ni p;rw[aag hd]at p;refine wpAny_Assign_stores ?_ (Mg hc) hw;refine he ρ c s _ E hs si ni (iz.expr si.frames p λ d v cC tk siB stB hv pB=>?_);rw[Gl hn];show wpAny P.M P.A (PySem.assign at' P.env v) _ _ _;refine ht v d ρ cC _ _ E rfl siB (ni.step si.frames stB) hv (iz.seq siB.frames pB λ ρ' _ cD tkC siC stD niC pC=>?_);exact ji (E:=E) tkC rfl pC siC ⟨rfl,niC⟩
end Mine.Internal
namespace Mine.Internal
variable{P:Px}{can:Bool}
noncomputable def Hv:List String->Uu
 |[]=>.nil
 |x::r=>.cons (.nm x) (Hv r)
noncomputable def putAll(l:List (String×V))(ρ:Loc):Loc:=l.foldl (λ ρ p=>put p.1 (.val p.2) ρ) ρ
theorem Lr:∀xs,Kf (Hv xs)=xs.length
 |[]=>rfl
 | _::r=>by simp[Hv,Kf,Lr r]
theorem Mh{cf:CF}:∀{xs:List String}{ds:List V}{ρ:Loc}{st:Store},ds.length=xs.length->Gg cf (Hv xs) ds ρ st=.ok (putAll (xs.zip ds) ρ) st
 |[],[],_,_,_=>rfl
 |x::xs,d::ds,ρ,st,h=>(Mh (Nat.succ.inj h):Gg cf (Hv xs) ds (put x (.val d) ρ) st = _)
 |[],_::_,_,_,h=>nomatch h
 | _::_,[],_,_,h=>nomatch h
theorem NI.congr{c:Cfg}{ρ ρ':Loc}(ni:P.NI c ρ)(h:∀y,lk y ρ'=lk y ρ):P.NI c ρ':=⟨ni.fn,ni.lb,ni.ll,ni.ln,ni.cl,λ y b hy=>ni.names y b ((h y).symm.trans hy)⟩
theorem putAll_snoc(l:List (String×V))(x:String)(d:V)(ρ:Loc):putAll (l++[(x,d)]) ρ=put x (.val d) (putAll l ρ):=by simp[putAll]
theorem Xa{x z:String}(h:x≠z)(d e:V)(ρ:Loc)(y:String):lk y (put x (.val d) (put z (.val e) ρ))=lk y (put z (.val e) (put x (.val d) ρ)):=by
 simp only[Qv]
 by_cases h1:y=x
 ·subst h1;simp[h]
 ·simp[h1]
theorem Le{ρ ρ':Loc}(h:∀y,lk y ρ=lk y ρ')(x:String)(b:qp):∀y,lk y (put x b ρ)=lk y (put x b ρ'):=λ y=>by simp only[Qv,h]
theorem Py(l:List (String×V)):∀{ρ ρ':Loc},(∀y,lk y ρ=lk y ρ')->∀y,lk y (putAll l ρ)=lk y (putAll l ρ'):=by
 induction l with
 |nil=>exact λ h=>h
 |cons p r ih=>exact λ h=>ih (Le h _ _)
theorem S9{x:String}{d:V}:∀(l:List (String×V))(ρ:Loc),x∉l.map (·.1)->∀y,lk y (putAll l (put x (.val d) ρ))=lk y (put x (.val d) (putAll l ρ)):=by
 intro l
 induction l with
 |nil=>exact λ _ _ _=>rfl
 |cons p r ih=>
  intro ρ h y;simp only[je,gb,not_or]at h;show lk y (putAll r (put p.1 (.val p.2) (put x (.val d) ρ)))=lk y (put x (.val d) (putAll r (put p.1 (.val p.2) ρ)));rw[<-ih (put p.1 (.val p.2) ρ) h.2 y];exact Py r (Xa (Ne.symm h.1) _ _ ρ) y
theorem Sg:∀(l:List (String×V))(ρ:Loc),(l.map (·.1)).Nodup->∀y,lk y (putAll l.reverse ρ)=lk y (putAll l ρ)
 |[],_,_,_=>rfl
 |p::r,ρ,h,y=>by
  obtain⟨h1,h2⟩:=jl.mp h;rw[List.reverse_cons,putAll_snoc];show _ = lk y (putAll r (put p.1 (.val p.2) ρ));rw[S9 r ρ h1 y];exact Le (Sg r ρ h2) _ _ y
theorem ais(f:P.Fun){vs:List Value}:∀{xs:List String}{ds:List V}{ρ:Loc}{c:Cfg}{s:Shared}{Q:Unit->Shared->Prop}{E:QV},s.heap=c.h->P.SI c->P.NI c ρ->p8 P.prog P.w P.C c.B vs ds->vs.length=xs.length->
 (∀x∈xs,P.env.kindOf (Str.ofString x)=some .local)->(∀c' tk,c'.st=c.st->P.SI c'->Step P.l P.W c c'->P.NI c' (putAll (xs.zip ds) ρ)->Q () { s with heap:=c'.h,toks:=tk })->
 wpAny P.M P.A (assignInOrder (xs.map λ n=>bindName P.env (Str.ofString n)) vs) Q E s:=by
 induction vs with
 |nil=>
  intro xs ds ρ c s Q E hs si ni rv hl hx k;obtain rfl:=yc rv;obtain rfl:xs=[]:=u5 hl.symm;have:=k c s.toks rfl si (Step.refl _ _) ni;rw[<-hs]at this;exact wpAny_pure this
 |cons v vs ih=>
  intro xs ds ρ c s Q E hs si ni rv hl hx k;obtain⟨d,ds,rfl,r,rs⟩:=uh rv
  induction xs using List.casesOn with
  |nil=>exact nomatch hl
  |cons x xs=>
   refine wpAny_bind (wpAny_holding (wpAny_bindName (Ea f hs si ni (.inl (hx x (f9 ..))) (b:=.val d) r λ cC tk eE siB stB niB=>?_)));exact ih (c:=cC) rfl siB niB (rs.mono stB.base) (Nat.succ.inj hl) (λ x h=>hx x (bk _ h)) λ cD tkC eG siC stD niC=>k cD tkC (eG.trans eE) siC (stB.trans si.frames stD) niC
theorem ad3{α β : Type}:∀(xs:List α)(ys:List β),xs.length=ys.length->xs.reverse.zip ys.reverse=(xs.zip ys).reverse
 |[],[],_=>rfl
 |x::xs,y::ys,h=>by
  have h':xs.length=ys.length:=by simpa using h
  rw[List.reverse_cons,List.reverse_cons,List.zip_append (by simpa using h'),ad3 xs ys h']
  show _ = ((x,y)::xs.zip ys).reverse;rw[List.reverse_cons]
  rfl
 |[],_::_,h=>nomatch h
 | _::_,[],h=>nomatch h
theorem ak4(f:P.Fun){ats:List Expr}{av:Expr}{k:Nat}{tp pos:Pos}{xs:List String}{e:Ex}(hd:Ba e=false)(hc:Cz av=true)(hw:swappedStores [.Tuple ats k tp] av P.env=pure (some (xs.map Str.ofString)))
 (hx:∀x∈xs,P.env.kindOf (Str.ofString x)=some .local) (hnd:xs.Nodup) (he:SE P av e):SS P can (.Assign [.Tuple ats k tp] av pos) (.asg (.tup (Hv xs)) e):=by
 intro ρ c s Q E hs si ni p;obtain⟨n,room⟩:=f.ok.room;rw[aag hd]at p;rw[exec_Assign_arm];refine wpAny_bind (wpAny_standAt ?_);rw[Mg hc];refine wpAny_bind (wpAny_pure ?_);rw[bx (by decide)]
 refine wpAny_bind (he ρ c s _ E hs si ni (iz.expr si.frames p λ d v cC tk siB stB hv pB=>?_));rw[hw];refine wpAny_bind (wpAny_pure ?_)
 induction d using V.casesOn with
 |tuple ds=>
  obtain⟨⟨hz1,hz2⟩,pB⟩:=iz.ifb pB;rw[Lr]at hz2;rw[Mh hz2]at pB;obtain⟨a,vs,m,rfl,ha,rv⟩:=vm hv;have hlv:vs.length=xs.length:=rv.length.trans hz2;show wpAny P.M P.A (do rule "assign.swapped-stores";let items <-unpackItems (.ref a) (xs.map Str.ofString).length none;assignInOrder ((xs.map Str.ofString).reverse.map λ n=>bindName P.env n) items.reverse;pure .next) Q E _
  refine wpAny_bind (wpAny_rule ?_);have hsz:(xs.map Str.ofString).length=vs.toArray.size:=by simp[hlv]
  rw[hsz];refine wpAny_bind (wpAny_unpackItems_tuple room.hh ⟨_,siB.stay _ _ ha,rfl,m,rfl⟩ λ h' hx'=>?_);dsimp only at hx' ⊢;obtain⟨siC,stD⟩:=siB.push (h':=h') λ b o e=>hx' b o (qz (Heap.lt_size e)) e;have hrev:(xs.map Str.ofString).reverse.map (λ n=>bindName P.env n)=xs.reverse.map λ n=>bindName P.env (Str.ofString n):=by
   rw[<-List.map_reverse,List.map_map];rfl
  rw[hrev];refine wpAny_bind (ais f (xs:=xs.reverse) (vs:=vs.reverse) (ds:=ds.reverse) (c:=⟨cC.B,h',cC.lay,cC.st⟩) rfl siC ((ni.step si.frames stB).step siB.frames stD) rv.reverse (by simp[hlv]) (λ x h=>hx x (by simpa using h)) λ cF tkD eH siD stG niD=>?_)
  refine wpAny_pure ?_;have hz3:xs.reverse.zip ds.reverse=(xs.zip ds).reverse:=ad3 _ _ hz2.symm;rw[hz3]at niD;have hkeys:((xs.zip ds).map (·.1)).Nodup:=by
   have:(xs.zip ds).map (·.1)=xs:=List.map_fst_zip (Nat.le_of_eq hz2.symm);rw[this];exact hnd
  have niE:P.NI cF (putAll (xs.zip ds) ρ):=niD.congr λ y=>(Sg _ ρ hkeys y).symm;exact pB .next cF tkD eH siD ((stD.wider siB.frames λ _ h=>nomatch h).trans siB.frames stG) ⟨rfl,niE⟩
 | _=>exact pB.elim
theorem aa1(f:P.Fun){scope:Scope}{x y:String}{caps:List String}{iter elt:Expr}{ifs:List Expr}{it e:Ex}{cond:Ii}{px py pos spos:Pos}(k:I3 P scope x caps)(hfold:∀v,foldedSetIterable iter P.env v=pure v)
 (hsw:swapsWith (.ListComp elt [⟨.Name (Str.ofString x) px,iter,ifs,0⟩] scope pos) (some (.Name (Str.ofString y) py)) spos.line P.env=pure true)
 (hy:P.env.kindOf (Str.ofString y)=some .local\/P.env.kindOf (Str.ofString y)=some .cell)
 (hit:SIt P iter it) (helt:∀Cx,SE (P.comp scope Cx) elt e) (hifs:∀Cx,abp (P.comp scope Cx) ifs cond):
 SS P can (.Assign [.Name (Str.ofString y) py] (.ListComp elt [⟨.Name (Str.ofString x) px,iter,ifs,0⟩] scope pos) spos) (.asg (.nm y) (.comp e x it cond caps)):=by
 intro ρ c s Q E hs si ni p;rw[aag rfl]at p;rw[exec_Assign_Name_used _ _ _ _ hsw];refine wpAny_bind (wpAny_standAt (wpAny_bind ?_));show wpAny _ P.A (do let _ <-comprehension (.ListComp elt [⟨.Name (Str.ofString x) px,iter,ifs,0⟩] scope pos) scope P.env _ (newList []) false (eval iter P.env) (some (PySem.assign (.Name (Str.ofString y) py) P.env))) _ _ s
 have pe:P.Post [] c s (iu P.cf ρ (.comp e x it cond caps) c.st) (λ c' v d=>P.RP c'.B v d) (λ _ _=>True) E:=by
  have p2:=iz.wide si.frames p
  generalize iu P.cf ρ (.comp e x it cond caps) c.st=T at p2 ⊢
  induction T with
  |ok d st'=>exact λ _ _ _ _ _ _ _=>trivial
  |exc q st'=>exact p2
  |bad=>exact p2.elim
 refine wpAny_bind (wpAny_mono (Ro (use:=some (PySem.assign (.Name (Str.ofString y) py) P.env)) (Q:=λ _ s'=>Q .next s') (QQ:=λ _ _=>True) f.ok k hfold hit helt hifs hs si ni pe
  λ D Cx fC cf' tk' l m si' st' r hC hn hev=>?_) (λ _ s' hq=>wpAny_pure (wpAny_pure hq)) λ _ _ e=>e)
 rw[hev]at p;show wpAny P.M P.A (PySem.assign (.Name (Str.ofString y) py) P.env (.ref D)) _ _ _;have ni':=ni.step si.frames st';refine wpAny_assign_Name (Ea (c:=cf') f rfl si' ni' hy (b:=.val (.list l)) r λ cD tkC eG siC stD niC=>?_);have neL:Cx≠P.env.locals:=λ q=>by
  obtain⟨m',o,_,_,ho,_⟩:=ni.ln;rcases fC with z|z
  ·rw[q,ho]at z;(first|exact bh z|obtain rfl:=ao z|cases z)
  ·exact ni.ll (q▸z)
 have neC:Cx∉P.env.cells.map (·.2):=λ q=>by
  obtain⟨⟨n,a⟩,hm,e⟩:=kj.mp q;simp only at e;subst e;obtain⟨_,h2,_,v,o,ho,_⟩:=ni.cl n a hm;rcases fC with z|z
  ·rw[ho]at z;(first|exact bh z|obtain rfl:=ao z|cases z)
  ·exact h2 z
 obtain⟨oC,es,ep,hoC,hrC⟩:=id hn;have hCW:Cx∉P.W:=λ q=>by
  rcases gb.mp q with q|q
  ·exact neL q
  ·exact neC q
 have hoCC:cD.h.get? Cx=some oC:=stD.keep Cx oC hoC hC.nl hCW hC.nf;have hBC:cD.B.get? Cx=none:=by
  cases q:cD.B.get? Cx with
  |none=>rfl
  |some o=>
   rcases stD.new Cx hC.out (by rw[q];exact λ q=>nomatch q)with z|z
   ·rw[hoC]at z;(first|exact bh z|obtain rfl:=ao z|cases z)
   ·exact absurd z hC.nl
 have hlC:Cx∉cD.live:=stD.nlive hoC hC.nl;refine⟨m,⟨oC,es,ep,hoCC,hrC⟩,λ h'' hsb=>?_⟩;have stW:Step P.l P.W c cD:=(st'.wider si.frames λ _ h=>nomatch h).trans si.frames stD;have keepC:∀b o,b≠Cx->cD.h.get? b=some o->h''.get? b=some o:=λ b o hb e=>(hsb.2 b hb).trans e;have hfr:Cx∉frs P.l:=hC.nf;have siD:P.SI ⟨cD.B,h'',cD.lay,cD.st⟩:=
  ⟨siC.h0,λ b o e=>keepC b o (λ q=>by subst q;rw[hBC]at e;(first|exact bh e|obtain rfl:=ao e|cases e)) (siC.stay _ _ e),Ad siC.frames (λ L hL o e hn=>⟨o,keepC L o (λ q=>hfr (q▸hL)) e,hn⟩) λ _ _ e=>e,
   siC.store.keeps (lu _) (λ b hb o e=>keepC b o (λ q=>hlC (q▸hb)) e) siC.store.out,siC.frl⟩
 have stG:Step P.l P.W c ⟨cD.B,h'',cD.lay,cD.st⟩:=by
  refine⟨λ b o e hl hw hr=>keepC b o (λ q=>?_) (stW.keep b o e hl hw hr),λ b hb o e hl hw hn=>?_,λ b hb hl o e hn=>?_,λ b hb hl e=>?_,stW.live,stW.base,stW.new,stW.heads⟩
  ·subst q;rcases fC with z|z
   ·rw[e]at z;(first|exact bh z|obtain rfl:=ao z|cases z)
   ·exact hl z
  ·obtain⟨sl,q⟩:=stW.fr b hb o e hl hw hn;exact⟨sl,keepC b _ (λ q=>hfr (q▸hb)) q⟩
  ·obtain⟨o',q,hn'⟩:=stW.frw b hb hl o e hn;exact⟨o',keepC b _ (λ q=>hfr (q▸hb)) q,hn'⟩
  ·have:=stW.wr b hb hl e;cases q:cD.h.get? b with
   |none=>exact absurd q this
   |some o=>show h''.get? b≠none;rw[keepC b o (λ z=>hCW (z▸hb)) q];exact λ q=>nomatch q
 have niD:P.NI ⟨cD.B,h'',cD.lay,cD.st⟩ (put y (.val (.list l)) ρ):=by
  have cne:∀n a,(n,a)∈P.env.cells->a≠Cx:=λ n a hm q=>neC (q▸Lx hm);obtain⟨fn,lb,ll,⟨mD,ln⟩,cl,names⟩:=niC;have nsk:∀m,cD.h.Ns P.env.locals m->h''.Ns P.env.locals m:=λ m hm=>Lj hm λ o e=>keepC _ o (Ne.symm neL) e;refine⟨fn,lb,ll,⟨mD,nsk _ ln⟩,λ n a hm=>?_,λ z b hz=>?_⟩
  ·obtain⟨h1,h2,h3,v,o,ho,hd⟩:=cl n a hm;exact⟨h1,h2,h3,v,o,keepC a o (cne n a hm) ho,hd⟩
  ·obtain⟨v,hv,hb⟩:=names z b hz;refine⟨v,?_,hb⟩;rcases hv with⟨h1,m,h2,h3⟩|⟨h1,a,h2,o,h3,h4⟩
   ·exact .inl ⟨h1,m,nsk m h2,h3⟩
   ·exact .inr ⟨h1,a,h2,o,keepC a o (cne _ a (lookup_mem h2)) h3,h4⟩
 exact p .next ⟨cD.B,h'',cD.lay,cD.st⟩ tkC eG siD stG ⟨rfl,niD⟩
end Mine.Internal
namespace Mine.Internal
variable{P:Px}{can:Bool}
theorem SI.addHid{c cC:Cfg}(x:P.SI cC)(st:Step P.l [] c cC){as:List Addr}{cl:Cell}(hc:qw P.prog P.w P.C cC.B cC.h as cl)(nd:as.Nodup)(hh:∀a∈as,Hid P cC a)(hf:∀a∈as,c.h.get? a=none\/a∈c.live):
 P.SI ⟨cC.B,cC.h,cC.lay++[as],cC.st++[cl]⟩/\Step P.l [] c ⟨cC.B,cC.h,cC.lay++[as],cC.st++[cl]⟩:=by
 have hlen:=x.store.cells.length;have live':jj (cC.lay++[as]) (cC.st++[cl])=jj cC.lay cC.st++(if cl.live=true then as else[]):=by
  rw[qx _ hlen,Yh];exact au _ (jo _)
 have mem':∀a,a∈jj (cC.lay++[as]) (cC.st++[cl])->a∈cC.live\/a∈as:=λ a h=>by
  rw[live']at h;rcases j4.mp h with h|h
  ·exact .inl h
  ·split at h
   ·exact .inr h
   ·exact nomatch h
 refine⟨⟨x.h0,x.stay,x.frames,⟨x.store.cells.join (.cons hc .nil),?_,?_⟩,?_⟩,⟨st.keep,st.fr,st.frw,st.wr,?_,st.base,st.new,?_⟩⟩
 ·show(jj (cC.lay++[as]) (cC.st++[cl])).Nodup;rw[live'];refine j8.mpr ⟨x.store.nodup,by split<;>simp[nd],?_⟩
  rintro a ha b hb rfl
  split at hb
  ·exact(hh a hb).nl ha
  ·exact nomatch hb
 ·intro a ha;rcases mem' a ha with h|h
  ·exact x.store.out a h
  ·exact(hh a h).out
 ·intro L hL ha;rcases mem' L ha with h|h
  ·exact x.frl L hL h
  ·exact(hh L h).nf hL
 ·intro a ha;rcases mem' a ha with h|h
  ·exact st.live a h
  ·exact hf a h
 ·intro i a r q;obtain⟨r',q'⟩:=st.heads i a r q;exact⟨r',by show(cC.lay++[as])[i]? = _;rw[List.getElem?_append_left (iw.mp q').1];exact q'⟩
noncomputable def Ef(P:Px)(c:Cfg)(s:Shared)(r:R V) (Q:QV) (E:QV):Prop:=match r with
 |.ok d st'=>∀cd,cellOf d=some cd->∀v c' tk,c'.st=st'++[⟨true,cd⟩]->P.SI c'->Step P.l [] c c'->(∃a as,v=.ref a/\c'.lay[st'.length]? = some (a::as))->Q v { s with heap:=c'.h,toks:=tk }
 |.exc x st'=>Et P.prog P.w P.C P.cR P.cT P.l [] c x st' s E
 |.bad=>False
noncomputable def SD(P:Px)(ae:Expr)(e:Ex):Prop:=∀(ρ:Loc) (c:Cfg) (s:Shared) (Q:QV) (E:QV),s.heap=c.h->P.SI c->P.NI c ρ->
 Ef P c s (iu P.cf ρ e c.st) Q E->wpAny P.M P.A (eval ae P.env) Q E s
theorem Ef.ifs{c:Cfg}{s:Shared}{q:Prop}[Decidable q]{r:R V}{Q:QV}{E:QV}(p:Ef P c s (if q then r else .bad) Q E):q/\Ef P c s r Q E:=by
 by_cases h:q
 ·rw[bf h]at p;exact⟨h,p⟩
 ·rw[bx h]at p;exact p.elim
theorem Ef.fin{c cC:Cfg}{s:Shared}{d:V}{cd:CD}{Q:QV}{E:QV}{a:Addr}{tk:Nat}(p:Ef P c s (.ok d cC.st) Q E)(hcd:cellOf d=some cd)(si:P.SI cC)(st:Step P.l [] c cC)
 (hc:qw P.prog P.w P.C cC.B cC.h [a] ⟨true,cd⟩) (hh:Hid P cC a) (hf:c.h.get? a=none\/a∈c.live):Q (.ref a) { s with heap:=cC.h,toks:=tk }:=by
 obtain⟨si',st'⟩:=SI.addHid si st hc (by simp) (λ b hb=>by simp at hb;subst hb;exact hh) (λ b hb=>by simp at hb;subst hb;exact hf)
 refine p cd hcd (.ref a) ⟨cC.B,cC.h,cC.lay++[[a]],cC.st++[⟨true,cd⟩]⟩ tk rfl si' st' ⟨a,[],rfl,?_⟩;show(cC.lay++[[a]])[cC.st.length]? = _;rw[<-si.store.cells.length];simp
theorem Ua{α : Type}{c:Cfg}{s:Shared}{r:R α}{f : α->Store->R V}{β : Type}{rel:Cfg->β->α->Prop}{K : β->Shared->Prop}{Q:QV}{E:QV}(p:Ef P c s (r.bind f) Q E)
 (k:∀d v cC tk,P.SI cC->Step P.l [] c cC->rel cC v d->Ef P c s (f d cC.st) Q E->K v { s with heap:=cC.h,toks:=tk }):P.Post [] c s r rel K E:=by
 induction r with
 |ok d st'=>
  intro v c' tk e si st hr;subst e;exact k d v c' tk si st hr p
 |exc q st'=>exact p
 |bad=>exact p.elim
theorem atx{aes:List Expr}{es:Aq}{pos:Pos}(h:SEs P aes es):SD P (.List aes pos) (.lst es):=by
 intro ρ c s Q E hs si ni p;refine wpAny_List (h pos ρ c s _ E hs si ni (Ua p λ x v cC tk siB stB ra pB=>?_))
 ·obtain⟨hz,pB⟩:=Ef.ifs pB;refine⟨Lq ra.length hz,?_⟩;have fr:cC.h.get? cC.h.objs.size=none:=zf;obtain⟨siC,stD⟩:=siB.push (h':=cC.h.push { cls:=.type "list",data:=.seq v.toArray }) λ b o e=>Heap.get?_push_of_some _ e;have hd:=xr siB fr;exact Ef.fin (E:=E) (cC:=⟨cC.B,cC.h.push { cls:=.type "list",data:=.seq v.toArray },cC.lay,cC.st⟩) pB rfl siC (stB.trans si.frames stD) (.list ⟨_,Heap.get?_push_size _ rfl⟩ ra) ⟨hd.out,hd.nl,hd.nf⟩ (stB.gone si.frames fr)
theorem M5{B h:Heap}{kvs:List (Str×Value)}:∀{ds:List (String×V)},Dr P.prog P.w P.C B kvs ds->Am P.prog P.w P.C B h [] kvs (ds.map λ p=>(p.1,.val p.2)):=by
 induction kvs with
 |nil=>intro ds h;obtain rfl:=K5 h;exact .nil
 |cons p kvs ih=>intro ds h;obtain⟨k,v,d,q,rfl,rfl,hd,hr⟩:=Jj h;exact .val hd (ih hr)
theorem aqv(ok:P.Ok){la:Expr}{a:Ex}{np pos:Pos}(hx:P.env.kindOf (Str.ofString "dict")=some .globalImplicit)(hn:notStar la=true)(ha:SE P la a):SD P (.Call (.Name (Str.ofString "dict") np) [la] [] pos) (.mkd a):=by
 intro ρ c s Q E hs si ni p;refine wpAny_Call_NameR (q9 (v:=.type "dict") ok hs si (by decide) hx (by kernel_rfl) ?_)
 refine ac5 hn (ha ρ c s _ E hs si ni (Ua p λ x va cC tk siB stB ra pB=>?_))
 induction x using V.casesOn with
 |dict ds=>
  obtain⟨hz,pB⟩:=Ef.ifs pB;obtain⟨a,kvs,rfl,nm,hd,r⟩:=Io ra;have hd':cC.h.DictOf (PySem.strKind P.prog P.w) a kvs:=s8 P.prog P.w siB.stay hd;refine kt_call_dict nm hd' (Ur (Fy r) hz) λ h' hm hsb=>?_;have fr:cC.h.get? cC.h.objs.size=none:=zf;obtain⟨siC,stD⟩:=siB.push (h':=h') λ b o e=>hsb.extBut b o (qz (Heap.lt_size e)) (Heap.get?_push_of_some _ e);have hid:=xr siB fr;exact Ef.fin (E:=E) (cC:=⟨cC.B,h',cC.lay,cC.st⟩) pB rfl siC (stB.trans si.frames stD) (.dict (m8.mpr (Nat.ne_of_gt (Qk ok siB))) hm (M5 r)) ⟨hid.out,hid.nl,hid.nf⟩ (stB.gone si.frames fr)
 | _=>exact pB.elim
theorem asz(ok:P.Ok){keys:List (Option Expr)}{ks:List String}{aes:List Expr}{es:Aq}{pos:Pos}(hk:KeysAre keys ks)(hlen:keys.length=aes.length)(h0:keys≠[])(h15:keys.length<=15)(h:SEL P aes es):
 SD P (.Dict keys aes pos) (.dct ks es):=by
 intro ρ c s Q E hs si ni p;refine wpAny_Dict_any hk.all hlen h0 h15 ?_;obtain⟨cB,ch,clay,cst⟩:=c;simp only at hs;subst hs;obtain⟨siB,stB⟩:=si.push (h':=s.heap.push { cls:=.type "dict",data:=.dict #[] }) λ b o e=>Heap.get?_push_of_some _ e;have fr:s.heap.get? s.heap.objs.size=none:=zf;have hd:=xr si fr;have hdE:Hid P ⟨cB,s.heap.push { cls:=.type "dict",data:=.dict #[] },clay,cst⟩ s.heap.objs.size:=⟨hd.out,hd.nl,hd.nf⟩;refine T6 h hk hlen ρ ⟨cB,s.heap.push { cls:=.type "dict",data:=.dict #[] },clay,cst⟩ _ _ E rfl rfl siB (ni.step si.frames stB) ?_;show P.Post [] _ _ (Bl P.cf ρ es cst) _ _ E;have pk':Ef P _ s ((Bl P.cf ρ es cst).bind _) Q E:=p
 generalize Bl P.cf ρ es cst=T at pk' ⊢
 induction T with
 |bad=>exact pk'.elim
 |exc x st'=>exact λ e h' B' Bx lay' tk fl ex=>pk' e h' B' Bx lay' tk fl (ex.after si.frames stB)
 |ok l st'=>
  rintro kvs cD tkC hst siC stD ⟨vs,r1,r2,r3⟩;subst hst
  ·obtain⟨⟨hz1,hz2,hz3⟩,pk'⟩:=Ef.ifs pk';obtain⟨hdF,hoE⟩:=hdE.step (Heap.get?_push_size _ rfl) stD;have hnew:cD.h.DictOf (PySem.strKind P.prog P.w) s.heap.objs.size []:=v8 (h:=s.heap.push { cls:=.type "dict",data:=.dict #[] }) (λ o e=>by rw[Heap.get?_push_size _ rfl]at e;(first|exact bh e|obtain rfl:=ao e|cases e);exact hoE) (Heap.DictOf.new s.heap)
   refine wpAny_storeAll kvs ((ks.map Str.ofString).zip vs) [] _ _ r3 hnew (ajf hz3) λ h' hm hsb=>?_;have hkeys:(((ks.map Str.ofString).zip vs).map (·.1)).Nodup:=by
    have:((ks.map Str.ofString).zip vs).map (·.1)=ks.map Str.ofString:=by
     rw[show((·.1):Str×Value->Str)=Prod.fst from rfl,List.map_fst_zip (by rw[bw,r2];exact jf _)]
    rw[this];exact Im hz2
   rw[Ls (by simpa using hkeys),List.nil_append]at hm
   obtain⟨siD,stG,bD,-⟩:=si.adopt siC (stB.trans si.frames stD) (h':=h') (Z:=[s.heap.objs.size]) (by
    intro a ha;simp only[gb,uw,or_false]at ha;subst ha;exact⟨.inl fr,hdF.out,hdF.nl,hdF.nf⟩) (λ b o hb e=>(hsb.2 b (λ q=>hb (by simp[q]))).trans e) (λ _=>false) (λ a ha=>nomatch ha)
   exact Ef.fin (E:=E) (cC:=⟨mask h' λ a=>(cD.B.get? a).isSome||false,h',cD.lay,cD.st⟩) pk' rfl siD stG
    (.dict (m8.mpr (Nat.ne_of_gt (Qk ok si))) hm (M5 (Zn (r1.mono bD) r2))) ⟨Oh hdF.out,hdF.nl,hdF.nf⟩ (.inl fr)
theorem alq(f:P.Fun){x:String}{av:Expr}{e:Ex}{np pos:Pos}(hd:Ba e=true)(hc:Cz av=true)(hx:P.env.kindOf (Str.ofString x)=some .local\/P.env.kindOf (Str.ofString x)=some .cell)(he:SD P av e):
 SS P can (.Assign [.Name (Str.ofString x) np] av pos) (.asg (.nm x) e):=by
 intro ρ c s Q E hs si ni p;have hp:exS P.cf can (.asg (.nm x) e) ρ c.st=(iu P.cf ρ e c.st).bind λ v st=>match cellOf v with
  |some d=>.ok (.next (put x (.cell st.length) ρ)) (st++[⟨true,d⟩])
  |none=>.bad:=by
  show(assign P.cf (.nm x) e ρ c.st).bind _ = _
  delta assign
  rw[hd];cases iu P.cf ρ e c.st with
  |ok v st=>
   show(match cellOf v with|some d=>R.ok (put x (qp.cell st.length) ρ) (st++[(⟨true,d⟩:Cell)])|none=>R.bad).bind _ = (match cellOf v with|some d=>R.ok (Fl.next (put x (qp.cell st.length) ρ)) (st++[(⟨true,d⟩:Cell)])|none=>R.bad)
   cases cellOf v<;>rfl
  |exc=>rfl
  |bad=>rfl
 rw[hp]at p;refine wpAny_Assign_Name ?_ (zm hc);refine he ρ c s _ E hs si ni ?_
 generalize iu P.cf ρ e c.st=T at p ⊢
 induction T with
 |bad=>exact p.elim
 |exc q st'=>exact iz.wide (r:=(R.exc q st':R Fl)) si.frames p
 |ok d st'=>
  rintro cd hcd v cC tk hst siB stB ⟨a,as,rfl,hl⟩;dsimp only[R.bind]at p;rw[hcd]at p;exact Ea (c:=cC) f rfl siB (ni.step si.frames stB) hx (b:=.cell st'.length) ⟨a,as,hl,rfl⟩ λ cD tkC eG siC stD niC=>
   p .next cD tkC (eG.trans hst) siC ((stB.wider si.frames λ _ h=>nomatch h).trans si.frames stD) ⟨rfl,niC⟩
theorem aek(f:P.Fun){x kx:String}{np kp sp lp pos:Pos}{n:Nat}(hd:uf x=true):
 SS P can (.Assign [.Subscript (.Name (Str.ofString x) np) (.Constant (.str (Str.ofString kx)) n kp) sp] (.List [] lp) pos) (.asg (.idx x (.str kx)) (.lst .nil)):=by
 intro ρ c s Q E hs si ni p;have e:exS P.cf can (.asg (.idx x (.str kx)) (.lst .nil)) ρ c.st=(match lk x ρ with
  |some b=>(match setB b (.str kx) (.own []) c.st with|some st=>R.ok ρ st|Option.none=>R.bad)
  |Option.none=>R.bad).bind λ ρ st=>.ok (.next ρ) st:=rfl
 rw[e]at p;refine wpAny_Assign_Subscript (wpAny_List (spliced_none ⟨by simp,?_⟩))
 obtain⟨cB,ch,clay,cst⟩:=c;simp only at hs;subst hs;obtain⟨siB,stB⟩:=si.push (h':=s.heap.push { cls:=.type "list",data:=.seq ([]:List Value).toArray }) λ b o e=>Heap.get?_push_of_some _ e;cases hb:lk x ρ with
 |none=>rw[hb]at p;exact p.elim
 |some b=>
  rw[hb]at p;dsimp only at p;refine Eb (c:=⟨cB,s.heap.push { cls:=.type "list",data:=.seq ([]:List Value).toArray },clay,cst⟩) f.ok.ev rfl (ni.step si.frames stB) hb hd λ ov ho=>?_;refine wpAny_Constant_str ?_;cases hq:setB b (.str kx) (.own []) cst with
  |none=>rw[hq]at p;exact p.elim
  |some st'=>
   rw[hq]at p;refine afi (s:=s) (h₁:=s.heap.push { cls:=.type "list",data:=.seq ([]:List Value).toArray }) si rfl ho (.str _ _ _) hq zf (λ b o e=>Heap.get?_push_of_some _ e) ⟨_,Heap.get?_push_size _ rfl⟩ rfl rfl
    λ c' tk e si' st''=>p .next c' tk e si' (st''.wider si.frames λ _ h=>nomatch h) ⟨rfl,ni.step si.frames st''⟩
end Mine.Internal
namespace Mine.Internal
variable{P:Px}{can:Bool}
theorem set_same{s1 s2:Store}{a b:Cell}:(s1++a::s2).set s1.length b=s1++b::s2:=by simp
theorem R3{c:Cfg}{s:Shared}{x:Exc}{st':Store}{E:QV}(hf:c.h.FunFrames c.B P.l)(h:Et P.prog P.w P.C P.cR P.cT P.l P.W c x st' s E):Et P.prog P.w P.C P.cR P.cT P.l [] c x st' s E:=
 iz.wide (α:=Unit) (β:=Unit) (r:=.exc x st') (rel:=λ _ _ _=>True) (Q:=λ _ _=>True) hf h
theorem aja(cf:CF)(x:String)(e:Ex)(ρ:Loc)(st:Store):exS cf can (.app x none e) ρ st=.bad\/∃i lv ds,lk x ρ=some (.cell i)/\st[i]? = some ⟨lv,.list ds⟩/\
 exS cf can (.app x none e) ρ st=(iu cf ρ e st).bind λ v st=>(match Gd (.cell i) none v st with|some st=>R.ok (Fl.next ρ) st|Option.none=>R.bad):=by
 have h:exS cf can (.app x none e) ρ st=(match lk x ρ with
  |some (.cell i)=>(match st[i]? with
   |some ⟨_,.list _⟩=>(iu cf ρ e st).bind λ v st=>(match Gd (.cell i) none v st with|some st=>R.ok (Fl.next ρ) st|Option.none=>R.bad)
   | _=>R.bad)
  | _=>R.bad):=rfl
 rw[h];cases lk x ρ with
 |none=>exact .inl rfl
 |some b=>
  cases b with
  |val d=>exact .inl rfl
  |cell i=>
   dsimp only;cases hq:st[i]? with
   |none=>exact .inl rfl
   |some c=>
    obtain⟨lv,d⟩:=c;cases d with
    |list ds=>exact .inr ⟨i,lv,ds,rfl,hq,rfl⟩
    | _=>exact .inl rfl
theorem ah7(cf:CF)(x k:String)(e:Ex)(ρ:Loc)(st:Store):exS cf can (.app x (some k) e) ρ st=.bad\/∃i es q,lk x ρ=some (.cell i)/\st[i]? = some ⟨true,.dict es⟩/\lk k es=some (.own q)/\
 exS cf can (.app x (some k) e) ρ st=(iu cf ρ e (st.set i ⟨false,.hid⟩)).bind λ v st=>(match st[i]? with
  |some ⟨false,.hid⟩=>(match Gd (.cell i) (some k) v (st.set i ⟨true,.dict es⟩)with|some st=>R.ok (Fl.next ρ) st|Option.none=>R.bad)
  | _=>R.bad):=by
 have h:exS cf can (.app x (some k) e) ρ st=(match lk x ρ with
  |some (.cell i)=>(match st[i]? with
   |some ⟨true,.dict d⟩=>(match lk k d with
    |some (.own _)=>(iu cf ρ e (st.set i ⟨false,.hid⟩)).bind λ v st=>(match st[i]? with
     |some ⟨false,.hid⟩=>(match Gd (.cell i) (some k) v (st.set i ⟨true,.dict d⟩)with|some st=>R.ok (Fl.next ρ) st|Option.none=>R.bad)
     | _=>R.bad)
    | _=>R.bad)
   | _=>R.bad)
  | _=>R.bad):=rfl
 rw[h];cases lk x ρ with
 |none=>exact .inl rfl
 |some b=>
  cases b with
  |val d=>exact .inl rfl
  |cell i=>
   dsimp only;cases hq:st[i]? with
   |none=>exact .inl rfl
   |some c=>
    obtain⟨lv,d⟩:=c;cases lv with
    |false=>exact .inl rfl
    |true=>
     cases d with
     |dict es=>
      dsimp only;cases hl:lk k es with
      |none=>exact .inl rfl
      |some en=>
       cases en with
       |own q=>exact .inr ⟨i,es,q,rfl,hq,hl,rfl⟩
       | _=>exact .inl rfl
     | _=>exact .inl rfl
theorem alj{α : Type}{o:Option Cell}{f:R α}:(match o with|some ⟨false,.hid⟩=>f | _=>R.bad)=.bad\/(o=some ⟨false,.hid⟩/\(match o with|some ⟨false,.hid⟩=>f | _=>R.bad)=f):=by
 cases o with
 |none=>exact .inl rfl
 |some c=>
  obtain⟨lv,d⟩:=c;cases lv with
  |true=>exact .inl rfl
  |false=>cases d with
   |hid=>exact .inr ⟨rfl,rfl⟩
   | _=>exact .inl rfl
theorem amd(f:P.Fun){x:String}{la:Expr}{e:Ex}{np apos cpos pos:Pos}(hd:uf x=true)(hn:notStar la=true)(hline:(apos.endLine==cpos.line)=true)(he:SE P la e):
 SS P can (.Expr (.Call (.Attribute (.Name (Str.ofString x) np) (Str.ofString "append") apos) [la] [] cpos) pos) (.app x none e):=by
 intro ρ c s Q E hs si ni p;refine wpAny_Expr_any ?_ (Eo f) (zm rfl);refine ajc (id:="list.append") rfl hn hline PySem.F.plainAttrs_list slot_list_append (by kernel_rfl) ?_
 rcases aja P.cf x e ρ c.st with h|⟨i,lv,ds,hb,hq,h⟩
 ·rw[h]at p;exact p.elim
 ···rw[h]at p;refine Eb f.ok.ev hs ni hb hd λ ov ho=>?_;obtain⟨a,l1,as,l2,s1,s2,rfl,h1,h2,h3,h4,h5,hc,h7⟩:=Dd si ho hq;obtain⟨vs,n,hla⟩:=hc.listAt si.stay;refine⟨⟨_,hs▸hla,rfl⟩,λ a' h=>by cases h;exact⟨_,hs▸hla,rfl⟩,?_⟩
    refine he ρ c s _ E hs si ni (iz.expr si.frames p λ d v cC tk siB stB hv pB=>?_);cases hq1:Gd (.cell i) none d cC.st with
    |none=>rw[hq1]at pB;exact pB.elim
    |some st'=>
     rw[hq1]at pB;exact ar9 (s:={ s with heap:=cC.h,toks:=tk }) siB rfl (um.step stB ho) hv hq1 λ c' tk' e' si' st''=>
      pB .next c' tk' e' si' (st''.wider siB.frames λ _ h=>nomatch h) ⟨rfl,NI.step siB.frames (ni.step si.frames stB) st''⟩
theorem aef{c:Cfg}(x:P.SI c){l1 l2:List (List Addr)}{a b:Addr}{as:List Addr}{s1 s2:Store}{es:List (String×Ent)}{kvs:List (Str×Value)}{k:String}{q:List V}{u:Value}{d:V}{s:Shared}{Q:QV}{E:QV}
 (h1:c.lay=l1++(a::as)::l2) (h2:c.st=s1++⟨true,.dict es⟩::s2) (h3:l1.length=s1.length) (h5:CellsOk P.prog P.w P.C c.B c.h l1 s1) (h7:CellsOk P.prog P.w P.C c.B c.h l2 s2)
 (nm:(a==sysModules)=false) (p:c.h.DictOf (PySem.strKind P.prog P.w) a kvs) (r:Am P.prog P.w P.C c.B c.h as kvs es) (hl:lk k es=some (.own q)) (hz:q.length<=lim) (hv:valueAt kvs (Str.ofString k)=some (.ref b)) (hs:s.heap=c.h) (hu:P.RP c.B u d)
 (h:K8 P.prog P.w P.C P.H P.l c (s1++⟨true,.dict (put k (.own (q++[d])) es)⟩::s2) s (λ _=>Q .none)):wpAny P.M P.A (call (.builtin "list.append") [.ref b,u]) Q E s:=by
 obtain⟨b',vs,g1,g2,g3,g4,g5⟩:=r.own_at hl;obtain rfl:=adf (hv.symm.trans g1);have ha:=x.store.out a (Ac h1 h2 h3 rfl a (by simp))
 have nd:=Ek x.store h1 h2 h3 rfl;obtain⟨n1,n2⟩:=jl.mp nd;have hbB:=x.store.out b (Ac h1 h2 h3 rfl b (by simp[g2]))
 have hn:=g4.length;refine wpAny_list_append_plain (items:=vs.toArray) (hs▸g3) (λ h' hm hsb=>?_) (Lq hn hz);rw[hs]at hsb;have hst:=zx hsb x.stay hbB;have hm':z9 h' b (vs++[u]):=by
  obtain⟨n',hm⟩:=hm;exact⟨n',by rw[hm];simp⟩
 have hab:a≠b:=λ z=>n1 (z▸g2);have key:=x.cell (B':=c.B) (h':=h') (as':=a::as) (cl':=⟨true,.dict (put k (.own (q++[d])) es)⟩) h1 h2 h3 rfl h5 h7 (Ag hsb (by simp[g2])) (lu _) hst (λ b e1 e2=>absurd e1 e2)
  (.dict nm (v8 (λ o e=>(hsb.2 a hab).trans e) p) (g5 h' _ _ (λ a _ hne o e=>(hsb.2 a hne).trans e) n2 hm' (g4.append (.one hu)))) nd (λ _ b hb=>x.store.out b (Ac h1 h2 h3 rfl b hb)) (λ b hb=>.inl hb) ⟨a,as,as,rfl,rfl⟩
 exact h _ s.toks rfl key.1 key.2
theorem ajr(f:P.Fun){x k:String}{la:Expr}{e:Ex}{n:Nat}{np kp sp apos cpos pos:Pos}(hd:uf x=true)(hn:notStar la=true)(hline:(apos.endLine==cpos.line)=true)(he:SE P la e):
 SS P can (.Expr (.Call (.Attribute (.Subscript (.Name (Str.ofString x) np) (.Constant (.str (Str.ofString k)) n kp) sp) (Str.ofString "append") apos) [la] [] cpos) pos) (.app x (some k) e):=by
 intro ρ c s Q E hs si ni p;refine wpAny_Expr_any ?_ (Eo f) (zm rfl);refine ajc (id:="list.append") rfl hn hline PySem.F.plainAttrs_list slot_list_append (by kernel_rfl) (Subscript_ ?_)
 rcases ah7 P.cf x k e ρ c.st with h|⟨i,es,q,hb,hq,hl,h⟩
 ·rw[h]at p;exact p.elim
 ·····rw[h]at p;refine Eb f.ok.ev hs ni hb hd λ ov ho=>?_;obtain⟨a,l1,as,l2,s1,s2,rfl,h1,h2,h3,h4,h5,hc,h7⟩:=Dd si ho hq;obtain⟨kvs,nm,pd,r⟩:=hc.dict_inv;obtain⟨b,vs,g1,g2,g3,g4,g5⟩:=r.own_at hl;refine wpAny_Constant_str (Hg (s:={ s with toks:=s.toks+1 }) (hs▸pd) g1 λ tk=>?_);obtain⟨nb,g3'⟩:=g3;refine⟨⟨_,hs▸g3',rfl⟩,λ a' h=>by cases h;exact⟨_,hs▸g3',rfl⟩,?_⟩
      obtain⟨siH,stH⟩:=si.hide h1 h2 h3 rfl (by simp) h5 h7
      have hset:c.st.set i ⟨false,.hid⟩=s1++⟨false,.hid⟩::s2:=by rw[h2,<-h4];exact set_same
      rw[hset]at p;have pH:=iz.after (tk:=tk) si.frames (stH.wider (W':=P.W) si.frames λ _ h=>nomatch h) p;have pk:=p;refine he ρ ⟨c.B,c.h,c.lay,s1++⟨false,.hid⟩::s2⟩ _ _ E hs siH (ni.step si.frames stH) ?_;have pH':P.Post P.W _ _ ((iu P.cf ρ e (s1++⟨false,.hid⟩::s2)).bind _) _ _ E:=pH;have pk':P.Post P.W c s ((iu P.cf ρ e (s1++⟨false,.hid⟩::s2)).bind _) _ Q E:=pk;show P.Post [] _ _ (iu P.cf ρ e (s1++⟨false,.hid⟩::s2)) _ _ E
      generalize iu P.cf ρ e (s1++⟨false,.hid⟩::s2)=T at pH' pk' ⊢
      cases T with
      |bad=>exact pk'.elim
      |exc y st'=>exact R3 siH.frames pH'
      |ok d st'=>
       intro v cC tkE hst siB stB hv;subst hst;dsimp only[R.bind]at pk';rcases alj (o:=cC.st[i]?)with hz|⟨hq1,hz⟩
       ·rw[hz]at pk';exact pk'.elim
       ·rw[hz]at pk';rw[<-h4]at hq1;obtain⟨lay',siU,stU,hlay,kept,hheads⟩:=si.unhide h1 h2 h3 rfl hc rfl siB stB hq1;rw[<-h4]at pk';obtain⟨l1',as',l2',s1',s2',q1,q2,q3,q4,q5,q6,q7⟩:=siU.store.cells.split (i:=s1.length) (c:=⟨true,.dict es⟩) (by
         rw[List.getElem?_set_self (iw.mp hq1).1])
        have has:as'=a::as:=by
         have q1':lay'=l1'++as'::l2':=q1;rw[q1',<-q4,<-q3]at hlay
         simpa using hlay
        subst has;cases hq2:Gd (.cell s1.length) (some k) d (cC.st.set s1.length ⟨true,.dict es⟩)with
        |none=>rw[hq2]at pk';exact pk'.elim
        |some st''=>
         rw[hq2]at pk';have hgi:(cC.st.set s1.length ⟨true,.dict es⟩)[s1.length]? = some ⟨true,.dict es⟩:=by
          rw[List.getElem?_set_self (iw.mp hq1).1]
         have hfin:q.length<=lim/\st''=s1'++⟨true,.dict (put k (.own (q++[d])) es)⟩::s2':=by
          rw[aln d hgi hl]at hq2;obtain⟨hz,rfl⟩:=o7 hq2;have hq2':cC.st.set s1.length ⟨true,.dict es⟩=s1'++⟨true,.dict es⟩::s2':=q2;refine⟨hz,?_⟩;show List.set _ _ _ = _;rw[hq2',<-q4];exact set_same
         obtain⟨hz,rfl⟩:=hfin;refine aef (c:=⟨cC.B,cC.h,lay',cC.st.set s1.length ⟨true,.dict es⟩⟩) (s:={ s with heap:=cC.h,toks:=tkE }) siU q1 q2 q3 q5 q7 nm (v8 (kept a (by simp)) pd) (r.keeps stB.base λ b hb=>kept b (by simp[hb])) hl hz g1 rfl hv
          λ c' tk' e' si' st3=>?_
         have stF:Step P.l [] c c':=stU.trans si.frames st3;exact pk' .next c' tk' e' si' (stF.wider si.frames λ _ h=>nomatch h) ⟨rfl,ni.step si.frames stF⟩
end Mine.Internal
namespace Mine.Internal
variable{P:Px}{can:Bool}
theorem Lg(ok:P.Ok){c ci:Cfg}{s:Shared}{x:Exc}{st':Store}{tk:Nat}{E:QV}(hf:c.h.FunFrames c.B P.l)(st:Step P.l P.W c ci)(h:Et P.prog P.w P.C P.cR P.cT P.l P.W c x st' s E):
 Et P.prog P.w P.C P.cR P.cT P.l P.W ci x st' { s with heap:=ci.h,toks:=tk } (notedBy P.M P.A P.env (cameBackBy P.M P.A P.env E)):=by
 obtain⟨env₀,outer,L,hl,hfL,hen⟩:=ok.fr;obtain⟨n,room⟩:=ok.room;have hfr:=room.fr;have h':Et P.prog P.w P.C P.cR P.cT P.l P.W ci x st' { s with heap:=ci.h,toks:=tk } E:=λ e h' B' Bx lay' tk fl ex=>h e h' B' Bx lay' tk fl (ex.after hf st);rw[hl]at h' hfr ⊢;exact Et.back hfr hfL hen h'
inductive a0w(P:Px)(t:Loc->Store->R Bool)(g:Loc->Store->R Fl)(c:Cfg)(s:Shared)(r0:R Fl)(n:Nat)(s':Shared):Prop
 |mk (ci:Cfg) (tk:Nat) (ρ:Loc) (hs:s' = { s with heap:=ci.h,toks:=tk }) (si:P.SI ci) (st:Step P.l P.W c ci) (ni:P.NI ci ρ) (hr:r0=Jh t g n ρ ci.st)
theorem aql(f:P.Fun){lt:Expr}{t:Ex}{lb:List Stmt}{b:u9}{pos:Pos}(ht:ST P lt t)(hb:SSs P can lb b):SS P can (.While lt lb [] pos) (.whl t b):=by
 intro ρ c s Q E hs si ni p;refine wpAny_While ?_;have p:P.Post P.W c s (Jh (λ x1 x2=>ug P.cf x1 t x2) (dw P.cf can b) turns ρ c.st) (λ c' v d=>Q7 P c' v d) Q E:=p
 generalize hr0:Jh (λ x1 x2=>ug P.cf x1 t x2) (dw P.cf can b) turns ρ c.st=r0 at p
 obtain⟨cB,ch,clay,cst⟩:=c;simp only at hs;subst hs;refine codeAny_whileLoop (a0w P (λ x1 x2=>ug P.cf x1 t x2) (dw P.cf can b) ⟨cB,s.heap,clay,cst⟩ s r0) ?_ turns ⟨⟨cB,s.heap,clay,cst⟩,s.toks,ρ,rfl,si,Step.refl _ _,ni,hr0.symm⟩;rintro n s' ⟨ci,tk,ρi,rfl,sii,sti,nii,hr⟩
 induction n using Nat.casesOn with
 |zero=>rw[hr]at p;exact p.elim
 |succ n=>
  have hr1:r0=(ug P.cf ρi t ci.st).bind λ b' st=>match b' with
   |false=>.ok (.next ρi) st
   |true=>(dw P.cf can b ρi st).bind λ fl st=>match fl with
    |.next ρ=>Jh (λ x1 x2=>ug P.cf x1 t x2) (dw P.cf can b) n ρ st
    |.ret x=>.ok (.ret x) st:=hr
  refine ht ρi ci _ _ _ rfl sii nii ?_;show iz P.prog P.w P.C P.H P.cR P.cT P.l [] ci _ (ug P.cf ρi t ci.st) _ _ _
  generalize ug P.cf ρi t ci.st=T at hr1 ⊢
  induction T with
  |bad=>rw[hr1]at p;exact p.elim
  |exc q st'=>rw[hr1]at p;exact R3 sii.frames (Lg f.ok si.frames sti p)
  |ok b' st'=>
   intro v cC tkE hst siB stB hv;subst hv;subst hst;have stiB:=sti.trans si.frames (stB.wider sii.frames λ _ h=>nomatch h);have niiB:=nii.step sii.frames stB
   induction v with
   |false=>
    refine wpAny_execs_nil ?_;have hr2:r0=.ok (.next ρi) cC.st:=hr1;rw[hr2]at p;exact p .next cC tkE rfl siB stiB ⟨rfl,niiB⟩
   |true=>
    have hr2:r0=(dw P.cf can b ρi cC.st).bind λ fl st=>match fl with
     |.next ρ=>Jh (λ x1 x2=>ug P.cf x1 t x2) (dw P.cf can b) n ρ st
     |.ret x=>.ok (.ret x) st:=hr1
    refine hb ρi cC _ _ _ rfl siB niiB ?_;show iz P.prog P.w P.C P.H P.cR P.cT P.l P.W cC _ (dw P.cf can b ρi cC.st) _ _ _
    generalize dw P.cf can b ρi cC.st=T at hr2 ⊢
    induction T with
    |bad=>rw[hr2]at p;exact p.elim
    |exc q st'=>rw[hr2]at p;exact Lg f.ok si.frames stiB p
    |ok fl st'=>
     intro w cD tkC hst siC stD hw;subst hst;have stiC:=stiB.trans si.frames stD
     induction fl with
     |next ρ'=>
      obtain⟨rfl,niC⟩:=hw;exact⟨n,m9 _,cD,tkC,ρ',rfl,siC,stiC,niC,hr2⟩
     |ret d=>
      obtain⟨u,rfl,hu⟩:=hw;have hr3:r0=.ok (.ret d) cD.st:=hr2;rw[hr3]at p;exact p (.ret u) cD tkC rfl siC stiC ⟨u,rfl,hu⟩
theorem ata{target:Expr}{I:Addr}{o:Obj}{v:Value}{s:Shared}{Q:Unit->Shared->Prop}{E:QV}(ho:s.heap.get? I=some o)(hk:aap o=true)(h:Q () s):wpAny P.M P.A (letOwnedTupleGo target (.ref I) v) Q E s:=by
 have t:∀a b p,wpAny P.M P.A (letOwnedTupleGo (.Tuple a b p) (.ref I) v) Q E s:=λ _ _ _=>by
  induction v using PySem.Value.casesOn with
  |ref a=>
   refine wpAny_bind (wpAny_load ho ?_);obtain⟨c,_,d,_⟩:=o
   induction c using PySem.Value.casesOn with
   |type n=>induction d using PySem.Data.casesOn with
    |fields vs=>exact wpAny_ite_false (ig λ z=>ne_true_of_eq_false ((Bool.not_eq_true' _).mp hk) (jd.mp z).1) (wpAny_pure h)
    | _=>exact wpAny_pure h
   | _=>exact wpAny_pure h
  | _=>exact wpAny_pure h
 induction target using PySem.Expr.casesOn with
 |Tuple a b p=>exact t a b p
 |List a p=>exact t a 0 p
 | _=>exact wpAny_pure h
inductive azm(P:Px)(g:V->Loc->Store->R Fl)(c:Cfg)(s:Shared) (I:Addr)(r0:R Fl)(n:Nat)(s':Shared):Prop
 |mk (ci:Cfg) (tk:Nat) (ρ:Loc) (rem:List V) (o:Obj) (hs:s' = { s with heap:=ci.h,toks:=tk }) (si:P.SI ci) (st:Step P.l P.W c ci) (ni:P.NI ci ρ) (it:ae3 P ci I rem o) (hn:n=rem.length) (hr:r0=forR g rem ρ ci.st)
theorem Hid.stepW{c c':Cfg}{a:Addr}{o:Obj}(x:Hid P c a)(hw:a∉P.W)(e:c.h.get? a=some o)(st:Step P.l P.W c c'):Hid P c' a/\c'.h.get? a=some o:=by
 refine⟨⟨?_,st.nlive e x.nl,x.nf⟩,st.keep a o e x.nl hw x.nf⟩;cases q:c'.B.get? a with
 |none=>rfl
 |some o'=>
  rcases st.new a x.out (by rw[q];exact λ q=>nomatch q)with h|h
  ·rw[e]at h;(first|exact bh h|obtain rfl:=ao h|cases h)
  ·exact absurd h x.nl
theorem Yg{c ci:Cfg}{I:Addr}{h':Heap}(fI:c.h.get? I=none\/I∈c.live)(hI:Hid P ci I)(hIW:I∉P.W)(sti:Step P.l P.W c ci)(kp:∀b o,b≠I->ci.h.get? b=some o->h'.get? b=some o):
 Step P.l P.W c ⟨ci.B,h',ci.lay,ci.st⟩:=by
 refine⟨λ b o e hl hw hr=>kp b o (λ q=>?_) (sti.keep b o e hl hw hr),λ b hb o e hl hw hn=>?_,λ b hb hl o e hn=>?_,λ b hb hl e=>?_,sti.live,sti.base,sti.new,sti.heads⟩
 ·subst q;rcases fI with z|z
  ·rw[e]at z;(first|exact bh z|obtain rfl:=ao z|cases z)
  ·exact hl z
 ·obtain⟨sl,q⟩:=sti.fr b hb o e hl hw hn;exact⟨sl,kp b _ (λ q=>hI.nf (q▸hb)) q⟩
 ·obtain⟨o',q,hn'⟩:=sti.frw b hb hl o e hn;exact⟨o',kp b _ (λ q=>hI.nf (q▸hb)) q,hn'⟩
 ·have:=sti.wr b hb hl e;cases q:ci.h.get? b with
  |none=>exact absurd q this
  |some o=>show h'.get? b≠none;rw[kp b o (λ z=>hIW (z▸hb)) q];exact λ q=>nomatch q
theorem atj(f:P.Fun){lt it:Expr}{t:Tg}{e:Ex}{lb:List Stmt}{b:u9}{pos:Pos}(hfold:∀v,foldedSetIterable it P.env v=pure v)(ht:STg P lt t)(he:SIt P it e)(hb:SSs P can lb b):SS P can (.For lt it lb [] pos) (.for t e b):=by
 intro ρ c s Q E hs si ni p;have e':exS P.cf can (.for t e b) ρ c.st=((iu P.cf ρ e c.st).bind λ v st=>m5 (itemsOf v) st).bind λ l st=>forR (λ v ρ st=>(qe P.cf t v ρ st).bind λ ρ st=>dw P.cf can b ρ st) l ρ st:=(R.bind_bind _ _ _).symm;rw[e']at p;refine wpAny_For (he ρ c s _ E hs si ni ?_) hfold;show P.Post [] c s ((iu P.cf ρ e c.st).bind λ v st=>m5 (itemsOf v) st) _ _ E
 generalize((iu P.cf ρ e c.st).bind λ v st=>m5 (itemsOf v) st)=T at p ⊢
 induction T with
 |bad=>exact p.elim
 |exc q st'=>exact R3 si.frames p
 |ok l st'=>
 rintro itv cC tk hst siB stB ⟨I,o,rfl,fI,hI,hself⟩;subst hst;have hIW:I∉P.W:=λ q=>by
  rcases gb.mp q with q|q
  ·exact hself.own.1 q
  ·obtain⟨⟨n,a⟩,hm,e⟩:=kj.mp q;exact hself.own.2 n a hm e
 have p1:P.Post P.W c s (forR (λ v ρ st=>(qe P.cf t v ρ st).bind λ ρ st=>dw P.cf can b ρ st) l ρ cC.st) (λ c' v d=>Q7 P c' v d) Q E:=p
 clear p
 generalize hr0:forR (λ v ρ st=>(qe P.cf t v ρ st).bind λ ρ st=>dw P.cf can b ρ st) l ρ cC.st=r0 at p1
 refine codeAny_forLoop_any (azm P (λ v ρ st=>(qe P.cf t v ρ st).bind λ ρ st=>dw P.cf can b ρ st) c s I r0) ?_ l.length ⟨cC,tk,ρ,l,o,rfl,siB,stB.wider si.frames λ _ h=>(nomatch h),ni.step si.frames stB,hI,rfl,hr0.symm⟩;rintro n s' ⟨ci,tki,ρi,rem,oi,rfl,sii,sti,nii,hIi,rfl,hr⟩;have adopt:∀(h':Heap),(∀b o,b≠I->ci.h.get? b=some o->h'.get? b=some o)->P.SI ⟨ci.B,h',ci.lay,ci.st⟩:=λ h' kp=>
  ⟨sii.h0,λ b o e=>kp b o (λ q=>by subst q;rw[hIi.hid.out]at e;(first|exact bh e|obtain rfl:=ao e|cases e)) (sii.stay _ _ e),Ad sii.frames (λ L hL o e hn=>⟨o,kp L o (λ q=>hIi.hid.nf (q▸hL)) e,hn⟩) λ _ _ e=>e,
   sii.store.keeps (lu _) (λ b hb o e=>kp b o (λ q=>hIi.hid.nl (q▸hb)) e) sii.store.out,sii.frl⟩
 have nikeep:∀(h':Heap),(∀b o,b≠I->ci.h.get? b=some o->h'.get? b=some o)->P.NI ⟨ci.B,h',ci.lay,ci.st⟩ ρi:=λ h' kp=>by
  obtain⟨fn,lb,ll,⟨mD,ln⟩,cl,names⟩:=nii;have hneL:P.env.locals≠I:=λ q=>hIW (by simp[q])
  have hneC:∀n a,(n,a)∈P.env.cells->a≠I:=λ n a hm q=>hIW (bk _ (q▸Lx hm));have nsk:∀m,ci.h.Ns P.env.locals m->h'.Ns P.env.locals m:=λ m hm=>Lj hm λ o e=>kp _ o hneL e;refine⟨fn,lb,ll,⟨mD,nsk _ ln⟩,λ n a hm=>?_,λ z b hz=>?_⟩
  ·obtain⟨h1,h2,h3,v,o,ho,hd⟩:=cl n a hm;exact⟨h1,h2,h3,v,o,kp a o (hneC n a hm) ho,hd⟩
  ·obtain⟨v,hv,hb⟩:=names z b hz;refine⟨v,?_,hb⟩;rcases hv with⟨h1,m,h2,h3⟩|⟨h1,a,h2,o,h3,h4⟩
   ·exact .inl ⟨h1,m,nsk m h2,h3⟩
   ·exact .inr ⟨h1,a,h2,o,kp a o (hneC _ a (lookup_mem h2)) h3,h4⟩
 induction rem using List.casesOn with
 |nil=>
  refine hIi.itr _ _ _ hIi.at' sii.stay λ h' tk' kp=>wpAny_execs_nil ?_;have hr2:r0=.ok (.next ρi) ci.st:=hr;rw[hr2]at p1;exact p1 .next ⟨ci.B,h',ci.lay,ci.st⟩ tk' rfl (adopt h' kp) (Yg fI hIi.hid hIW sti kp) ⟨rfl,nikeep h' kp⟩
 |cons d r=>
  refine hIi.itr _ _ _ hIi.at' sii.stay λ v h₁ tkE o' kp hI' hok hitr rv=>?_;refine ata (s:={ s with heap:=h₁,toks:=tkE }) hI' hok ?_;have siC:=adopt h₁ kp;have niC:=nikeep h₁ kp;have stD:=Yg fI hIi.hid hIW sti kp;have hidC:Hid P ⟨ci.B,h₁,ci.lay,ci.st⟩ I:=⟨hIi.hid.out,hIi.hid.nl,hIi.hid.nf⟩;have hr2:r0=(qe P.cf t d ρi ci.st).bind λ ρ st=>(dw P.cf can b ρ st).bind λ fl st=>match fl with
   |.next ρ=>forR (λ v ρ st=>(qe P.cf t v ρ st).bind λ ρ st=>dw P.cf can b ρ st) r ρ st
   |.ret x=>.ok (.ret x) st:=hr.trans (R.bind_bind _ _ _)
  refine ht v d ρi ⟨ci.B,h₁,ci.lay,ci.st⟩ _ _ _ rfl siC niC rv ?_;show iz P.prog P.w P.C P.H P.cR P.cT P.l P.W ⟨ci.B,h₁,ci.lay,ci.st⟩ _ (qe P.cf t d ρi ci.st) _ _ _
  generalize qe P.cf t d ρi ci.st=T at hr2 ⊢
  induction T with
  |bad=>rw[hr2]at p1;exact p1.elim
  |exc q st'=>rw[hr2]at p1;exact Lg f.ok si.frames stD p1
  |ok ρ' st'=>
   intro _ cF tkD hst siD stG niD;subst hst;have stD':=stD.trans si.frames stG;have hr3:r0=(dw P.cf can b ρ' cF.st).bind λ fl st=>match fl with
    |.next ρ=>forR (λ v ρ st=>(qe P.cf t v ρ st).bind λ ρ st=>dw P.cf can b ρ st) r ρ st
    |.ret x=>.ok (.ret x) st:=hr2
   obtain⟨hidD,hIF⟩:=hidC.stepW hIW hI' stG;refine hb ρ' cF _ _ _ rfl siD niD ?_;show iz P.prog P.w P.C P.H P.cR P.cT P.l P.W cF _ (dw P.cf can b ρ' cF.st) _ _ _
   generalize dw P.cf can b ρ' cF.st=T at hr3 ⊢
   induction T with
   |bad=>rw[hr3]at p1;exact p1.elim
   |exc q st'=>rw[hr3]at p1;exact Lg f.ok si.frames stD' p1
   |ok fl st'=>
    intro w cG tkF hst siE stJ hw;subst hst;have stE':=stD'.trans si.frames stJ
    induction fl with
    |next ρ''=>
     obtain⟨rfl,niE⟩:=hw;obtain⟨hidE,hIG⟩:=hidD.stepW hIW hIF stJ;exact⟨r.length,by simp,cG,tkF,ρ'',r,o',rfl,siE,stE',niE,⟨hidE,hIG,hitr.mono (rz stG.base stJ.base)⟩,rfl,hr3⟩
    |ret d=>
     obtain⟨u,rfl,hu⟩:=hw;have hr4:r0=.ok (.ret d) cG.st:=hr3;rw[hr4]at p1;exact p1 (.ret u) cG tkF rfl siE stE' ⟨u,rfl,hu⟩
end Mine.Internal
namespace Mine.Internal
variable{P:Px}{can:Bool}
theorem caught(f:P.Fun)(hcells:P.env.cells=[]){c:Cfg}{st':Store}{h' B' Bx:Heap}{lay':List (List Addr)}{e:Addr}{cls:Value}(si:P.SI c)(ni:P.NI c ρ)(t:Traced P.l Bx e cls h')(ex:Ij P.prog P.w P.C P.l P.W c st' h' B' Bx lay'):
 P.SI ⟨B',h',lay',st'⟩/\Step P.l P.W c ⟨B',h',lay',st'⟩:=by
 have out:∀L∈frs P.l,B'.get? L=none:=λ L hL=>by
  cases q:B'.get? L with
  |none=>rfl
  |some o=>
   have h1:=(t.2.2.1.mem hL).1;rw[ex.inx _ _ q]at h1;cases h1
 refine⟨⟨rz si.h0 ex.base,rz ex.inx t.1,Ad t.2.2.1 (λ L _ o e hn=>⟨o,e,hn⟩) λ L hL _=>out L hL,ex.store.keeps (lu _) (λ a _ o e=>t.1 _ _ e) ex.store.out,ex.frl⟩,
  ⟨λ b o e1 e2 e3 e4=>t.1 _ _ (ex.keep b o e1 e2 e3 e4),ex.fr,ex.frw,λ b hb hl e1=>?_,ex.live,ex.base,ex.new,ex.heads⟩⟩
 have hb':b=P.env.locals:=by
  unfold Px.W at hb;rw[hcells]at hb
  simpa using hb
 subst hb';obtain⟨m,o,es,ep,ho,hd,_⟩:=ni.ln;obtain⟨o',q,_⟩:=ex.frw _ f.mem hl o ho (λ vs z=>by rw[hd]at z;cases z)
 show h'.get? _≠none;rw[q];exact λ q=>nomatch q
theorem apd(f:P.Fun)(hcells:P.env.cells=[]){lb:List Stmt}{b:u9}{k:Const}{e:Ex}{d:V}{n1 n2:Nat}{p1 p2 p3 p4 p5 hp pos:Pos}(hx:P.env.kindOf (Str.ofString "RlpFault")=some .globalImplicit)(hy:P.env.kindOf (Str.ofString "TxFault")=some .globalImplicit)
 (hk:(k=.none/\e=.non)\/(∃v,k=.bool v/\e=.boo v)) (hb:SSs P can lb b):
 SS P can (.Try lb [.ExceptHandler (some (.Tuple [.Name (Str.ofString "RlpFault") p1,.Name (Str.ofString "TxFault") p2] n1 p3)) none [.Return (some (.Constant k n2 p4)) p5] hp] [] [] pos) (.tryx b (.cons (.ret e) .nil)):=by
 intro ρ c s Q E hs si ni p;obtain⟨env₀,outer,L,hl,hfL,hen⟩:=f.ok.fr;obtain⟨n,room⟩:=f.ok.room;have e':exS P.cf can (.tryx b (.cons (.ret e) .nil)) ρ c.st=(match dw P.cf can b ρ c.st with
  |.ok fl st=>.ok fl st
  |.exc _ st=>dw P.cf can (.cons (.ret e) .nil) ρ st
  |.bad=>.bad):=rfl
 rw[e']at p;refine wpAny_Try_except (hb ρ c s _ _ hs si ni ?_)
 generalize dw P.cf can b ρ c.st=T at p ⊢
 induction T with
 |bad=>exact p.elim
 |ok fl st'=>
  intro w cC tk hst siB stB hw
  induction fl with
  |next ρ'=>
   obtain⟨rfl,niB⟩:=hw;exact wpAny_execs_nil (p .next cC tk hst siB stB ⟨rfl,niB⟩)
  |ret d=>
   obtain⟨u,rfl,hu⟩:=hw;exact p (.ret u) cC tk hst siB stB ⟨u,rfl,hu⟩
 |exc x st'=>
  intro ea h' B' Bx lay' tk fl ex;have fl':=fl;rw[hl]at fl';refine Qg (s:={ s with heap:=h',toks:=tk }) (room.fr.trans (au some hl)) hfL hen fl' λ h₁ tB uD=>?_;rw[<-hl]at tB;refine Gv (s:={ s with heap:=h₁,toks:=tk }) tB λ h₂ tC uE=>?_;have exC:=(ex.move uD).move uE;obtain⟨siC,stD⟩:=caught f hcells si ni tC exC;refine wpAny_handleBy_cons (codeAny_handlers_test ?_) (by intro q;cases q)
  have glob:∀(A:Around) (x:String) (np:Pos) (v:Value) (s':Shared) (Q':QV) (E':QV),s'.heap=h₂->P.env.kindOf (Str.ofString x)=some .globalImplicit->(Str.ofString x==("__debug__" : Str))=false->P.mg (Str.ofString x)=some v->Q' v s'->wpAny P.M A (eval (.Name (Str.ofString x) np) P.env) Q' E' s':=by
   intro A x np v s' Q' E' hs' hk' hd hv q;refine Name_function_global f.ok.ev.kind hk' (loadGlobal_global (mg:=P.mg) ?_ hv q) hd;rw[f.ok.ev.g,hs'];exact f.ok.wd.g.keeps λ b o e=>siC.stay _ _ (siC.h0 _ _ e)
  refine wpAny_Tuple (wpAny_items_cons (glob _ "RlpFault" p1 (.ref P.cR) _ _ _ rfl hx (by decide) f.ok.wd.mR ?_))
  refine wpAny_items_cons (glob _ "TxFault" p2 (.ref P.cT) _ _ _ rfl hy (by decide) f.ok.wd.mT ?_)
  refine spliced_none ⟨by rw[Hz];simp,?_⟩
  dsimp only;obtain⟨oe,hoe,hce⟩:=tC.fly.at'.elim (λ q=>let⟨oe,_,_,h1,h2,_⟩:=q;(⟨oe,h1,h2⟩:∃oe,h₂.get? ea=some oe/\oe.cls=clsOf P.cR P.cT x)) (λ q=>let⟨_,_,q⟩:=q;let⟨o,h1,h2⟩:=q.there;⟨o,h1,h2⟩);have XC:P.K.In h₂:=Kr f.ok siC;have XD:P.K.In (h₂.push { cls:=.type "tuple",data:=.seq [Value.ref P.cR,Value.ref P.cT].toArray }):=XC.keeps λ b o e=>Heap.get?_push_of_some _ e;have LT:Looks P.M (h₂.push { cls:=.type "tuple",data:=.seq [Value.ref P.cR,Value.ref P.cT].toArray }) (typeOf (.ref ea)) (clsOf P.cR P.cT x):=by
   have:=((Looks.ld (M:=P.M) (part:=none) (Heap.get?_push_of_some { cls:=.type "tuple",data:=.seq [Value.ref P.cR,Value.ref P.cT].toArray } hoe)).andThen .now:Looks P.M _ (typeOf (.ref ea)) oe.cls);rw[hce]at this;exact this
  have M2:Looks P.M (h₂.push { cls:=.type "tuple",data:=.seq [Value.ref P.cR,Value.ref P.cT].toArray }) (excMatches (.ref ea) (.ref h₂.objs.size)) true:=
   exm_tup2 XD LT (Heap.get?_push_size _ rfl) (by have:=f.ok.wd.mat x;cases x<;>exact this)
  refine M2.here ?_;rw[bf rfl];have tD:Traced P.l Bx ea (clsOf P.cR P.cT x) (h₂.push { cls:=.type "tuple",data:=.seq [Value.ref P.cR,Value.ref P.cT].toArray }):=by
   obtain⟨g1,g2,g3,a0,fl,oe,vs,T,oT,ts,k1,k2,k4,k5,k6,k7,k8,k9,k10⟩:=tC;exact⟨λ b o e=>Heap.get?_push_of_some _ (g1 _ _ e),g2,Ad g3 (λ L _ o e hn=>⟨o,Heap.get?_push_of_some _ e,hn⟩) (λ _ _ e=>e),a0,fl,oe,vs,T,oT,ts,Heap.get?_push_of_some _ k1,k2,k4,k5,k6,k7,Heap.get?_push_of_some _ k8,k9,k10⟩
  have exD:Ij P.prog P.w P.C P.l P.W c st' (h₂.push { cls:=.type "tuple",data:=.seq [Value.ref P.cR,Value.ref P.cT].toArray }) B' Bx lay':=exC.move (Heap.UpToSlots.of_keeps λ b o e=>Heap.get?_push_of_some _ e);refine codeAny_handlers_suite (Gv (s:={ s with heap:=h₂.push { cls:=.type "tuple",data:=.seq [Value.ref P.cR,Value.ref P.cT].toArray },toks:=tk }) tD λ h₄ tE uG=>?_);obtain⟨siE,stJ⟩:=caught f hcells si ni tE (exD.move uG);refine wpAny_execs_cons (wpAny_Return_some ?_);dsimp only;rcases hk with⟨rfl,rfl⟩|⟨v,rfl,rfl⟩
  ·have p:P.Post P.W c s (.ok (.ret .none) st') (λ c' v d=>Q7 P c' v d) Q E:=p;exact wpAny_Constant_none (p (.ret .none) ⟨B',h₄,lay',st'⟩ tk rfl siE stJ ⟨.none,rfl,.none _⟩)
  ·have p:P.Post P.W c s (.ok (.ret (.bool v)) st') (λ c' v d=>Q7 P c' v d) Q E:=p;exact wpAny_Constant_bool (p (.ret (.bool v)) ⟨B',h₄,lay',st'⟩ tk rfl siE stJ ⟨.bool v,rfl,.bool _ _⟩)
noncomputable def Mt(P:Px)(ae:Stmt)(x:Exc):Prop:=∀(ρ:Loc) (c:Cfg) (s:Shared) (Q:Flow->Shared->Prop) (E:QV),s.heap=c.h->P.SI c->P.NI c ρ->
 (∀h' tk e,(∀b o,c.h.get? b=some o->h'.get? b=some o)->c.h.get? e=none->ahf h' e (clsOf P.cR P.cT x)->E (.ref e) { s with heap:=h',toks:=tk })->wpAny P.M P.A (exec ae P.env) Q E s
theorem apy{ast:Stmt}{x:Exc}(hr:can=true->Mt P ast x):SS P can ast (.rai x):=by
 intro ρ c s Q E hs si ni p
 induction can with
 |false=>exact p.elim
 |true=>
  have p:P.Post P.W c s (.exc x c.st) (λ c' v d=>Q7 P c' v d) Q E:=p;refine hr rfl ρ c s Q E hs si ni λ h' tk e keep he hm=>?_;have hin:∀b o,c.h.get? b=some o->b∉frs P.l->(mask c.h λ a=>decide (a∉frs P.l)).get? b=some o:=λ b o e hb=>wj.mpr ⟨by simpa using hb,e⟩
  have hout:∀b,c.h.get? b=none->(mask c.h λ a=>decide (a∉frs P.l)).get? b=none:=λ b e=>by rw[Ca,e];split<;>rfl
  have hfr:∀L∈frs P.l,(mask c.h λ a=>decide (a∉frs P.l)).get? L=none:=λ L hL=>by rw[Ca,bx (by simpa using hL)]
  have hB:∀b o,c.B.get? b=some o->b∉frs P.l:=λ b o e q=>by have:=(si.frames.mem q).1;rw[e]at this;cases this
  refine p e h' c.B (mask c.h λ a=>decide (a∉frs P.l)) c.lay tk ⟨λ b o e=>keep _ _ (wj.mp e).2,hout e he,Ad si.frames (λ L hL o e hn=>⟨o,keep _ _ e,hn⟩) (λ L hL _=>hfr L hL),.inl hm⟩ ?_;refine⟨lu _,λ b o e=>hin b o (si.stay _ _ e) (hB b o e),si.store.keeps (lu _) (λ a ha o e=>hin a o e λ q=>si.frl a q ha) si.store.out,si.frl,λ b o e _ _ hb=>hin b o e hb,
   λ b _ o e _ _ _=>⟨o.slots,keep _ _ e⟩,λ b _ _ o e hn=>⟨o,keep _ _ e,hn⟩,λ a h=>.inr h,λ a h1 h2=>absurd h1 h2,λ i a as e=>⟨as,e⟩⟩
end Mine.Internal
namespace Mine.Internal
variable{P:Px}
theorem Gn{n:Str}:∀{names:List (Str×NameKind)}{k:Nat}{acc:List (Str×Addr)},(acc.lookup n).isSome=true->((cellsFrom k names acc).lookup n).isSome=true
 |[],_,_,h=>h
 |(m,kind)::r,k,acc,h=>by
  unfold cellsFrom
  split
  ·refine Gn ?_;rw[ou]
   split
   ·rfl
   ·exact h
  ·exact Gn h
theorem cellsFrom_some{n:Str}:∀{names:List (Str×NameKind)}{k:Nat}{acc:List (Str×Addr)},(n,NameKind.cell)∈names->((cellsFrom k names acc).lookup n).isSome=true
 |(m,kind)::r,k,acc,h=>by
  unfold cellsFrom;rcases gb.mp h with q|q
  ·(first|exact bh q|obtain rfl:=ao q|cases q)
   simp only[uq,if_true];exact Gn (by simp)
  ·split<;>exact cellsFrom_some q
structure Ma(H:Heap)(a:Addr)(g:Fn)(fd:FuncData)(body:List Stmt):Prop where
 obj:∃o,H.get? a=some o/\o.data=.func fd
 code:H.CodeRec fd.code fd.qualname
 body:fd.body=.stmts body
 clo:fd.closure=[]
 bind:∀vals:List Value,vals.length=g.ps.length->bindArgs fd ⟨vals,[]⟩=pure ((g.ps.map Str.ofString).zip vals)
 ps:∀x∈g.ps,fd.scope.names.lookup (Str.ofString x)=some .local\/fd.scope.names.lookup (Str.ofString x)=some .cell
 nd:g.ps.Nodup
 ck:∀k,((cellsFrom k fd.scope.names []).map (·.1)).Nodup
 co:fd.scope.isCoroutine=false
 gen:fd.scope.isGenerator=false
 kind:fd.scope.kind=.function
 gl:fd.globals=mainGlobals
 bu:fd.builtins=builtinsNs
noncomputable abbrev Px.enter(P:Px)(fd:FuncData) (L a:Addr)(cf:CF):Px:={ P with env:=callEnvC fd L a,l:=callEnvC fd L a::P.l,A:=P.A.deeper (callEnvC fd L a),cf:=cf }
theorem aeg(wd:Wd P.prog P.w P.C P.H P.mg P.mb P.K P.cR P.cT){a:Addr}{g:Fn}{fd:FuncData}{body:List Stmt}(F:Ma P.H a g fd body){L:Addr}{cf:CF}{n:Nat}(room:Kp P.A P.l (n+1))(hap:((callEnvC fd L a).cells.Pairwise λ x y=>x.2≠y.2)):(P.enter fd L a cf).Fun where
 ok:={
  room:=⟨n,room.enter _⟩
  wd:=wd
  ev:={
   kind:=F.kind
   g:=F.gl
   b:=F.bu
   cel:=λ m h=>by
    have h':fd.scope.names.lookup m=some .cell:=h;exact Option.isSome_iff_exists.mp (cellsFrom_some (PySem.mem_of_lookup h')) }
  fr:=⟨callEnvC fd L a,P.l,L,rfl,rfl,rfl⟩ }
 cnd:=by
  show((callEnvC fd L a).cells.map (·.2)).Nodup;rw[List.Nodup,List.pairwise_map];exact hap
 own:=rfl
 top:=⟨P.l,rfl⟩
theorem W2{kindOf:Str->Option NameKind}{y:Str}{v:Value}(hk:kindOf y=some .local):∀{xs:List String}{vs:List Value}{m:Str->Option Value},(∀x∈xs,Str.ofString x≠y)->bindL kindOf ((xs.map Str.ofString).zip vs) m y=m y
 |[],_,_,_=>by simp[bindL]
 | _::_,[],_,_=>by simp[bindL]
 |x::xs,u::vs,m,h=>by
  show bindL kindOf ((Str.ofString x,u)::(xs.map Str.ofString).zip vs) m y=m y;rw[bindL,W2 (v:=v) hk (λ z hz=>h z (by simp[hz]))]
  split
  ·show(if y=Str.ofString x then some u else m y)=m y
   rw[bx (λ q=>h x (by simp) q.symm)]
  ·rfl
theorem Ze{kindOf:Str->Option NameKind}{y:Str}{v:Value}(hk:kindOf y≠some .local):∀{xs:List String}{vs:List Value}{m:Str->Option Value},(∀x∈xs,Str.ofString x≠y)->bindC kindOf ((xs.map Str.ofString).zip vs) m y=m y
 |[],_,_,_=>by simp[bindC]
 | _::_,[],_,_=>by simp[bindC]
 |x::xs,u::vs,m,h=>by
  show bindC kindOf ((Str.ofString x,u)::(xs.map Str.ofString).zip vs) m y=m y;rw[bindC,Ze (v:=v) hk (λ z hz=>h z (by simp[hz]))]
  split
  ·rfl
  ·show(if y=Str.ofString x then some u else m y)=m y
   rw[bx (λ q=>h x (by simp) q.symm)]
theorem aeo{B:Heap}{lay:List (List Addr)}{kindOf:Str->Option NameKind}{y:String}{b:qp}{xs:List String}:∀{bs:List qp}{vs:List Value}{mL mC:Str->Option Value},xs.Nodup->Bm P B lay bs vs->lk y (xs.zip bs)=some b->
 ∃v,um P.prog P.w P.C B lay b v/\(kindOf (Str.ofString y)=some .local->bindL kindOf ((xs.map Str.ofString).zip vs) mL (Str.ofString y)=some v)/\(kindOf (Str.ofString y)≠some .local->bindC kindOf ((xs.map Str.ofString).zip vs) mC (Str.ofString y)=some v):=by
 induction xs with
 |nil=>exact λ _ _ h=>bh h
 |cons x xs ih=>
  intro bs vs mL mC nd hb h;cases bs with
  |nil=>exact bh h
  |cons b' bs=>
  obtain⟨v,us,rfl,r,rs⟩:=Dz.inv hb;obtain⟨n1,n2⟩:=jl.mp nd;rw[List.zip_cons_cons,Al]at h;show ∃v',_/\(_->bindL kindOf ((Str.ofString x,v)::(xs.map Str.ofString).zip _) mL _ = some v')/\(_->bindC kindOf ((Str.ofString x,v)::(xs.map Str.ofString).zip _) mC _ = some v')
  by_cases q:y=x
  ·rw[bf q]at h;rw[<-ao h];subst q;have hne:∀z∈xs,Str.ofString z≠Str.ofString y:=λ z hz q=>n1 (u0 q▸hz);refine⟨v,r,λ hk=>?_,λ hk=>?_⟩
   ·rw[bindL,W2 (v:=v) hk hne,bf hk];exact bf rfl
   ·rw[bindC,Ze (v:=v) hk hne,bx hk];exact bf rfl
  ·rw[bx q]at h;exact ih n2 rs h
theorem Qa{l:List (Str×Addr)}(hn:(l.map (·.1)).Nodup){n:Str}{a:Addr}(h:(n,a)∈l):l.lookup n=some a:=by
 induction l with
 |nil=>exact nomatch h
 |cons p r ih=>
  obtain⟨n1,n2⟩:=jl.mp hn;obtain⟨m,b⟩:=p;rw[ou];rcases gb.mp h with q|q
  ·(first|exact bh q|obtain rfl:=ao q|cases q);simp
  ·have hne:¬(n=m):=λ z=>n1 (z▸kj.mpr ⟨(n,a),q,rfl⟩);have:(n==m)=false:=by simpa using hne
   rw[this];exact ih n2 q
theorem ahw{B:Heap}{lay:List (List Addr)}{bs:List qp}{vs:List Value}(h:Bm P B lay bs vs):vs.length=bs.length:=by
 induction h with
 |nil=>rfl
 |cons _ _ ih=>simp[ih]
theorem I5(env:Env)(l:List Env) (L:Addr)(h:env.frame=some L):frs (env::l)=L::frs l:=by
 unfold frs;rw[oh,h]
theorem agv{c c':Cfg}{env:Env}{L:Addr}{h₁:Heap}{W:List Addr}(hF:env.frame=some L)(hL:c.h.get? L=none)(hW:∀b∈W,c.h.get? b=none)(k:∀b o,c.h.get? b=some o->h₁.get? b=some o)(si:P.SI c){n:Nat}(hn:c.st.length<=n)
 (st:Step (env::P.l) W ⟨c.B,h₁,c.lay,c.st⟩ c'):Step P.l [] c ⟨c'.B,c'.h,c'.lay.take n,c'.st.take n⟩:=by
 have gone:∀a,h₁.get? a=none->c.h.get? a=none:=λ a e=>by
  cases q:c.h.get? a with
  |none=>rfl
  |some o=>rw[k _ _ q]at e;(first|exact bh e|obtain rfl:=ao e|cases e)
 have nL:∀b o,c.h.get? b=some o->b≠L:=λ b o e q=>by rw[q,hL]at e;(first|exact bh e|obtain rfl:=ao e|cases e)
 have nW:∀b o,c.h.get? b=some o->b∉W:=λ b o e q=>by rw[hW b q]at e;(first|exact bh e|obtain rfl:=ao e|cases e)
 have fr:∀b,b∈frs (env::P.l)↔b=L\/b∈frs P.l:=λ b=>by rw[I5 _ _ L hF];simp
 refine⟨λ b o e hl _ hr=>?_,λ b hb o e hl _ hn=>?_,λ b hb hl o e hn=>?_,λ b h=>(nomatch h),λ a ha=>?_,st.base,λ a h1 h2=>?_,λ i a as e=>?_⟩
 ·exact st.keep b o (k _ _ e) hl (nW b o e) (λ q=>((fr b).mp q).elim (nL b o e) hr)
 ·exact st.fr b ((fr b).mpr (.inr hb)) o (k _ _ e) hl (nW b o e) hn
 ·exact st.frw b ((fr b).mpr (.inr hb)) hl o (k _ _ e) hn
 ·have:=(rm c'.lay n c'.st).subset ha;exact(st.live a this).imp_left (gone a)
 ·exact(st.new a h1 h2).imp_left (gone a)
 ·obtain⟨as',q⟩:=st.heads i a as e;have hi:i<c.st.length:=by rw[<-si.store.cells.length];exact(iw.mp e).1
  exact⟨as',by show(c'.lay.take n)[i]? = _;rw[List.getElem?_take,bf (cu hi hn)];exact q⟩
theorem akn{c:Cfg}{env:Env}{L:Addr}{h₁:Heap}{W:List Addr}{st':Store}{h' B' Bx:Heap}{lay':List (List Addr)}(hF:env.frame=some L)(hL:c.h.get? L=none)(hW:∀b∈W,c.h.get? b=none)(k:∀b o,c.h.get? b=some o->h₁.get? b=some o)(si:P.SI c){n:Nat}(hn:c.st.length<=n)
 (ex:Ij P.prog P.w P.C (env::P.l) W ⟨c.B,h₁,c.lay,c.st⟩ st' h' B' Bx lay'):Ij P.prog P.w P.C P.l [] c (st'.take n) h' B' Bx (lay'.take n):=by
 have gone:∀a,h₁.get? a=none->c.h.get? a=none:=λ a e=>by
  cases q:c.h.get? a with
  |none=>rfl
  |some o=>rw[k _ _ q]at e;(first|exact bh e|obtain rfl:=ao e|cases e)
 have nL:∀b o,c.h.get? b=some o->b≠L:=λ b o e q=>by rw[q,hL]at e;(first|exact bh e|obtain rfl:=ao e|cases e)
 have nW:∀b o,c.h.get? b=some o->b∉W:=λ b o e q=>by rw[hW b q]at e;(first|exact bh e|obtain rfl:=ao e|cases e)
 have fr:∀b,b∈frs (env::P.l)↔b=L\/b∈frs P.l:=λ b=>by rw[I5 _ _ L hF];simp
 refine⟨ex.base,ex.inx,⟨ex.store.cells.take _,(rm _ _ _).nodup ex.store.nodup,λ a h=>ex.store.out a ((rm _ _ _).subset h)⟩,λ L' hL' q=>ex.frl L' ((fr L').mpr (.inr hL')) ((rm _ _ _).subset q),
  λ b o e hl _ hr=>?_,λ b hb o e hl _ hn=>?_,λ b hb hl o e hn=>?_,λ a ha=>?_,λ a h1 h2=>?_,λ i a as e=>?_⟩
 ·exact ex.keep b o (k _ _ e) hl (nW b o e) (λ q=>((fr b).mp q).elim (nL b o e) hr)
 ·exact ex.fr b ((fr b).mpr (.inr hb)) o (k _ _ e) hl (nW b o e) hn
 ·exact ex.frw b ((fr b).mpr (.inr hb)) hl o (k _ _ e) hn
 ·exact(ex.live a ((rm _ _ _).subset ha)).imp_left (gone a)
 ·exact(ex.new a h1 h2).imp_left (gone a)
 ·obtain⟨as',q⟩:=ex.heads i a as e;have hi:i<c.st.length:=by rw[<-si.store.cells.length];exact(iw.mp e).1
  exact⟨as',by rw[List.getElem?_take,bf (cu hi hn)];exact q⟩
theorem aqj{c':Cfg}{env:Env}{L:Addr}(hF:env.frame=some L)(n:Nat)(x:SI P.prog P.w P.C P.H (env::P.l) c'):P.SI ⟨c'.B,c'.h,c'.lay.take n,c'.st.take n⟩:=by
 have y:=x.take n;obtain⟨_,_,fr⟩:=y.frames;exact⟨y.h0,y.stay,fr,y.store,λ L' hL'=>y.frl L' (by rw[I5 _ _ L hF];simp[hL'])⟩
noncomputable def ao6(P:Px)(k:Store->Nat)(c:Cfg)(s:Shared)(r:R Fl) (R:Result->Shared->Prop):Prop:=match r with
 |.ok fl st'=>∀v c' tk,c'.st=st'.take (k st')->P.SI c'->Step P.l [] c c'->(match fl with|.ret d=>P.RP c'.B v d|.next _=>v=.none)->R (.ok (.ret v)) { s with heap:=c'.h,toks:=tk }
 |.exc x st'=>∀e h' B' Bx lay' tk,Fly P.l Bx e (clsOf P.cR P.cT x) h'->Ij P.prog P.w P.C P.l [] c (st'.take (k st')) h' B' Bx lay'->R (.error (.ref e)) { s with heap:=h',toks:=tk }
 |.bad=>False
theorem aak(wd:Wd P.prog P.w P.C P.H P.mg P.mb P.K P.cR P.cT){a:Addr}{g:Fn}{fd:FuncData}{body:List Stmt}(F:Ma P.H a g fd body){cf:CF}{can:Bool}{n:Nat}(room:Kp P.A P.l (n+1))
 (hbody:∀L,(P.enter fd L a cf).Fun->SSs (P.enter fd L a cf) can body g.body){c:Cfg}{s:Shared}{bs:List qp}{vs:List Value}{R:Result->Shared->Prop}(hs:s.heap=c.h) (si:P.SI c) (hbs:Bm P c.B c.lay bs vs) (hlen:bs.length=g.ps.length)
 {k:Store->Nat}(hk:∀st,c.st.length<=k st) (p:ao6 P k c s (dw cf can g.body (g.ps.zip bs) c.st) R):codeAny P.M P.A (.call (.ref a) ⟨vs,[]⟩) R s:=by
 obtain⟨o,ho,hdata⟩:=F.obj;have hH:∀b o,P.H.get? b=some o->s.heap.get? b=some o:=λ b o e=>by rw[hs];exact si.stay _ _ (si.h0 _ _ e)
 have hvl:vs.length=g.ps.length:=(ahw hbs).trans hlen;refine(codeAny_call_cells (a:=a) (binds:=(g.ps.map Str.ofString).zip vs) (Sv room.dp) (hH _ _ ho) hdata (wd.lim.keeps hH) (F.code.keeps hH) F.body (F.bind vs hvl) F.clo ?_ (λ sE x=>?_) F.co F.gen F.kind)
 ·intro y hy;obtain⟨z,hz,e⟩:∃z∈g.ps,Str.ofString z=y.1:=by
   have:=List.of_mem_zip (a:=y.1) (b:=y.2) hy;obtain⟨z,hz,e⟩:=kj.mp this.1;exact⟨z,hz,e⟩
  rw[<-e];rcases F.ps z hz with h|h
  ·exact .inl h
  ·exact .inr ⟨h,cellsFrom_some (PySem.mem_of_lookup h)⟩
 ·obtain⟨h₁,tk,rfl,keep⟩:=x.done
  generalize hL:s.heap.objs.size=L at x ⊢
  generalize henv:callEnvC fd L a=env at x
  have eL:env.locals=L:=by rw[<-henv];rfl
  have eF:env.frame=some L:=by rw[<-henv];rfl
  have keep':∀b o,c.h.get? b=some o->h₁.get? b=some o:=λ b o e=>keep b o (hs▸e);obtain⟨siB,stB⟩:=si.push keep';have hns:=x.toInCall.ns;rw[eL]at hns;obtain⟨oL,es,ep,hoL,hdL,hrL⟩:=id hns;have frL:c.h.get? L=none:=by rw[<-hL,<-hs];exact zf
  have hdL':Hid P c L:=xr si frL;have nfL:∀vs,oL.data≠.fields vs:=λ vs q=>by rw[hdL]at q;(first|exact bh q|obtain rfl:=ao q|cases q)
  have frC:∀m b,(m,b)∈env.cells->c.h.get? b=none:=λ m b hm=>by
   have:=x.above m b hm;rw[eL]at this;cases q:c.h.get? b with
   |none=>rfl
   |some o=>exact absurd (Heap.lt_size q) (by rw[<-hs,hL];exact jx.mpr (ql this))
  have hap:(callEnvC fd L a).cells.Pairwise λ x y=>x.2≠y.2:=by rw[henv];exact x.apart
  have Fn:=aeg (cf:=cf) wd F room hap;have hSS:=hbody L Fn;have hlen':=si.store.cells.length;have siC:(P.enter fd L a cf).SI ⟨c.B,h₁,c.lay,c.st⟩:=⟨siB.h0,siB.stay,⟨(by show(callEnvC fd L a).scope.kind≠_;rw[show(callEnvC fd L a).scope.kind=.function from F.kind];exact λ q=>(nomatch q)),
   ⟨L,oL,rfl,hdL'.out,hoL,nfL⟩,siB.frames⟩,siB.store,λ L' hL'=>by
    rw[I5 _ _ L rfl]at hL';rcases gb.mp hL' with rfl|q
    ·exact hdL'.nl
    ·exact siB.frl L' q⟩
  have hcl:∀m b,(m,b)∈env.cells->h₁.IsCell b (bindC env.kindOf ((g.ps.map Str.ofString).zip vs) (λ _=>none) m):=λ m b hm=>x.cell m b (Qa (by rw[<-henv];exact F.ck _) hm)
  have niC:(P.enter fd L a cf).NI ⟨c.B,h₁,c.lay,c.st⟩ (g.ps.zip bs):=by
   refine⟨F.kind,hdL'.out,hdL'.nl,⟨_,hns⟩,λ m b hm=>?_,λ y b hy=>?_⟩
   ·have hm':(m,b)∈env.cells:=by rw[<-henv];exact hm
    have hdb:=xr si (frC m b hm');refine⟨hdb.out,hdb.nl,λ q=>?_,_,hcl m b hm'⟩;have q':b∈frs (callEnvC fd L a::P.l):=q;rw[I5 _ _ L rfl]at q';rcases gb.mp q' with rfl|q'
    ·obtain⟨oc,hoc,hdc⟩:=hcl m b hm';rw[hoL]at hoc;cases hoc;rw[hdL]at hdc;cases hdc
    ·exact hdb.nf q'
   ·obtain⟨v,h1,h2,h3⟩:=aeo (kindOf:=env.kindOf) (mL:=λ _=>none) (mC:=λ _=>none) F.nd hbs hy;refine⟨v,?_,h1⟩;have hy':y∈g.ps:=by
     have:∀{xs:List String}{bs:List qp},lk y (xs.zip bs)=some b->y∈xs:=by
      intro xs
      induction xs with
      |nil=>intro bs h;simp[lk]at h
      |cons z r ih=>
       intro bs h;cases bs with
       |nil=>simp[lk]at h
       |cons b' bs=>
        rw[List.zip_cons_cons,Al]at h
        split at h
        ·rename_i q;simp[q]
        ·exact bk _ (ih h)
     exact this hy
    have ek:env.kindOf (Str.ofString y)=fd.scope.names.lookup (Str.ofString y):=by rw[<-henv];rfl
    rcases F.ps y hy' with q|q
    ·exact .inl ⟨q,_,hns,h2 (ek.trans q)⟩
    ·have qn:env.kindOf (Str.ofString y)≠some .local:=by rw[ek,q];exact λ z=>nomatch z
     obtain⟨b',hb'⟩:=Option.isSome_iff_exists.mp (cellsFrom_some (k:=L+1) (acc:=[]) (PySem.mem_of_lookup q));have hb2:env.cells.lookup (Str.ofString y)=some b':=by rw[<-henv];exact hb'
     refine .inr ⟨.inl q,b',hb',?_⟩;have:=hcl _ b' (PySem.mem_of_lookup hb2);rw[h3 qn]at this;exact this
  have hWn:∀b∈(P.enter fd L a cf).W,c.h.get? b=none:=λ b hb=>by
   rcases gb.mp hb with q|q
   ·rw[q];exact frL
   ·obtain⟨⟨m,b'⟩,hm,e⟩:=kj.mp q;simp only at e;subst e;exact frC m b' (by rw[<-henv];exact hm)
  subst henv;refine hSS (g.ps.zip bs) ⟨c.B,h₁,c.lay,c.st⟩ { s with heap:=h₁,toks:=tk } _ _ rfl siC niC ?_;show iz _ _ _ _ _ _ (callEnvC fd L a::P.l) (P.enter fd L a cf).W _ _ (dw cf can g.body (g.ps.zip bs) c.st) _ _ _
  generalize dw cf can g.body (g.ps.zip bs) c.st=T at p ⊢
  cases T with
  |bad=>exact p.elim
  |exc x st'=>
   intro e h' B' Bx lay' tk' fl ex;have hfr:(P.A.deeper (callEnvC fd L a)).frames=some (callEnvC fd L a::P.l):=by show P.A.frames.map _ = _;rw[room.fr];rfl
   refine ai9 (s:={ s with heap:=h',toks:=tk' }) hfr rfl fl λ h'' fl' u=>?_;exact p e h'' B' Bx (lay'.take (k st')) tk' fl' (akn rfl frL hWn keep' si (hk _) (ex.move u))
  |ok fl st'=>
   intro w c' tk' hst si' st'' hw;subst hst;have so:=agv (P:=P) (env:=callEnvC fd L a) (L:=L) rfl frL hWn keep' si (hk c'.st) st'';have sio:=aqj (P:=P) (env:=callEnvC fd L a) (L:=L) rfl (k c'.st) si';cases fl with
   |next ρ'=>
    obtain⟨rfl,_⟩:=hw;exact p .none ⟨c'.B,c'.h,c'.lay.take (k c'.st),c'.st.take (k c'.st)⟩ tk' rfl sio so rfl
   |ret d=>
    obtain⟨u,rfl,hu⟩:=hw;exact p u ⟨c'.B,c'.h,c'.lay.take (k c'.st),c'.st.take (k c'.st)⟩ tk' rfl sio so hu
theorem ak0(ok:P.Ok){f:String}{a:Addr}{g:Fn}{fd:FuncData}{body:List Stmt}(F:Ma P.H a g fd body){cf:CF}{can:Bool}{n:Nat}(room:Kp P.A P.l (n+1))(hcf:∀bs st,P.cf f bs st=Lb cf can g bs st)
 (hbody:∀L,(P.enter fd L a cf).Fun->SSs (P.enter fd L a cf) can body g.body):Hp P f a:=by
 intro c s bs vs Q E hs si hbs p;rw[hcf]at p;unfold Lb at p
 split at p
 ·rename_i hlen;refine wpAny_call (aak ok.wd F room hbody hs si hbs hlen (k:=λ _=>c.st.length) (λ _=>jf _) ?_)
  generalize dw cf can g.body (g.ps.zip bs) c.st=T at p ⊢
  cases T with
  |bad=>exact p.elim
  |exc x st'=>exact λ e h' B' Bx lay' tk fl ex=>p e h' B' Bx lay' tk fl ex
  |ok fl st'=>
   intro v c' tk hst si' st'' hv;cases fl with
   |next ρ'=>subst hv;exact p .none c' tk hst si' st'' (.none _)
   |ret d=>exact p v c' tk hst si' st'' hv
 ·exact p.elim
theorem ahh{c:Cfg}(x:P.SI c){k:Nat}{v:Value}{l:List (String×V)}(hb:um P.prog P.w P.C c.B c.lay (.cell k) v)(hk:c.st[k]? = some ⟨true,.obj l⟩):
 ∃B',P.SI ⟨B',c.h,c.lay,c.st.set k ⟨false,.obj l⟩⟩/\Step P.l [] c ⟨B',c.h,c.lay,c.st.set k ⟨false,.obj l⟩⟩/\P.RP B' v (.obj l):=
 U8 (b:=.cell k) (d:=.obj l) x hb (by simp only[freeze,hk];rfl)
theorem asr(ok:P.Ok){fI:Addr}{g:Fn}{fd:FuncData}{body:List Stmt}(F:Ma P.H fI g fd body){cf:CF}{can:Bool}{n:Nat}(room:Kp P.A P.l (n+2))(hcf:∀bs st,P.cf "Transaction" bs st=Wq cf can g bs st)
 (hm:makesIn P.K P.C=true) (hi:findIn P.K (.ref P.C) "__init__" = some (some (.ref fI))) (hf:typeIn P.K (.ref fI)=some (.type "function"))
 (hbody:∀(A':Around),Kp A' P.l (n+1)->∀L,(({ P with A:=A' }:Px).enter fd L fI cf).Fun->SSs (({ P with A:=A' }:Px).enter fd L fI cf) can body g.body):Hp P "Transaction" P.C:=by
 intro c s bs vs Q E hs si hbs p;rw[hcf]at p;unfold Wq at p
 split at p
 ·rename_i hlen;obtain⟨cB,ch,clay,cst⟩:=c;simp only at hs;subst hs;have X:=Kr ok si;refine wpAny_call ?_;obtain⟨hh,gg,dd,tt,os⟩:=s;refine make_core (makes_of X hm) (looks_findIn X hi) (λ self=>bind_fn X self hf) (.inl rfl) ?_;have room':Kp (P.A.under (.builtin "type.__call__" ⟨.ref P.C::vs,[]⟩)) P.l (n+1):=
   ⟨room.hh,room.fr,u_s room.dp,by show P.A.units+1+6*(n+1)+100 < _;have:=room.un;lia⟩
  generalize hA:P.A.under (.builtin "type.__call__" ⟨.ref P.C::vs,[]⟩)=A' at room'
  have ok':({ P with A:=A' }:Px).Ok:=⟨⟨_,room'⟩,ok.wd,ok.ev,ok.fr⟩
  generalize hh2:(hh.push emptyDict).push (instObj P.C hh.objs.size)=h₂
  have fr:∀a,hh.objs.size<=a->hh.get? a=none:=λ a h=>by
   cases e:hh.get? a with
   |none=>rfl
   |some o=>exact absurd (Heap.lt_size e) (jx.mpr h)
  have keep:∀b o,hh.get? b=some o->h₂.get? b=some o:=λ b o e=>by rw[<-hh2];exact Heap.get?_push_of_some _ (Heap.get?_push_of_some _ e)
  have hx:h₂.get? (hh.objs.size+1)=some (instObj P.C hh.objs.size):=by
   rw[<-hh2,<-Heap.size_push hh emptyDict];exact Heap.get?_push_size _ rfl
  have hdx:h₂.get? hh.objs.size=some (dictOf [] 0):=by rw[<-hh2];exact Heap.get?_push_of_some _ (Heap.get?_push_size _ rfl)
  obtain⟨siC,stD⟩:=si.push keep;have hidx:=xr si (fr (hh.objs.size+1) (Nat.le_succ _));have hidd:=xr si (fr hh.objs.size (jf _));obtain⟨siD,stG⟩:=SI.addHid (c:=⟨cB,hh,clay,cst⟩) (as:=[hh.objs.size+1,hh.objs.size]) (cl:=⟨true,.obj []⟩) siC stD (.obj hx hdx (.nil _)) (jl.mpr ⟨λ h=>Nat.succ_ne_self _ (uo.mp h),jl.mpr ⟨uw,List.nodup_nil⟩⟩) (λ b hb=>by
   rcases gb.mp hb with q|q
   ·subst q;exact⟨hidx.out,hidx.nl,hidx.nf⟩
   ·have q':=uo.mp q;subst q';exact⟨hidd.out,hidd.nl,hidd.nf⟩) (λ b hb=>by
   rcases gb.mp hb with q|q
   ·subst q;exact .inl (fr _ (Nat.le_succ _))
   ·have q':=uo.mp q;subst q';exact .inl (fr _ (jf _)))
  have hlc:clay.length=cst.length:=si.store.cells.length;have hb0:um P.prog P.w P.C cB (clay++[[hh.objs.size+1,hh.objs.size]]) (.cell cst.length) (.ref (hh.objs.size+1)):=⟨hh.objs.size+1,[hh.objs.size],by rw[<-hlc];simp,rfl⟩
  have hbsD:Bm P cB (clay++[[hh.objs.size+1,hh.objs.size]]) bs vs:=Bm.step (c':=⟨cB,h₂,clay++[[hh.objs.size+1,hh.objs.size]],cst++[⟨true,.obj []⟩]⟩) stG hbs;have F':Ma P.H fI g fd body:=F;have cons:Bm ({ P with A:=A' }:Px) cB (clay++[[hh.objs.size+1,hh.objs.size]]) (.cell cst.length::bs) (.ref (hh.objs.size+1)::vs):=by
   exact .cons hb0 hbsD
  refine aak (P:=({ P with A:=A' }:Px)) (c:=⟨cB,h₂,clay++[[hh.objs.size+1,hh.objs.size]],cst++[⟨true,.obj []⟩]⟩) (s:=⟨h₂,gg,dd,tt,os⟩) ok'.wd F' room' (hbody A' room') rfl siD cons (by simpa using hlen)
   (k:=λ st=>max (cst++[⟨true,.obj []⟩]:Store).length st.length) (λ st=>Nat.le_max_left _ _) ?_
  have p0:P.Post [] ⟨cB,hh,clay,cst⟩ ⟨hh,gg,dd,tt,os⟩ (back cst.length ((dw cf can g.body (g.ps.zip (.cell cst.length::bs)) (cst++[⟨true,.obj []⟩])).bind λ fl st'=>match fl with
   |.next _=>(match st'[cst.length]? with
    |some ⟨true,.obj l⟩=>.ok (.obj l) st'
    | _=>.bad)
   |.ret _=>.bad)) (λ c' v d=>P.RP c'.B v d) Q E:=p
  show ao6 _ _ _ _ (dw cf can g.body (g.ps.zip (.cell cst.length::bs)) (cst++[⟨true,.obj []⟩])) _
  clear p
  generalize dw cf can g.body (g.ps.zip (.cell cst.length::bs)) (cst++[⟨true,.obj []⟩])=T at p0 ⊢
  have out:∀c':Cfg,Step P.l [] ⟨cB,hh,clay,cst⟩ c'->Step P.l [] ⟨cB,hh,clay,cst⟩ ⟨c'.B,c'.h,c'.lay.take cst.length,c'.st.take cst.length⟩:=λ c' st=>by
   refine⟨st.keep,st.fr,st.frw,λ b h=>(nomatch h),λ a ha=>st.live a ((rm c'.lay cst.length c'.st).subset ha),st.base,st.new,λ i a as e=>?_⟩;obtain⟨as',q⟩:=st.heads i a as e;have hi:i<cst.length:=by rw[<-hlc];exact(iw.mp e).1
   exact⟨as',by show(c'.lay.take cst.length)[i]? = _;rw[List.getElem?_take,bf hi];exact q⟩
  cases T with
  |bad=>exact p0.elim
  |exc x st'=>
   intro e h' B' Bx lay' tk fl ex;have ex':Ij P.prog P.w P.C P.l [] ⟨cB,hh,clay,cst⟩ (st'.take (max (cst++[⟨true,.obj []⟩]:Store).length st'.length)) h' B' Bx lay':=ex.after si.frames stG;rw[qg (Nat.le_max_right _ _)]at ex';refine p0 e h' B' Bx (lay'.take cst.length) tk fl ?_;refine⟨ex'.base,ex'.inx,⟨ex'.store.cells.take _,(rm _ _ _).nodup ex'.store.nodup,λ a h=>ex'.store.out a ((rm _ _ _).subset h)⟩,λ L' hL' q=>ex'.frl L' hL' ((rm _ _ _).subset q),
    ex'.keep,ex'.fr,ex'.frw,λ a ha=>ex'.live a ((rm _ _ _).subset ha),ex'.new,λ i a as e=>?_⟩
   obtain⟨as',q⟩:=ex'.heads i a as e;have hi:i<cst.length:=by rw[<-hlc];exact(iw.mp e).1
   exact⟨as',by rw[List.getElem?_take,bf hi];exact q⟩
  |ok fl st'=>
   intro v c' tk hst si' st'' hv;rw[qg (Nat.le_max_right _ _)]at hst;subst hst;cases fl with
   |ret d=>exact p0.elim
   |next ρ'=>
    subst hv;cases hq:c'.st[cst.length]? with
    |none=>simp only[R.bind,hq]at p0;exact p0.elim
    |some cl=>
     obtain⟨lv,dt⟩:=cl;simp only[R.bind,hq]at p0;cases lv with
     |false=>exact p0.elim
     |true=>
      cases dt with
      |obj l=>
       have st3:Step P.l [] ⟨cB,hh,clay,cst⟩ c':=stG.trans si.frames st'';have hb1:um P.prog P.w P.C c'.B c'.lay (.cell cst.length) (.ref (hh.objs.size+1)):=um.step (P:=P) (c:=⟨cB,h₂,clay++[[hh.objs.size+1,hh.objs.size]],cst++[⟨true,.obj []⟩]⟩) st'' hb0;obtain⟨B2,si4,st4,r4⟩:=ahh (P:=P) si' hb1 hq;have st5:=out _ (st3.trans si.frames st4);have si5:=SI.take si4 cst.length;have e1:(c'.st.set cst.length ⟨false,.obj l⟩).take cst.length=c'.st.take cst.length:=by rw[List.take_set_of_le (jf _)]
       refine⟨rfl,?_⟩;exact p0 (.ref (hh.objs.size+1)) ⟨B2,c'.h,c'.lay.take cst.length,(c'.st.set cst.length ⟨false,.obj l⟩).take cst.length⟩ tk e1 si5 st5 r4
      | _=>exact p0.elim
 ·exact p.elim
end Mine.Internal
namespace Mine.Internal
noncomputable abbrev Got(p:Prop):=Option (PLift p)
namespace Got
noncomputable def map{p q:Prop}(x:Got p)(f:p->q):Got q:=match x with
 |some h=>some ⟨f h.down⟩
 |none=>none
noncomputable def yes{p:Prop}(h:p):Got p:=some ⟨h⟩
noncomputable def two{p q r:Prop}(x:Got p)(y:Got q)(f:p->q->r):Got r:=match x with
 |some h=>y.map (f h.down)
 |none=>none
noncomputable def on{p:Prop}(b:Bool)(k:b=true->Got p):Got p:=match b with
 |true=>k rfl
 |false=>none
noncomputable def eq{α : Type}[DecidableEq α]{p : α->Prop}(y x : α)(k:Got (p x)):Got (p y):=
 if h:y=x then k.map λ q=>h▸q else none
noncomputable def str{p:Str->Prop}(y:Str)(x:String)(k:Got (p (Str.ofString x))):Got (p y):=eq y _ k
noncomputable def or{p:Prop}(x y:Got p):Got p:=match x with
 |some h=>some h
 |none=>y
theorem get{p:Prop}:∀{x:Got p},x.isSome=true->p
 |some h,_=>h.down
end Got
noncomputable def Pn(sc:Scope)(x:String):Bool:=decide (sc.names.lookup (Str.ofString x)=some .globalImplicit)
noncomputable def fnNames(f:String):Bool:=(tab f).isSome
structure ud(P:Px)(top:Bool)(sc:Scope):Prop where
 ok:P.Ok
 gl:∀x,Pn sc x=true->P.env.kindOf (Str.ofString x)=some .globalImplicit
 tp:top=true->P.env.scope=sc
 calls:∀f,fnNames f=true->∃a,P.mg (Str.ofString f)=some (.ref a)/\keepIn P.K (.ref a)=true/\Hp P f a
 new:P.mg (Str.ofString "Transaction")=some (.ref P.C)/\keepIn P.K (.ref P.C)=true/\Hp P "Transaction" P.C
theorem ab4{env:Env}{x:Str}:∀{names:List (Str×NameKind)},names.lookup x=some .globalImplicit->
 (names.map λ (n,k)=>if(k==NameKind.free&&env.scope.kind==.function&&env.kindOf n==some .cell)then(n,NameKind.cell)else(n,k)).lookup x=some .globalImplicit:=by
 intro names
 induction names with
 |nil=>exact id
 |cons p r ih=>
  obtain⟨n,k⟩:=p;intro h;rw[je];rw[ou]at h;cases hx:x==n with
  |true=>
   rw[hx]at h
   (first|exact bh h|obtain rfl:=ao h|cases h)
   exact ou.trans (by rw[hx])
  |false=>
   rw[hx]at h;have key:∀(b:Bool) l,List.lookup x ((if b=true then(n,NameKind.cell)else(n,k))::l)=List.lookup x l:=λ b l=>by cases b<;>exact ou.trans (by rw[hx])
   exact(key _ _).trans (ih h)
theorem ud.comp{P:Px}{sc scope:Scope}{x:String}{caps:List String}(c:ud P true sc)(k:I3 P scope x caps) (Cx:Addr):ud (P.comp scope Cx) false scope where
 ok:=ajv c.ok k Cx
 gl y h:=ab4 (dh h)
 tp h:=nomatch h
 calls:=c.calls
 new:=c.new
noncomputable def afz(sc scope:Scope)(x:String)(caps:List String):Got (∀P:Px,P.env.scope=sc->I3 P scope x caps):=
 if h:(∀y∈scope.names,y.2≠.cell)/\scope.kind=.function/\(∀y∈scope.names,y.2=.local->scope.names.lookup y.1=some .local)/\scope.names.lookup (Str.ofString x)=some .local/\
  (∀p∈scope.names,p.2=.free->sc.names.lookup p.1=some .cell)/\∀y∈caps,scope.names.lookup (Str.ofString y)=some .free
 then .yes λ P hs=>⟨h.1,h.2.1,h.2.2.1,h.2.2.2.1,by show ∀p∈_,_->P.env.scope.names.lookup _ = _;rw[hs];exact h.2.2.2.2.1,h.2.2.2.2.2⟩
 else none
noncomputable def Z1(e:Expr):Got (∀env v,foldedSetIterable e env v=pure v):=match e with
 |.Name .. =>.yes λ _ _=>rfl
 |.Call .. =>.yes λ _ _=>rfl
 |.Attribute .. =>.yes λ _ _=>rfl
 |.Subscript .. =>.yes λ _ _=>rfl
 |.Tuple .. =>.yes λ _ _=>rfl
 |.List .. =>.yes λ _ _=>rfl
 |.BinOp .. =>.yes λ _ _=>rfl
 |.IfExp .. =>.yes λ _ _=>rfl
 |.ListComp .. =>.yes λ _ _=>rfl
 |.BoolOp .. =>.yes λ _ _=>rfl
 | _=>none
noncomputable def aam:(keys:List (Option Expr))->(ks:List String)->Got (KeysAre keys ks)
 |[],[]=>.yes .nil
 |some (.Constant (.str y) n q)::keys,x::ks=>.str (p:=λ y=>KeysAre (some (.Constant (.str y) n q)::keys) (x::ks)) y x ((aam keys ks).map (KeysAre.cons rfl))
 | _,_=>none
theorem acg(cf:CF)(ρ:Loc)(o:J8)(a b:Ex)(st:Store):iu cf ρ (.cmp o a b) st=(ug cf ρ (.cmp o a b) st).bind λ b st=>.ok (.bool b) st:=by
 show R.bind (iu cf ρ a st) _ = R.bind (R.bind (iu cf ρ a st) _) _;cases iu cf ρ a st with
 |ok x st'=>
  show R.bind (iu cf ρ b st') _ = R.bind (R.bind (iu cf ρ b st') _) _;cases iu cf ρ b st' with
  |ok y st''=>show m5 (Option.map _ (xg o x y)) st''=R.bind (m5 (xg o x y) st'') _;cases xg o x y<;>rfl
  |exc=>rfl
  |bad=>rfl
 |exc=>rfl
 |bad=>rfl
theorem ala{P:Px}{la lb la' lb':Expr}{a b a' b':Ex}{o o':J8}{p1 p2 pos:Pos}(h1:SE P (.Compare la [Oa o] [lb] p1) (.cmp o a b))(h2:SE P (.Compare la' [Oa o'] [lb'] p2) (.cmp o' a' b')):
 SE P (.BoolOp .And [.Compare la [Oa o] [lb] p1,.Compare la' [Oa o'] [lb'] p2] pos) (.andE (.cons (.cmp o a b) (.cons (.cmp o' a' b') .nil))):=by
 intro ρ c s Q E hs si ni p;have p:P.Post [] c s ((R.bind (ug P.cf ρ (.cmp o a b) c.st) λ b st=>match b with
  |true=>R.bind (ug P.cf ρ (.cmp o' a' b') st) λ b st=>match b with
   |true=>.ok true st
   |false=>.ok false st
  |false=>.ok false st).bind λ b st=>.ok (V.bool b) st) (λ c' v d=>P.RP c'.B v d) Q E:=p
 refine wpAny_And2 (h1 ρ c s _ E hs si ni ?_);rw[acg]
 generalize ug P.cf ρ (.cmp o a b) c.st=T at p ⊢
 induction T with
 |bad=>exact p.elim
 |exc x st'=>exact p
 |ok t st'=>
  intro v cC tk hst siB stB hv;subst hst;cases Iu hv;refine wpAny_truthy_bool ?_
  induction t with
  |false=>exact p (.bool false) cC tk rfl siB stB (.bool _ _)
  |true=>
   rw[bf rfl];refine h2 ρ cC _ _ E rfl siB (ni.step si.frames stB) ?_;rw[acg];have pC:P.Post [] cC { s with heap:=cC.h,toks:=tk } (((ug P.cf ρ (.cmp o' a' b') cC.st).bind λ b st=>match b with|true=>.ok true st|false=>.ok false st).bind λ b st=>.ok (.bool b) st) (λ c' v d=>P.RP c'.B v d) Q E:=iz.after (tk:=tk) si.frames stB p
   generalize ug P.cf ρ (.cmp o' a' b') cC.st=T2 at pC ⊢
   induction T2 with
   |bad=>exact pC.elim
   |exc x st'=>exact pC
   |ok t2 st'=>cases t2<;>exact pC
section
variable (top:Bool)(sc:Scope)
noncomputable def GE(ae:Expr)(e:Ex):Prop:=∀P:Px,ud P top sc->SE P ae e
noncomputable def GB(ae:Expr)(e:Ex):Prop:=∀P:Px,ud P top sc->SB P ae e
noncomputable def GI(ae:Expr)(e:Ex):Prop:=∀P:Px,ud P top sc->SIt P ae e
noncomputable def GT(ae:Expr)(e:Ex):Prop:=∀P:Px,ud P top sc->ST P ae e
noncomputable def GO(lo:Option Expr)(e:Ii):Prop:=∀P:Px,ud P top sc->SO P lo e
noncomputable def GEs(les:List Expr)(es:Aq):Prop:=∀P:Px,ud P top sc->SEL P les es/\SBs P les es/\Ak les=true
noncomputable def GTs(les:List Expr)(es:Aq):Prop:=∀P:Px,ud P top sc->ahm P les es/\SOr P les es
noncomputable def a0h(les:List Expr)(e:Ii):Prop:=∀P:Px,ud P false sc->abp P les e
end
variable{top:Bool}{sc:Scope}
theorem Zd{b:Bool}(h:(!b)=true):b=false:=by cases b<;>first|rfl|cases h
noncomputable def mkB(ae:Expr)(e:Ex)(r:Got (GE top sc ae e)):Got (GB top sc ae e):=match hn:Vj e with
 |none=>r.map λ k P (c:ud P top sc)=>aw1 hn (k P c)
 |some _=>match e,ae with
  |.nm x,.Name y q=>.str (p:=λ y=>GB top sc (.Name y q) (.nm x)) y x (.on (uf x) λ h=>.yes λ P (c:ud P top sc)=>aub c.ok h)
  | _,_=>none
noncomputable def callee(f:String)(sc:Scope)(ae:Expr):Bool:=Pn sc f&&notStar ae
theorem yx{f:String}{ae:Expr}(h:callee f sc ae=true){P:Px}(c:ud P top sc):P.env.kindOf (Str.ofString f)=some .globalImplicit:=c.gl _ (jd.mp h).1
theorem yq{f:String}{ae:Expr}(h:callee f sc ae=true):notStar ae=true:=(jd.mp h).2
mutual
noncomputable def Dk(top:Bool)(sc:Scope):(e:Ex)->(ae:Expr)->Got (GE top sc ae e)
 |.nm x,ae=>(match ae with|.Name y p=>.str (p:=λ y=>GE top sc (.Name y p) _) y x (.on (uf x) λ h=>.yes λ P (c:ud P top sc)=>awr c.ok h) | _=>none)
 |.gl x,ae=>(match ae with|.Name y p=>.str (p:=λ y=>GE top sc (.Name y p) _) y x (.on (uf x) λ h=>.on (Pn sc x) λ h2=>.yes λ P (c:ud P top sc)=>avc c.ok h (c.gl x h2)) | _=>none)
 |.int i,ae=>(match ae with|.Constant (.int j) _ _=>.eq (p:=λ i=>GE top sc _ (.int i)) i j (.yes λ _ _=>asv) | _=>none)
 |.boo b,ae=>(match ae with|.Constant (.bool d) _ _=>.eq (p:=λ b=>GE top sc _ (.boo b)) b d (.yes λ _ _=>asa) | _=>none)
 |.non,ae=>(match ae with|.Constant .none _ _=>.yes λ _ _=>ar8 | _=>none)
 |.byt l,ae=>(match ae with|.Constant (.bytes m) _ _=>.eq (p:=λ l=>GE top sc _ (.byt l)) l m (.yes λ _ _=>aqc) | _=>none)
 |.str x,ae=>(match ae with|.Constant (.str y) p q=>.str (p:=λ y=>GE top sc (.Constant (.str y) p q) _) y x (.yes λ _ _=>at3) | _=>none)
 |.bin o a b,ae=>(match ae with|.BinOp la op lb p=>.eq (p:=λ op=>GE top sc (.BinOp la op lb p) _) op (ato o) ((Dk top sc a la).two (Dk top sc b lb) λ h1 h2 P (c:ud P top sc)=>aq0 (h1 P c) (h2 P c)) | _=>none)
 |.neg a,ae=>(match ae with|.UnaryOp .USub la _=>(Dk top sc a la).map λ h P (c:ud P top sc)=>aq2 (h P c) | _=>none)
 |.cmp o a b,ae=>(match ae with|.Compare la [op] [lb] p=>.eq (p:=λ op=>GE top sc (.Compare la [op] [lb] p) _) op (Oa o) (.on (!(behindInMarks (Oa o) lb)) λ h=>(Dk top sc a la).two (Dk top sc b lb) λ h1 h2 P (c:ud P top sc)=>abr c.ok (h1 P c) (h2 P c) (Zd h)) | _=>none)
 |.cmp2 _ _ _ _ _,_=>none
 |.notE _,_=>none
 |.andE es,ae=>(match es with
  |.cons (.cmp o a b) (.cons (.cmp o' a' b') .nil)=>(match ae with
   |.BoolOp .And [.Compare la [op] [lb] p,.Compare la' [op'] [lb'] q] r=>.eq (p:=λ op=>GE top sc (.BoolOp .And [.Compare la [op] [lb] p,.Compare la' [op'] [lb'] q] r) _) op (Oa o) (.eq (p:=λ op'=>GE top sc (.BoolOp .And [.Compare la [_] [lb] p,.Compare la' [op'] [lb'] q] r) _) op' (Oa o') (.on (!(behindInMarks (Oa o) lb)) λ h=>.on (!(behindInMarks (Oa o') lb')) λ h'=>
    ((Dk top sc a la).two (Dk top sc b lb) And.intro).two ((Dk top sc a' la').two (Dk top sc b' lb') And.intro) λ k k' P (c:ud P top sc)=>ala (abr c.ok (k.1 P c) (k.2 P c) (Zd h)) (abr c.ok (k'.1 P c) (k'.2 P c) (Zd h'))))
   | _=>none)
  | _=>none)
 |.orE _,_=>none
 |.ife t a b,ae=>(match ae with|.IfExp lt la lb _=>(mkT top sc t lt).two ((Dk top sc a la).two (Dk top sc b lb) And.intro) λ h k P (c:ud P top sc)=>aqg (h P c) (k.1 P c) (k.2 P c) | _=>none)
 |.attr a n,ae=>(match a with
  |.nm x=>(match ae with|.Attribute (.Name y p) m q=>.str (p:=λ y=>GE top sc (.Attribute (.Name y p) m q) _) y x (.str (p:=λ m=>GE top sc (.Attribute (.Name _ p) m q) _) m n (.on (uf x) λ h=>.on (decide (n∈fieldNames)) λ h2=>.yes λ P (c:ud P top sc)=>alr c.ok h (dh h2))) | _=>none)
  | _=>none)
 |.idx a i,ae=>(match ae with|.Subscript la li _=>(mkB la a (Dk top sc a la)).two (Dk top sc i li) λ h k P (c:ud P top sc)=>at5 (h P c) (k P c) | _=>none)
 |.slc a lo hi,ae=>(match ae with|.Subscript la (.Slice llo lhi none _) _=>(Dk top sc a la).two ((mkO top sc lo llo).two (mkO top sc hi lhi) And.intro) λ h k P (c:ud P top sc)=>atn (h P c) (k.1 P c) (k.2 P c) | _=>none)
 |.rev a,ae=>(match ae with|.Subscript la (.Slice none none (some (.UnaryOp .USub (.Constant (.int i) k1 p1) p2)) p3) p4=>.eq (p:=λ i=>GE top sc (.Subscript la (.Slice none none (some (.UnaryOp .USub (.Constant (.int i) k1 p1) p2)) p3) p4) _) i 1 ((Dk top sc a la).map λ h P (c:ud P top sc)=>asq (h P c)) | _=>none)
 |.tup es,ae=>(match ae with|.Tuple les _ _=>(Xo top sc es les).map λ h P (c:ud P top sc)=>asf (h P c).1.ses | _=>none)
 |.lst es,ae=>(match ae with|.List les _=>(Xo top sc es les).map λ h P (c:ud P top sc)=>apu (h P c).1.ses | _=>none)
 |.dct ks es,ae=>(match ae with
  |.Dict keys les _=>.on (decide (keys.length=les.length/\keys≠[]/\keys.length<=15)) λ q=>(aam keys ks).two (Xo top sc es les) λ k h P (c:ud P top sc)=>have q:=dh q;ap3 c.ok k q.1 q.2.1 q.2.2 (h P c).1
  | _=>none)
 |.comp e x it cond caps,ae=>(match ae with
  |.ListComp elt [⟨.Name y p,iter,ifs,k⟩] scope q=>.eq (p:=λ k=>GE top sc (.ListComp elt [⟨.Name y p,iter,ifs,k⟩] scope q) _) k 0 (.str (p:=λ y=>GE top sc (.ListComp elt [⟨.Name y p,iter,ifs,0⟩] scope q) _) y x (.on top λ ht=>((afz sc scope x caps).two ((Z1 iter).two ((Dk false scope e elt).two (apb scope cond ifs) And.intro) And.intro) And.intro).two
   (((Dk top sc it iter).map λ h P (c:ud P top sc)=>aa9 c.ok (h P c)).or (mkR top sc it iter)) λ k hi P c=>have kc:=k.1 P (c.tp ht);have c':ud P true sc:=ht▸c
    al6 c.ok kc (k.2.1 _) (hi P c) (λ Cx=>k.2.2.1 _ (c'.comp kc Cx)) λ Cx=>k.2.2.2 _ (c'.comp kc Cx)))
  | _=>none)
 |.call f es,ae=>(match ae with
  |.Call (.Name y p) les [] q=>.str (p:=λ y=>GE top sc (.Call (.Name y p) les [] q) _) y f (.on (uf f) λ h=>.on (Pn sc f) λ h2=>.on (fnNames f) λ h3=>(Xo top sc es les).map λ h4 P (c:ud P top sc)=>let⟨_,g1,g2,g3⟩:=c.calls f h3;akv c.ok h (c.gl _ h2) g1 g2 (h4 P c).2.2 g3 (h4 P c).2.1)
  | _=>none)
 |.new es,ae=>(match ae with
  |.Call (.Name y p) les [] q=>.str (p:=λ y=>GE top sc (.Call (.Name y p) les [] q) _) y "Transaction" (.on (Pn sc "Transaction") λ h2=>(Xo top sc es les).map λ h4 P (c:ud P top sc)=>apv c.ok (c.gl _ h2) c.new.1 c.new.2.1 (h4 P c).2.2 c.new.2.2 (h4 P c).2.1)
  | _=>none)
 |.len a,ae=>(match ae with|.Call (.Name y p) [la] [] q=>.str (p:=λ y=>GE top sc (.Call (.Name y p) [la] [] q) _) y "len" (.on (callee "len" sc la) λ h=>(mkB la a (Dk top sc a la)).map λ k P (c:ud P top sc)=>asb c.ok (yx h c) (yq h) (k P c)) | _=>none)
 |.isl a,ae=>(match ae with
  |.Call (.Name y p) [la,.Name z r] [] q=>.str (p:=λ y=>GE top sc (.Call (.Name y p) [la,.Name z r] [] q) _) y "isinstance" (.str (p:=λ z=>GE top sc (.Call (.Name _ p) [la,.Name z r] [] q) _) z "list" (.on (callee "isinstance" sc la) λ h=>.on (Pn sc "list") λ h2=>(Dk top sc a la).map λ k P (c:ud P top sc)=>ap7 c.ok (yx h c) (c.gl _ h2) (yq h) (k P c)))
  | _=>none)
 |.isb a,ae=>(match ae with
  |.Call (.Name y p) [la,.Name z r] [] q=>.str (p:=λ y=>GE top sc (.Call (.Name y p) [la,.Name z r] [] q) _) y "isinstance" (.str (p:=λ z=>GE top sc (.Call (.Name _ p) [la,.Name z r] [] q) _) z "bytes" (.on (callee "isinstance" sc la) λ h=>.on (Pn sc "bytes") λ h2=>(Dk top sc a la).map λ k P (c:ud P top sc)=>asi c.ok (yx h c) (c.gl _ h2) (yq h) (k P c)))
  | _=>none)
 |.mkb a,ae=>(match ae with|.Call (.Name y p) [la] [] q=>.str (p:=λ y=>GE top sc (.Call (.Name y p) [la] [] q) _) y "bytes" (.on (callee "bytes" sc la) λ h=>(Dk top sc a la).map λ k P (c:ud P top sc)=>aty c.ok (yx h c) (yq h) (k P c)) | _=>none)
 |.mkd a,ae=>(match ae with|.Call (.Name y p) [la] [] q=>.str (p:=λ y=>GE top sc (.Call (.Name y p) [la] [] q) _) y "dict" (.on (callee "dict" sc la) λ h=>(Dk top sc a la).map λ k P (c:ud P top sc)=>arb c.ok (yx h c) (yq h) (k P c)) | _=>none)
 |.all a,ae=>(match ae with|.Call (.Name y p) [la] [] q=>.str (p:=λ y=>GE top sc (.Call (.Name y p) [la] [] q) _) y "all" (.on (callee "all" sc la) λ h=>(Dk top sc a la).map λ k P (c:ud P top sc)=>aru c.ok (yx h c) (yq h) (k P c)) | _=>none)
 |.rng _,_=>none
 |.bitlen a,ae=>(match ae with|.Call (.Attribute la m ap) [] [] p=>.str (p:=λ m=>GE top sc (.Call (.Attribute la m ap) [] [] p) (.bitlen a)) m "bit_length" (.on (baseOk la) λ h=>.on (ap.endLine==p.line) λ h2=>(Dk top sc a la).map λ k P (c:ud P top sc)=>ael h h2 (k P c)) | _=>none)
 |.tobytes a b,ae=>(match ae with
  |.Call (.Attribute la m ap) [lb,.Constant (.str z) k q] [] p=>.str (p:=λ m=>GE top sc (.Call (.Attribute la m ap) [lb,.Constant (.str z) k q] [] p) (.tobytes a b)) m "to_bytes" (.str (p:=λ z=>GE top sc (.Call (.Attribute la _ ap) [lb,.Constant (.str z) k q] [] p) (.tobytes a b)) z "big" (.on (baseOk la) λ h=>.on (ap.endLine==p.line) λ h2=>.on (notStar lb) λ h3=>(Dk top sc a la).two (Dk top sc b lb) λ k k2 P (c:ud P top sc)=>abd h h2 h3 (k P c) (k2 P c)))
  | _=>none)
 |.frombytes a,ae=>(match ae with
  |.Call (.Attribute (.Name y n) m ap) [la,.Constant (.str z) k q] [] p=>.str (p:=λ y=>GE top sc (.Call (.Attribute (.Name y n) m ap) [la,.Constant (.str z) k q] [] p) (.frombytes a)) y "int" (.str (p:=λ m=>GE top sc (.Call (.Attribute (.Name _ n) m ap) [la,.Constant (.str z) k q] [] p) (.frombytes a)) m "from_bytes" (.str (p:=λ z=>GE top sc (.Call (.Attribute (.Name _ n) _ ap) [la,.Constant (.str z) k q] [] p) (.frombytes a)) z "big" (.on (callee "int" sc la) λ h=>.on (ap.endLine==p.line) λ h2=>(Dk top sc a la).map λ k P (c:ud P top sc)=>Vx c.ok h2 (yx h c) (yq h) (k P c))))
  | _=>none)
 |.join a b,ae=>(match ae with
  |.Call (.Attribute la m ap) [lb] [] p=>.str (p:=λ m=>GE top sc (.Call (.Attribute la m ap) [lb] [] p) (.join a b)) m "join" (.on (baseOk la) λ h=>.on (ap.endLine==p.line) λ h2=>.on (notStar lb) λ h3=>(Dk top sc a la).two (Dk top sc b lb) λ k k2 P (c:ud P top sc)=>alu h h2 h3 (k P c) (k2 P c))
  | _=>none)
noncomputable def mkR(top:Bool)(sc:Scope):(e:Ex)->(ae:Expr)->Got (GI top sc ae e)
 |.rng a,ae=>(match ae with|.Call (.Name z p) [la] [] q=>.str (p:=λ y=>GI top sc (.Call (.Name y p) [la] [] q) _) z "range" (.on (callee "range" sc la) λ h=>(Dk top sc a la).map λ k P (c:ud P top sc)=>ake c.ok (yx h c) (yq h) (k P c)) | _=>none)
 | _,_=>none
noncomputable def mkT(top:Bool)(sc:Scope):(e:Ex)->(ae:Expr)->Got (GT top sc ae e)
 |.notE a,ae=>(match ae with|.UnaryOp .Not la _=>(mkT top sc a la).map λ k P (c:ud P top sc)=>arv (k P c) | _=>none)
 |.andE es,ae=>(match ae with|.BoolOp .And les _=>(arw top sc es les).map λ k P (c:ud P top sc)=>arq (k P c).1 | _=>none)
 |.orE es,ae=>(match ae with|.BoolOp .Or les _=>(arw top sc es les).map λ k P (c:ud P top sc)=>ayc (k P c).2 | _=>none)
 |.nm x,ae=>(match ae with|.Name y p=>.str (p:=λ y=>GT top sc (.Name y p) _) y x (.on (uf x) λ h=>.yes λ P (c:ud P top sc)=>avl c.ok h) | _=>none)
 |.cmp o a b,ae=>(match ae with|.Compare la [op] [lb] p=>.eq (p:=λ op=>GT top sc (.Compare la [op] [lb] p) _) op (Oa o) (.on (!(behindInMarks (Oa o) lb)) λ h=>(Dk top sc a la).two (Dk top sc b lb) λ h1 h2 P (c:ud P top sc)=>ap9 c.ok (h1 P c) (h2 P c) (Zd h)) | _=>none)
 |.cmp2 o o' a b e,ae=>(match ae with
  |.Compare la [op,op'] [lb,lc] p=>.eq (p:=λ op=>GT top sc (.Compare la [op,op'] [lb,lc] p) _) op (Oa o) (.eq (p:=λ op'=>GT top sc (.Compare la [_,op'] [lb,lc] p) _) op' (Oa o') (.on (!(lastMarks [Oa o,Oa o'] [lb,lc])) λ h=>(Dk top sc a la).two ((Dk top sc b lb).two (Dk top sc e lc) And.intro) λ h1 h2 P (c:ud P top sc)=>alb c.ok (h1 P c) (h2.1 P c) (h2.2 P c) (Zd h)))
  | _=>none)
 |.ife t a b,ae=>(match ae with|.IfExp lt la lb _=>(mkT top sc t lt).two ((mkT top sc a la).two (mkT top sc b lb) And.intro) λ h k P (c:ud P top sc)=>aq4 (h P c) (k.1 P c) (k.2 P c) | _=>none)
 |.isl a,ae=>(match ae with
  |.Call (.Name y p) [la,.Name z r] [] q=>.str (p:=λ y=>GT top sc (.Call (.Name y p) [la,.Name z r] [] q) _) y "isinstance" (.str (p:=λ z=>GT top sc (.Call (.Name _ p) [la,.Name z r] [] q) _) z "list" (.on (callee "isinstance" sc la) λ h=>.on (Pn sc "list") λ h2=>(Dk top sc a la).map λ k P (c:ud P top sc)=>arj c.ok (yx h c) (c.gl _ h2) (yq h) (k P c)))
  | _=>none)
 |.isb a,ae=>(match ae with
  |.Call (.Name y p) [la,.Name z r] [] q=>.str (p:=λ y=>GT top sc (.Call (.Name y p) [la,.Name z r] [] q) _) y "isinstance" (.str (p:=λ z=>GT top sc (.Call (.Name _ p) [la,.Name z r] [] q) _) z "bytes" (.on (callee "isinstance" sc la) λ h=>.on (Pn sc "bytes") λ h2=>(Dk top sc a la).map λ k P (c:ud P top sc)=>aqp c.ok (yx h c) (c.gl _ h2) (yq h) (k P c)))
  | _=>none)
 | _,_=>none
noncomputable def Xo(top:Bool)(sc:Scope):(es:Aq)->(les:List Expr)->Got (GEs top sc les es)
 |.nil,les=>(match les with|[]=>.yes λ _ _=>⟨.nil,amy,rfl⟩ | _::_=>none)
 |.cons e es,les=>(match les with
  |le::les=>.on (notStar le) λ h=>((Dk top sc e le).two (mkB le e (Dk top sc e le)) And.intro).two (Xo top sc es les) λ k r P (c:ud P top sc)=>⟨.cons h (k.1 P c) (r P c).1,ahj h (k.2 P c) (r P c).2.1,jd.mpr ⟨h,(r P c).2.2⟩⟩
  |[]=>none)
noncomputable def arw(top:Bool)(sc:Scope):(es:Aq)->(les:List Expr)->Got (GTs top sc les es)
 |.nil,les=>(match les with|[]=>.yes λ _ _=>⟨agk,alc⟩ | _::_=>none)
 |.cons e es,les=>(match les with|le::les=>(mkT top sc e le).two (arw top sc es les) λ k r P (c:ud P top sc)=>⟨ae0 (k P c) (r P c).1,ahr (k P c) (r P c).2⟩|[]=>none)
noncomputable def mkO(top:Bool)(sc:Scope):(e:Ii)->(lo:Option Expr)->Got (GO top sc lo e)
 |.none,lo=>(match lo with|none=>.yes λ _ _=>akj|some _=>none)
 |.some e,lo=>(match lo with|some le=>(Dk top sc e le).map λ k P (c:ud P top sc)=>ami (k P c)|none=>none)
noncomputable def apb(sc:Scope):(e:Ii)->(les:List Expr)->Got (a0h sc les e)
 |.none,les=>(match les with|[]=>.yes λ _ _=>aea | _::_=>none)
 |.some e,les=>(match les with|[le]=>(mkT false sc e le).map λ k P c=>afh (k P c) | _=>none)
end
end Mine.Internal
namespace Mine.Internal
noncomputable def Cy:Exc->String
 |.rlp=>"RlpFault"
 |.tx=>"TxFault"
structure Ie(P:Px)(can:Bool)(sc:Scope):Prop where
 c:ud P true sc
 f:P.Fun
 kind:sc.kind=.function
 nocell:(sc.names.all λ p=>decide (p.2≠.cell))=true->P.env.cells=[]
 rais:can=true->∀(x:Exc),P.env.kindOf (Str.ofString (Cy x))=some .globalImplicit->∀(w:Str) (n:Nat) (p1 p2 p3 p4:Pos),Mt P (.Raise (some (.Call (.Name (Str.ofString (Cy x)) p1) [.Constant (.str w) n p2] [] p3)) none p4) x
noncomputable def ac3(sc:Scope)(x:String):Bool:=decide (sc.names.lookup (Str.ofString x)=some .local\/sc.names.lookup (Str.ofString x)=some .cell)
theorem Rh{P:Px}{can:Bool}{sc:Scope}{x:String}(h:ac3 sc x=true)(c:Ie P can sc):P.env.kindOf (Str.ofString x)=some .local\/P.env.kindOf (Str.ofString x)=some .cell:=by
 have h:=dh h;rw[<-c.c.tp rfl]at h;exact h
noncomputable def aiw(sc:Scope):Env:={ scope:=sc,locals:=0,globals:=0,cells:=[] }
theorem Zu{P:Px}{can:Bool}{sc:Scope}(c:Ie P can sc)(t:List Expr)(v:Expr):swappedStores t v P.env=swappedStores t v (aiw sc):=by
 rw[<-c.c.tp rfl]
 rfl
noncomputable def pureOf{α : Type}:Sem α->Option α
 |.pure a=>some a
 | _=>none
theorem Uc{α : Type}{x:Sem α}{a : α}(h:pureOf x=some a):x=pure a:=by
 cases x with
 |pure b=>(first|exact bh h|obtain rfl:=ao h|cases h);rfl
 | _=>(first|exact bh h|obtain rfl:=ao h|cases h)
section
variable (sc:Scope)
noncomputable def GTg(ae:Expr)(t:Tg):Prop:=∀(P:Px) (can:Bool),Ie P can sc->STg P ae t
noncomputable def azb(ats:List Expr)(ts:Uu):Prop:=∀(P:Px) (can:Bool),Ie P can sc->ajg P ats ts
noncomputable def GD(ae:Expr)(e:Ex):Prop:=∀(P:Px) (can:Bool),Ie P can sc->SD P ae e
noncomputable def GS(st:Stmt)(σ : St):Prop:=∀(P:Px) (can:Bool),Ie P can sc->SS P can st σ
noncomputable def GSs(sts:List Stmt)(σs:u9):Prop:=∀(P:Px) (can:Bool),Ie P can sc->SSs P can sts σs
end
mutual
noncomputable def arz(sc:Scope):(t:Tg)->(ae:Expr)->Got (GTg sc ae t)
 |.nm x,ae=>(match ae with|.Name y p=>.str (p:=λ y=>GTg sc (.Name y p) _) y x (.on (ac3 sc x) λ h=>.yes λ P can (c:Ie P can sc)=>atg c.f (Rh h c)) | _=>none)
 |.attr x n,ae=>(match ae with|.Attribute (.Name y p) m q=>.str (p:=λ y=>GTg sc (.Attribute (.Name y p) m q) (.attr x n)) y x (.str (p:=λ m=>GTg sc (.Attribute (.Name _ p) m q) (.attr x n)) m n (.on (uf x) λ h=>.on (decide (n∈fieldNames)) λ h2=>.yes λ P can c=>aia c.f h (dh h2))) | _=>none)
 |.idx x k,ae=>(match ae with|.Subscript (.Name y p) li q=>.str (p:=λ y=>GTg sc (.Subscript (.Name y p) li q) _) y x (.on (uf x) λ h=>(Dk true sc k li).map λ h2 P can (c:Ie P can sc)=>ak3 c.f h (h2 P c.c)) | _=>none)
 |.tup ts,ae=>(match ae with|.Tuple ats _ _=>.on (Ak ats) λ h=>.on (decide (ats.length=Kf ts)) λ h2=>(anz sc ts ats).map λ k P can c=>aj6 c.f h (dh h2) (k P can c) | _=>none)
noncomputable def anz(sc:Scope):(ts:Uu)->(ats:List Expr)->Got (azb sc ats ts)
 |.nil,ats=>(match ats with|[]=>.yes λ _ _ _=>af0 | _::_=>none)
 |.cons t ts,ats=>(match ats with|a::ats=>.on (notStar a) λ h=>(arz sc t a).two (anz sc ts ats) λ k r P can c=>afr h (k P can c) (r P can c)|[]=>none)
end
noncomputable def mkD(sc:Scope):(e:Ex)->(ae:Expr)->Got (GD sc ae e)
 |.lst es,ae=>(match ae with|.List les _=>(Xo true sc es les).map λ h P can c=>atx (h P c.c).1.ses | _=>none)
 |.dct ks es,ae=>(match ae with
  |.Dict keys les _=>.on (decide (keys.length=les.length/\keys≠[]/\keys.length<=15)) λ q=>(aam keys ks).two (Xo true sc es les) λ k h P can c=>have q:=dh q;asz c.c.ok k q.1 q.2.1 q.2.2 (h P c.c).1
  | _=>none)
 |.mkd a,ae=>(match ae with|.Call (.Name y p) [la] [] q=>.str (p:=λ y=>GD sc (.Call (.Name y p) [la] [] q) (.mkd a)) y "dict" (.on (callee "dict" sc la) λ h=>(Dk true sc a la).map λ k P can c=>aqv c.c.ok (yx h c.c) (yq h) (k P c.c)) | _=>none)
 | _,_=>none
noncomputable def acr:(ts:Uu)->Option { xs:List String // ts=Hv xs }
 |.nil=>some ⟨[],rfl⟩
 |.cons (.nm x) ts=>(match acr ts with
  |some xs=>some ⟨x::xs.1,au (Uu.cons (.nm x)) xs.2⟩
  |none=>none)
 | _=>none
noncomputable def ap1(sc:Scope)(ts:Uu)(e:Ex)(at' av:Expr)(pos:Pos)(hd:Ba e=false)(hc:Cz av=true):Got (GS sc (.Assign [at'] av pos) (.asg (.tup ts) e)):=match at' with
 |.Tuple ats k p=>(match acr ts with
  |some xs=>if h:pureOf (swappedStores [.Tuple ats k p] av (aiw sc))=some (some (xs.1.map Str.ofString))/\xs.1.Nodup/\∀x∈xs.1,sc.names.lookup (Str.ofString x)=some .local
   then(Dk true sc e av).map λ h4 P can c=>xs.2▸ak4 c.f hd hc ((Zu c _ _).trans (Uc h.1)) (λ x hx=>by show P.env.scope.names.lookup _ = _;rw[c.c.tp rfl];exact h.2.2 x hx) h.2.1 (h4 P c.c)
   else none
  |none=>none)
 | _=>none
theorem Z7{P:Px}{can:Bool}{sc scope:Scope}(c:Ie P can sc){y xn:Str}{py px spos:Pos}{elt iter:Expr}{ifs:List Expr}{pos:Pos}{k:Nat}
 (h:(sc.names.lookup y==some .local&&py.line==pos.line&&!(scope.names.any λ (n,k)=>n==y&&(k==.local||k==.cell)))=true):
 (pure (P.env.blockKind==.function&&P.env.kindOf y==some .local&&py.line==pos.line&&!(scope.names.any λ (n,k)=>n==y&&(k==.local||k==.cell))):Sem Bool)=pure true:=by
 have hb:P.env.blockKind=.function:=by
  unfold Env.blockKind;rw[c.c.tp rfl,c.kind];rfl
 have e:P.env.kindOf y=sc.names.lookup y:=by show P.env.scope.names.lookup _ = _;rw[c.c.tp rfl]
 rw[hb,e];exact au pure h
noncomputable def awy(sc:Scope)(t:Tg)(e:Ex)(at' av:Expr)(pos:Pos):Got (GS sc (.Assign [at'] av pos) (.asg t e)):=match hd:Ba e with
 |true=>(match t with
  |.nm x=>(match at' with|.Name y p=>.str (p:=λ y=>GS sc (.Assign [.Name y p] av pos) _) y x (.on (ac3 sc x) λ h=>.on (Cz av) λ h2=>(mkD sc e av).map λ h3 P can (c:Ie P can sc)=>alq c.f hd h2 (Rh h c) (h3 P can c)) | _=>none)
  |.idx x (.str k)=>(match e with
   |.lst .nil=>(match at',av with
    |.Subscript (.Name y p) (.Constant (.str z) n q) r,.List [] u=>.str (p:=λ y=>GS sc (.Assign [.Subscript (.Name y p) (.Constant (.str z) n q) r] (.List [] u) pos) (.asg (.idx x (.str k)) (.lst .nil))) y x (.str (p:=λ z=>GS sc (.Assign [.Subscript (.Name _ p) (.Constant (.str z) n q) r] (.List [] u) pos) (.asg (.idx x (.str k)) (.lst .nil))) z k (.on (uf x) λ h=>.yes λ P can c=>aek c.f h))
    | _,_=>none)
   | _=>none)
  | _=>none)
 |false=>if hc:Cz av=true then
  .or (.on (notStar at') λ h1=>if h2:pureOf (swappedStores [at'] av (aiw sc))=some none then(arz sc t at').two (Dk true sc e av) λ h3 h4 P can c=>apm hd hc h1 ((Zu c _ _).trans (Uc h2)) (h3 P can c) (h4 P c.c)else none)
   (match t with
   |.tup ts=>ap1 sc ts e at' av pos hd hc
   | _=>none)
  else(match t,e,at',av with
  |.nm y,.comp el x it cond caps,.Name yn py,.ListComp elt [⟨.Name xn px,iter,ifs,k⟩] scope sp=>
   .eq (p:=λ k=>GS sc (.Assign [.Name yn py] (.ListComp elt [⟨.Name xn px,iter,ifs,k⟩] scope sp) pos) _) k 0 (.str (p:=λ yn=>GS sc (.Assign [.Name yn py] (.ListComp elt [⟨.Name xn px,iter,ifs,0⟩] scope sp) pos) _) yn y (.str (p:=λ xn=>GS sc (.Assign [.Name _ py] (.ListComp elt [⟨.Name xn px,iter,ifs,0⟩] scope sp) pos) _) xn x
    (.on (ac3 sc y) λ h=>.on (sc.names.lookup (Str.ofString y)==some .local&&py.line==sp.line&&!(scope.names.any λ (n,k)=>n==Str.ofString y&&(k==.local||k==.cell))) λ h2=>
    ((afz sc scope x caps).two ((Z1 iter).two ((Dk false scope el elt).two (apb scope cond ifs) And.intro) And.intro) And.intro).two
    (((Dk true sc it iter).map λ h P (c:ud P true sc)=>aa9 c.ok (h P c)).or (mkR true sc it iter)) λ k hi P can c=>have kc:=k.1 P (c.c.tp rfl)
     aa1 c.f kc (k.2.1 _) (Z7 (px:=px) (spos:=sp) (elt:=elt) (iter:=iter) (ifs:=ifs) (k:=0) (xn:=Str.empty) c h2) (Rh h c) (hi P c.c) (λ Cx=>k.2.2.1 _ (c.c.comp kc Cx)) λ Cx=>k.2.2.2 _ (c.c.comp kc Cx))))
  | _,_,_,_=>none)
noncomputable def apf:(e:Ex)->(k:Const)->Got ((k=.none/\e=.non)\/(∃v,k=.bool v/\e=.boo v))
 |.non,k=>(match k with|.none=>.yes (.inl ⟨rfl,rfl⟩) | _=>none)
 |.boo v,k=>(match k with|.bool u=>if h:u=v then .yes (.inr ⟨v,by rw[h],rfl⟩)else none | _=>none)
 | _,_=>none
mutual
noncomputable def mkS(sc:Scope):(σ : St)->(st:Stmt)->Got (GS sc st σ)
 |.asg t e,st=>(match st with|.Assign [at'] av pos=>awy sc t e at' av pos | _=>none)
 |.app x k e,st=>(match k with
  |none=>(match st with
   |.Expr (.Call (.Attribute (.Name y n) m ap) [la] [] cp) q=>.str (p:=λ y=>GS sc (.Expr (.Call (.Attribute (.Name y n) m ap) [la] [] cp) q) _) y x (.str (p:=λ m=>GS sc (.Expr (.Call (.Attribute (.Name _ n) m ap) [la] [] cp) q) _) m "append" (.on (uf x) λ h=>.on (notStar la) λ h2=>.on (ap.endLine==cp.line) λ h3=>(Dk true sc e la).map λ k P can c=>amd c.f h h2 h3 (k P c.c)))
   | _=>none)
  |some k=>(match st with
   |.Expr (.Call (.Attribute (.Subscript (.Name y n) (.Constant (.str z) u v) w) m ap) [la] [] cp) q=>.str (p:=λ y=>GS sc (.Expr (.Call (.Attribute (.Subscript (.Name y n) (.Constant (.str z) u v) w) m ap) [la] [] cp) q) _) y x (.str (p:=λ z=>GS sc (.Expr (.Call (.Attribute (.Subscript (.Name _ n) (.Constant (.str z) u v) w) m ap) [la] [] cp) q) _) z k (.str (p:=λ m=>GS sc (.Expr (.Call (.Attribute (.Subscript (.Name _ n) (.Constant (.str _) u v) w) m ap) [la] [] cp) q) _) m "append"
    (.on (uf x) λ h=>.on (notStar la) λ h2=>.on (ap.endLine==cp.line) λ h3=>(Dk true sc e la).map λ k P can c=>ajr c.f h h2 h3 (k P c.c))))
   | _=>none))
 |.ifs t a b,st=>(match st with|.If lt la lb _=>(mkT true sc t lt).two ((aao sc a la).two (aao sc b lb) And.intro) λ h k P can c=>ayl (h P c.c) (k.1 P can c) (k.2 P can c) | _=>none)
 |.whl t b,st=>(match st with|.While lt lb [] _=>(mkT true sc t lt).two (aao sc b lb) λ h k P can c=>aql c.f (h P c.c) (k P can c) | _=>none)
 |.for t it b,st=>(match st with
  |.For lt lit lb [] _=>((Z1 lit).two ((arz sc t lt).two (aao sc b lb) And.intro) And.intro).two (((Dk true sc it lit).map λ h P (c:ud P true sc)=>aa9 c.ok (h P c)).or (mkR true sc it lit)) λ k hi P can c=>atj c.f (k.1 _) (k.2.1 P can c) (hi P c.c) (k.2.2 P can c)
  | _=>none)
 |.ret e,st=>(match st with|.Return (some le) _=>(Dk true sc e le).map λ h P can c=>ap0 (h P c.c) | _=>none)
 |.rai x,st=>(match st with
  |.Raise (some (.Call (.Name y n) [.Constant (.str w) u v] [] p)) none q=>.str (p:=λ y=>GS sc (.Raise (some (.Call (.Name y n) [.Constant (.str w) u v] [] p)) none q) _) y (Cy x) (.on (Pn sc (Cy x)) λ h=>.yes λ P can c=>apy λ hc=>c.rais hc x (c.c.gl _ h) _ _ _ _ _ _)
  | _=>none)
 |.tryx b h,st=>(match h with
  |.cons (.ret e) .nil=>(match st with
   |.Try lb [.ExceptHandler (some (.Tuple [.Name y p1,.Name z p2] n1 p3)) none [.Return (some (.Constant k n2 p4)) p5] hp] [] [] pos=>
    .str (p:=λ y=>GS sc (.Try lb [.ExceptHandler (some (.Tuple [.Name y p1,.Name z p2] n1 p3)) none [.Return (some (.Constant k n2 p4)) p5] hp] [] [] pos) _) y "RlpFault" (.str (p:=λ z=>GS sc (.Try lb [.ExceptHandler (some (.Tuple [.Name _ p1,.Name z p2] n1 p3)) none [.Return (some (.Constant k n2 p4)) p5] hp] [] [] pos) _) z "TxFault"
     (.on (Pn sc "RlpFault") λ g1=>.on (Pn sc "TxFault") λ g2=>.on (sc.names.all λ p=>decide (p.2≠.cell)) λ g3=>(apf e k).two (aao sc b lb) λ q h7 P can c=>apd c.f (c.nocell g3) (d:=.none) (c.c.gl _ g1) (c.c.gl _ g2) q (h7 P can c)))
   | _=>none)
  | _=>none)
 |.exp e,st=>(match st with|.Expr le _=>.on (Cz le) λ h=>(Dk true sc e le).map λ k P can c=>ap4 c.f h (k P c.c) | _=>none)
 |.any,_=>.yes λ P can c ρ c' s Q E hs si ni p=>(show False from p).elim
noncomputable def aao(sc:Scope):(σs:u9)->(sts:List Stmt)->Got (GSs sc sts σs)
 |.nil,sts=>(match sts with|[]=>.yes λ _ _ _=>ajt | _::_=>none)
 |.cons s ss,sts=>(match sts with|t::ts=>(mkS sc s t).two (aao sc ss ts) λ h k P can c=>ai0 (h P can c) (k P can c)|[]=>none)
end
noncomputable def Ol(sc:Scope)(σs:u9)(sts:List Stmt):Bool:=(aao sc σs sts).isSome
theorem Y6{P:Px}{can:Bool}{sc:Scope}(σs:u9)(sts:List Stmt)(c:Ie P can sc)(h:Ol sc σs sts=true):SSs P can sts σs:=Got.get h P can c
end Mine.Internal
namespace Mine.Internal
noncomputable abbrev Px.at(P:Px)(l:List Env) (A:Around)(env:Env)(n:Nat):Px:={ P with l:=l,A:=A,env:=env,cf:=Ei tab yr n }
structure Tbl(P:Px):Prop where
 fns:∀f g,tab f=some g->∃a fd body,P.mg (Str.ofString f)=some (.ref a)/\keepIn P.K (.ref a)=true/\Ma P.H a g fd body/\Ol fd.scope g.body body=true
 init:∃fI fd body,Ma P.H fI yr fd body/\Ol fd.scope yr.body body=true/\findIn P.K (.ref P.C) "__init__" = some (some (.ref fI))/\typeIn P.K (.ref fI)=some (.type "function")
 makes:makesIn P.K P.C=true
 name:P.mg (Str.ofString "Transaction")=some (.ref P.C)
 keep:keepIn P.K (.ref P.C)=true
theorem Gp:∀{names:List (Str×NameKind)}{k:Nat},(names.all λ p=>decide (p.2≠.cell))=true->cellsFrom k names []=[]
 |[],_,_=>rfl
 |(n,kind)::r,k,h=>by
  simp only[List.all_cons,sy,decide_eq_true_eq]at h;unfold cellsFrom;have:(kind==NameKind.cell)=false:=by simpa using h.1
  rw[this];exact Gp h.2
theorem aly:tab "Transaction" = none:=by decide +kernel
theorem ah9{tab:String->Option Fn}{init g:Fn}{f:String}{n:Nat}(h:tab f=some g)(hn:tab "Transaction" = none)(bs:List qp)(st:Store):Ei tab init (n+1) f bs st=Lb (Ei tab init n) (decide (4<=n)) g bs st:=by
 unfold Ei
 split
 ·rw[hn]at h;exact bh h
 ·rw[h]
noncomputable def Mz(P:Px):Prop:=∀(l:List Env) (A:Around) (env:Env) (n:Nat),4<=n->(P.at l A env n).Fun->Kp A l n->∀(x:Exc),env.kindOf (Str.ofString (Cy x))=some .globalImplicit->∀(w:Str) (k:Nat) (p1 p2 p3 p4:Pos),
 Mt (P.at l A env n) (.Raise (some (.Call (.Name (Str.ofString (Cy x)) p1) [.Constant (.str w) k p2] [] p3)) none p4) x
theorem ae4{P:Px}(T:Tbl P) (AR:Mz P):∀(n:Nat)(l:List Env) (A:Around)(env:Env),(P.at l A env n).Ok->Kp A l n->
 (∀f,fnNames f=true->∃a,P.mg (Str.ofString f)=some (.ref a)/\keepIn P.K (.ref a)=true/\Hp (P.at l A env n) f a)/\Hp (P.at l A env n) "Transaction" P.C:=by
 intro n
 induction n using Nat.strongRecOn with
 | _ n ih=>
  intro l A env ok room;have body:∀(m:Nat),m<n->∀(l':List Env) (A':Around) (g:Fn) (fd:FuncData) (body:List Stmt) (a L:Addr),Ma P.H a g fd body->Ol fd.scope g.body body=true->(({ P with l:=l',A:=A',env:=env }:Px).enter fd L a (Ei tab yr m)).Fun->
   Kp (A'.deeper (callEnvC fd L a)) (callEnvC fd L a::l') m->SSs (({ P with l:=l',A:=A',env:=env }:Px).enter fd L a (Ei tab yr m)) (decide (4<=m)) body g.body:=by
   intro m hm l' A' g fd body a L F hc Fn room';obtain⟨q1,q2⟩:=ih m hm (callEnvC fd L a::l') (A'.deeper (callEnvC fd L a)) (callEnvC fd L a) Fn.ok room';refine Y6 (sc:=fd.scope) g.body body ⟨⟨Fn.ok,λ x h=>dh h,λ _=>rfl,q1,T.name,T.keep,q2⟩,Fn,F.kind,λ h=>Gp h,λ h4=>?_⟩ hc;intro x hx w k p1 p2 p3 p4;exact AR (callEnvC fd L a::l') (A'.deeper (callEnvC fd L a)) (callEnvC fd L a) m (dh h4) Fn room' x hx w k p1 p2 p3 p4
  induction n using Nat.casesOn with
  |zero=>
   refine⟨λ f h=>?_,λ c s bs vs Q E hs si hbs p=>?_⟩
   ·obtain⟨g,hg⟩:=Option.isSome_iff_exists.mp h;obtain⟨a,fd,b,h1,h2,_⟩:=T.fns f g hg;exact⟨a,h1,h2,λ c s bs vs Q E hs si hbs p=>False.elim p⟩
   ·exact False.elim p
  |succ n=>
   refine⟨λ f h=>?_,?_⟩
   ·obtain⟨g,hg⟩:=Option.isSome_iff_exists.mp h;obtain⟨a,fd,b,h1,h2,F,hc⟩:=T.fns f g hg;refine⟨a,h1,h2,?_⟩;refine ak0 (P:=P.at l A env (n+1)) ok F (cf:=Ei tab yr n) (can:=decide (4<=n)) room (λ bs st=>ah9 hg aly bs st) λ L Fn=>?_;exact body n (m9 _) l A g fd b a L F hc Fn (room.enter _)
   ·induction n using Nat.casesOn with
    |zero=>exact λ c s bs vs Q E hs si hbs p=>False.elim p
    |succ m=>
     obtain⟨fI,fd,b,F,hc,g1,g2⟩:=T.init;refine asr (P:=P.at l A env (m+2)) ok F (cf:=Ei tab yr m) (can:=decide (4<=m)) room (λ bs st=>rfl) T.makes g1 g2 λ A' room' L Fn=>?_;exact body m (Nat.lt_succ_of_lt (m9 _)) l A' yr fd b fI L F hc Fn (room'.enter _)
end Mine.Internal
namespace Mine.Internal
section
variable{prog:Program}{w:World}{A:Around}{E:QV}{h:Heap}{g:Array GenState}{d:Drawn}{t:Nat}{os:OsState}{K:Frag}
variable{nm q:Str}{C N fI:Addr}{bs bm bmB:List Value}{hdct:Bool}{sn:List Str}{sub:List Value}{ab:Bool}{col:Option Bool}{dd:Option Addr}{k0 k1 k2 k3 k5:Option Value}{B Bn newId nid initId inN:String}{bmN:List Value}
noncomputable def Tl(bmB bm:List Value):Prop:=∀(X:String) (b:Bool),bmB.contains (.type X)=b->bm.contains (.type X)=b
theorem Tz{M:Model}(Fn:ExcBaseFacts Bn newId inN bmN)(hBn:bmB.contains (.type Bn)=true) (T:Tl bmB bm){rest:List Value}{Q:Unit->Shared->Prop}
 (hC:h.get? C=some (excClassObj nm q C N bs bm hdct sn sub ab col dd k0 k1 k2 k3 k5 newId)) (hq:Q () ⟨h,g,d,t,os⟩):wpAny M A (checkBuiltinCall newId ⟨.ref C::rest,[]⟩) Q E ⟨h,g,d,t,os⟩:=by
 have isB:(Value.ref C::bm).contains (.type Bn)=true:=by rw[List.contains_cons,T Bn true hBn,Bool.or_true]
 have star:=Fn.noStar;simp only[checkBuiltinCall,Fn.newKind,Fn.newSplit,Fn.newRow]
 repeat (first
  |refine wpAny_loadPart_at hC ?_
  |(refine wpAny_isSubtype_exc hC ?_;rw[isB])
  |refine wpAny_staticBase_exc hC ?_
  |refine wpAny_madeBy_exc hC ?_
  |simp only[bne_self_eq_false,Bool.false_eq_true,if_false]
  |wp_step)
 exact hq
theorem Vs{R:Result->Shared->Prop}(Fn:ExcBaseFacts Bn newId inN bmN)(hBn:bmB.contains (.type Bn)=true) (F:ExcBaseFacts B nid initId bmB) (T:Tl bmB bm){rest:List Value}
 (hC:h.get? C=some (excClassObj nm q C N bs bm hdct sn sub ab col dd k0 k1 k2 k3 k5 newId))
 (hq:R (.ok (.ret (.ref (h.objs.size+1)))) ⟨(h.push { cls:=.type "tuple",data:=.seq rest.toArray }).push
  { cls:=.ref C,data:=.fields #[.ref h.objs.size,.none,.none,.none,.bool false,.none] },g,d,t,os⟩) (hrest:rest.length<=sizeLine):
 codeAny (model prog w) A (.builtin newId ⟨.ref C::rest,[]⟩) R ⟨h,g,d,t,os⟩:=by
 have ends:=Fn.ends;have isB:(Value.ref C::bm).contains (.type Bn)=true:=by rw[List.contains_cons,T Bn true hBn,Bool.or_true]
 have noA:(Value.ref C::bm).contains (.type "AttributeError")=false:=by rw[List.contains_cons,T "AttributeError" false F.noAttr];rfl
 have noN:(Value.ref C::bm).contains (.type "NameError")=false:=by rw[List.contains_cons,T "NameError" false F.noName];rfl
 refine codeAny_builtinAt Fn.entry ?_;unfold Builtin.«BaseException.__new__»;refine PySem.wpAt_bind ?_;show PySem.wpAt _ _ _ (stack >>= _) _ _ _;refine PySem.wpAt_bind (PySem.wpAt_stack λ p below=>PySem.wpAt_of_wpAny ?_)
 wp_walk
 refine PySem.wpAt_of_wpAny ?_;rw[Fn.owner]
 repeat (first
  |with_reducible refine wpAny_madeHere_exc Fn.canon hC ?_
  |with_reducible refine wpAny_loadPart_at hC ?_
  |(with_reducible refine wpAny_isSubtype_exc hC ?_;first|rw[isB]|rw[noA]|rw[noN])
  |wp_step)
 show R _ _;rw[Heap.size_push];exact hq
theorem Qy{M:Model}(F:ExcBaseFacts B nid initId bmB) (T:Tl bmB bm){e:Addr}{oe:Obj}{rest:List Value}{Q:Unit->Shared->Prop}
 (hC:h.get? C=some (excClassObj nm q C N bs bm hdct sn sub ab col dd k0 k1 k2 k3 k5 newId)) (he:h.get? e=some oe) (hcls:oe.cls=.ref C) (hq:Q () ⟨h,g,d,t,os⟩):
 wpAny M A (checkBuiltinCall initId ⟨.ref e::rest,[]⟩) Q E ⟨h,g,d,t,os⟩:=by
 have isB:(Value.ref C::bm).contains (.type B)=true:=by rw[List.contains_cons,T B true F.hasB,Bool.or_true]
 have star:=F.noStar;simp only[checkBuiltinCall,F.initKind,F.initSplit,F.initRow]
 repeat (first
  |(with_reducible refine wpAny_loadPart_at he ?_;rw[hcls])
  |with_reducible refine wpAny_loadPart_at hC ?_
  |(with_reducible refine wpAny_isSubtype_exc hC ?_;rw[isB])
  |wp_step)
 refine wpAny_onRaise ?_;have ck:∀(a b:String) (n:Nat),Bind.check ⟨.positional,"*",B,.self,[⟨"args",.varPos,false⟩]⟩ a b n (List.map (λ x=>x.fst) ({ pos:=Value.ref e::rest }:Args).kw)=pure ():=λ a b n=>check_star_args _ _ _ _ _ _;rw[ck];exact wpAny_pure hq
theorem Zb(Fn:ExcBaseFacts Bn newId inN bmN)(hBn:bmB.contains (.type Bn)=true) (F:ExcBaseFacts B nid initId bmB) (T:Tl bmB bm){rest:List Value}{Q:Fin->Shared->Prop}
 (hC:h.get? C=some (excClassObj nm q C N bs bm hdct sn sub ab col dd k0 k1 k2 k3 k5 newId)) (X:K.In h) (hi:findIn K (.ref C) "__init__" = some (some (.ref fI))) (hf:typeIn K (.ref fI)=some (.type "function"))
 (hq:∀h' e,Heap.MadeExcOf h h' e (.ref C) rest->wpAny (model prog w) A (call (.ref fI) (.ref e::rest)) (λ r s'=>r=.none/\Q (.done (.ret (.ref e))) s') E ⟨h',g,d,t,os⟩) (hrest:rest.length<=sizeLine):
 wpAny (model prog w) A (Builtin.«type.__call__» ⟨.ref C::rest,[]⟩) Q E ⟨h,g,d,t,os⟩:=by
 repeat (first|with_reducible refine wpAny_loadPart_at hC ?_|with_reducible refine wpAny_madeBy_exc hC ?_|wp_step)
 refine codeAny_call_builtin_code (Code.quiet_builtin _ Fn.quiet) (Tz Fn hBn T hC ?_);refine Vs Fn hBn F T hC ?_ hrest;show wpAny _ _ _ _ _ _;have hCB:=Heap.get?_push_of_some { cls:=.ref C,data:=.fields #[.ref h.objs.size,.none,.none,.none,.bool false,.none] }
  (Heap.get?_push_of_some { cls:=.type "tuple",data:=.seq rest.toArray } hC)
 have hget:((h.push { cls:=.type "tuple",data:=.seq rest.toArray }).push
  { cls:=.ref C,data:=.fields #[.ref h.objs.size,.none,.none,.none,.bool false,.none] }).get? (h.objs.size+1)=some
  { cls:=.ref C,data:=.fields #[.ref h.objs.size,.none,.none,.none,.bool false,.none] }:=by heap_get
 have hcC:(Value.ref C::bm).contains (.ref C)=true:=by simp
 have XF:K.In ((h.push { cls:=.type "tuple",data:=.seq rest.toArray }).push { cls:=.ref C,data:=.fields #[.ref h.objs.size,.none,.none,.none,.bool false,.none] }):=
  X.keeps λ b o e=>Heap.get?_push_of_some _ (Heap.get?_push_of_some _ e)
 unfold isInstance
 repeat (first|with_reducible refine wpAny_loadPart_at hget ?_|(with_reducible refine wpAny_isSubtype_exc hCB ?_;rw[hcC])|wp_step)
 show wpAny _ _ (typeLookup (.ref C) _) _ _ _;refine(looks_findIn XF hi).here ?_;refine wpAny_holding (wpAny_bind ?_);refine(bind_fn XF _ hf).here ?_;refine wpAny_bind (wpAny_mono (hq _ (h.objs.size+1) ⟨λ b o hb=>Heap.get?_push_of_some _ (Heap.get?_push_of_some _ hb),Heap.get?_none_of_le (Nat.le_succ _),h.objs.size,hget,Heap.get?_none_of_le (jf _),?_⟩) (λ r s' hr=>?_) λ _ _ x=>x)
 ·exact Heap.get?_push_of_some _ (Heap.get?_push_at rfl rfl)
 ·obtain⟨rfl,hQ⟩:=hr
  wp_walk
  exact hQ
theorem abk(Fn:ExcBaseFacts Bn newId inN bmN)(hBn:bmB.contains (.type Bn)=true) (F:ExcBaseFacts B nid initId bmB) (T:Tl bmB bm){rest:List Value}{Q:QV}
 (hC:h.get? C=some (excClassObj nm q C N bs bm hdct sn sub ab col dd k0 k1 k2 k3 k5 newId)) (X:K.In h) (hi:findIn K (.ref C) "__init__" = some (some (.ref fI))) (hf:typeIn K (.ref fI)=some (.type "function"))
 (hq:∀h' e,Heap.MadeExcOf h h' e (.ref C) rest->wpAny (model prog w) (A.under (.builtin "type.__call__" ⟨.ref C::rest,[]⟩)) (call (.ref fI) (.ref e::rest)) (λ r s'=>r=.none/\Q (.ref e) s') E ⟨h',g,d,t,os⟩)
 (hrest:rest.length<=sizeLine):wpAny (model prog w) A (call (.ref C) rest) Q E ⟨h,g,d,t,os⟩:=by
 have f1:=tc_lookup;have f2:=tc_bind (.ref C);have hT:(⟨h,g,d,t,os⟩:Shared).TypeIs (.ref C) "type":=⟨_,hC,rfl⟩;refine wpAny_call (codeAny_of_tree ?_);show wpAny _ _ (callAny (.ref C) _) _ _ _
 repeat (any_goals (first|assumption|with_reducible refine wpAny_loadPart_at hC ?_|wp_step))
 refine⟨rfl,?_⟩;refine codeAny_call_builtin_at (Code.quiet_builtin _ (by decide +kernel)) entry_typeCall (wpAny_check_type_call_sub hC (Zb (hrest:=hrest) Fn hBn F T hC X hi hf λ h' e hm=>?_))
 exact hq h' e hm
end
end Mine.Internal
namespace Mine.Internal
section
variable{prog:Program}{w:World}{A:Around}{E:QV}{s:Shared}{K:Frag}{C:Addr}
noncomputable def Y4:List Value->Bool
 |.ref _::r=>Y4 r
 |l=>l==[.type "Exception",.type "BaseException",.type "object"]
theorem abj(self:Value){l:List Value}:Y4 l=true->refuseLoop self "__setattr__" l=pure ():=by
 have key:∀{l:List Value},(l==[.type "Exception",.type "BaseException",.type "object"])=true->refuseLoop self "__setattr__" l=pure ():=λ e=>by rw[beq_iff_eq.mp e];exact PySem.F.store_Exception.passes self
 induction l with
 |nil=>exact λ e=>nomatch e
 |cons v r ih=>intro e;cases v with
  |ref c=>rw[refuseLoop_ref];exact ih e
  | _=>exact key e
theorem U6:∀{l:List Value},Y4 l=true->l.contains (.type "object")=true
 |.ref c::r,e=>by rw[List.contains_cons,U6 (l:=r) (by simpa only[Y4]using e),Bool.or_true]
 |[],e=>by cases e
 |.type n::r,e=>by rw[show Value.type n::r=[.type "Exception",.type "BaseException",.type "object"] from beq_iff_eq.mp e];rfl
noncomputable def Ft(K:Frag) (C:Addr):Bool:=(clsIn K C).any λ cd=>Y4 cd.mro
theorem akh{x:Addr}{ox:Obj}{od:Option Obj}{n:Str}{tk:Tok}{v:Value}{R:Result->Shared->Prop}(X:K.In s.heap) (I:InstAt s.heap x ox C od)(po:Ft K C=true)(ht:takerIn K C n=some none)
 (h:∀b,wpAny (model prog w) A.in1 (Builtin.ObjectAttr.storeInOwnDict (.ref x) (.ref C) (.str n tk) n v b)
  (λ fin s'=>match fin with|.done f=>R (.ok f) s'|.again c'=>c'.quiet=true/\codeAny (model prog w) A c' R s') (λ e s'=>R (.error e) s') s):
 codeAny (model prog w) A (.call (.builtin "object.__setattr__") ⟨[.ref x,.str n tk,v],[]⟩) R s:=by
 obtain⟨cd,hcls,hover⟩:=any_some po;have filled:cd.mro.isEmpty=false:=by
  cases q:cd.mro with
  |nil=>rw[q]at hover;cases hover
  |cons _ _=>rfl
 have inMro:mroIn K C (.type "object")=some true:=by
  unfold mroIn;rw[hcls,Option.bind_some,bx (by rw[filled];decide),U6 hover]
 have SF:=PySem.F.store_Exception;have isObj:Looks (model prog w) s.heap (isInstance (.ref x) (.type "object")) true:=I.type.andThen (looks_mroIn X inMro);obtain⟨attr,hattr,htake⟩:=Option.bind_eq_some_iff.mp ht;have line:Looks (model prog w) s.heap (mroOf (.ref C)) cd.mro:=(looks_clsIn X hcls).andThen .now;have takes:Looks (model prog w) s.heap (Builtin.ObjectAttr.storeTaker? attr) none:=by
  cases attr with
  |none=>exact .now
  |some a=>
   obtain⟨b,hb,hbr⟩:=uc.mp htake;refine(looks_takesIn X hb).andThen ?_;cases b with
   |true=>cases hbr
   |false=>exact .now
 refine codeAny_call_builtin SF.slot.plain SF.entry (@check_slot (model prog w) _ _ s "object.__setattr__" "object" "__setattr__" (.ref x) [.str n tk,v] [] _ SF.kind SF.split isObj (SF.args (.ref x) (.str n tk) v) ?_);rw[osa_eq,refuse_eq];refine wpAny_bind (wpAny_bind (I.type.here (wpAny_bind (line.here ?_))));rw[abj _ hover];refine wpAny_pure (wpAny_bind (I.type.here (wpAny_bind ((looks_findIn X hattr).here (wpAny_bind (takes.here ?_))))));exact h _
theorem Zg{x:Addr}{fs:Array Value}{sl:Array (Option Value)}{n:Str}{v:Value}{Q:Unit->Shared->Prop}(X:K.In s.heap)(hh:hasDictIn K C=true)(tk:takerIn K C n=some none)
 (sa:findIn K (.ref C) "__setattr__" = some (some (.builtin "object.__setattr__"))) (po:Ft K C=true) (h1:s.heap.get? x=some { cls:=.ref C,data:=.fields fs,slots:=sl })
 (h:∀h' tk',(∀b o,b≠x->s.heap.get? b=some o->h'.get? b=some o)->(∃d,h'.get? x=some { cls:=.ref C,dict:=some d,data:=.fields fs,slots:=sl })->Q () { s with heap:=h',toks:=tk' }):
 wpAny (model prog w) A (setAttr (.ref x) n v) Q E s:=by
 have I:InstAt s.heap x { cls:=.ref C,data:=.fields fs,slots:=sl } C none:=⟨h1,rfl,rfl,trivial⟩;refine set_plain X I sa ?_;have X':K.In ({ s with toks:=s.toks+1 }:Shared).heap:=X;refine akh (s:={ s with toks:=s.toks+1 }) X' I po tk λ b=>?_;obtain⟨cd,hc,hd'⟩:=any_some hh;refine wpAny_bind (wpAny_pure (wpAny_bind (wpAny_bind (wpAny_loadPart h1 (wpAny_bind ((looks_clsIn X' hc).here ?_))))));rw[hd'];dsimp only;rw[bx (by decide),bx (by show ¬((!true||!true)=true);decide)]
 refine wpAny_bind (wpAny_alloc ?_);dsimp only;have hx1:=Heap.get?_push_of_some { cls:=.type "dict",data:=.dict #[] } h1;have hlt:=Heap.lt_size h1;have hne:x≠s.heap.objs.size:=qz hlt;have hD1:(s.heap.push { cls:=.type "dict",data:=.dict #[] }).get? s.heap.objs.size=some { cls:=.type "dict",data:=.dict #[] }:=Heap.get?_push_size _ rfl;refine wpAny_bind (wpAny_update hx1 ?_);dsimp only;have hx2:=Heap.get?_update_self (λ o=>{ o with dict:=some s.heap.objs.size }) hx1 rfl;have hD2:((s.heap.push { cls:=.type "dict",data:=.dict #[] }).update x λ o=>{ o with dict:=some s.heap.objs.size }).get? s.heap.objs.size=some { cls:=.type "dict",data:=.dict #[] }:=
  (Heap.get?_update_other _ _ hne).trans hD1
 have keep2:∀b o,b≠x->s.heap.get? b=some o->((s.heap.push { cls:=.type "dict",data:=.dict #[] }).update x λ o=>{ o with dict:=some s.heap.objs.size }).get? b=some o:=λ b o hb e=>
  (Heap.get?_update_other _ _ (Ne.symm hb)).trans (Heap.get?_push_of_some _ e)
 generalize hh2:((s.heap.push { cls:=.type "dict",data:=.dict #[] }).update x λ o=>{ o with dict:=some s.heap.objs.size })=h2 at hx2 hD2 keep2
 refine wpAny_pure (a:=some s.heap.objs.size) ?_;dsimp only;show wpAny _ _ (Builtin.ObjectAttr.storeInDict s.heap.objs.size (Value.str n s.toks) n v) _ _ { s with heap:=h2,toks:=s.toks+1 };unfold Builtin.ObjectAttr.storeInDict;have hD3:h2.get? s.heap.objs.size=some (dictOf [] 0):=hD2;refine wpAny_bind (wpAny_pure (wpAny_bind ?_));unfold nsSet;refine wpAny_bind (wpAny_bind (wpAny_askSetting (wpAny_pure (wpAny_bind (wpAny_mkText (wpAny_bind (wpAny_loadPart (s:={ s with heap:=h2,toks:=s.toks+1+1 }) hD3 ?_)))))));dsimp only;have c:(!([]:List DictEntry).toArray.any (·.key.isStr n)&&([]:List DictEntry).toArray.any (·.refKey))=false:=by simp
 rw[aRefKeyMayBeTheName_at,c];have e1:=putName_dict n (PyData.keyHash w.params n) (.str n (s.toks+1)) v [] 0;have hg:(h2.update s.heap.objs.size (Obj.putName n (PyData.keyHash w.params n) (.str n (s.toks+1)) v)).get? s.heap.objs.size=some (dictOf (putL n (PyData.keyHash w.params n) (.str n (s.toks+1)) v []) (putN n [] 0)):=by
  rw[Heap.get?_update_self _ hD3 (by rw[e1];rfl),e1]
 refine wpAny_updatePart (s:={ s with heap:=h2,toks:=s.toks+1+1 }) hD3 ?_;refine wpAny_bind (wpAny_lookBehind hg (pastItsLine_dict (by rw[gn,sizeLine_eq];simp[putL])) ?_)
 refine wpAny_pure (h _ _ (λ b o hb e=>?_) ⟨s.heap.objs.size,(Heap.get?_update_other _ _ (Ne.symm hne)).trans hx2⟩);exact(Heap.get?_update_other _ _ (Ne.symm (qz (Heap.lt_size e)))).trans (keep2 b o hb e)
end
end Mine.Internal
namespace Mine.Internal
section
variable{prog:Program}{w:World}{A:Around}{E:QV}{h:Heap}{g:Array GenState}{d:Drawn}{t:Nat}{os:OsState}{K:Frag}
variable{nm q:Str}{C N fI:Addr}{bs bm bmB:List Value}{hdct:Bool}{sn:List Str}{sub:List Value}{ab:Bool}{col:Option Bool}{dd:Option Addr}{k0 k1 k2 k3 k5:Option Value}{B nid initId newId:String}
theorem afk(F:ExcBaseFacts B nid initId bmB) (T:Tl bmB bm){e t0:Addr}{v:Value}{Q:QV}
 (hC:h.get? C=some (excClassObj nm q C N bs bm hdct sn sub ab col dd k0 k1 k2 k3 k5 newId))
 (he:h.get? e=some { cls:=.ref C,data:=.fields #[.ref t0,.none,.none,.none,.bool false,.none] })
 (hq:∀h',(∀b o,b≠e->h.get? b=some o->h'.get? b=some o)->(∃a1,h'.get? e=some { cls:=.ref C,data:=.fields #[a1,.none,.none,.none,.bool false,.none] })->Q .none ⟨h',g,d,t,os⟩):
 wpAny (model prog w) A (call (.builtin initId) [.ref e,v]) Q E ⟨h,g,d,t,os⟩:=by
 refine wpAny_call (codeAny_call_builtin F.init.plain F.initEntry (Qy F T hC he rfl ?_))
 wp_walk
 refine hq _ (λ b o hb eb=>?_) ⟨.ref h.objs.size,?_⟩
 ·rw[Heap.get?_update_other _ _ (Ne.symm hb)];exact Heap.get?_push_of_some _ eb
 ·rw[Heap.get?_update_self _ (Heap.get?_push_of_some _ he) rfl]
  rfl
theorem ai7{s:Shared}{pl:Sem Bool}{Q:Value×List Value->Shared->Prop}(h:Q (.builtin "Exception.__init__",[]) { s with toks:=s.toks+1 }):
 wpAny (model prog w) A (getMethod (.type "Exception") (PySem.Str.ofString "__init__") pl) Q E s:=by
 have X:=Yl s.heap;have ty:Looks (model prog w) s.heap (typeOf (.type "Exception")) (.type "type"):=Looks.of_pure (by first|rfl|kernel_rfl)
 have ga:findIn [] (.type "type") "__getattribute__" = some (some (.builtin "type.__getattribute__")):=type_tga;have op:Looks (model prog w) s.heap (opaqueClassAbove (.type "Exception")) none:=Looks.of_pure (by unfold opaqueClassAbove;dsimp only;rw[show Manifest.isStub "Exception" = false by decide +kernel];rfl)
 have fd:findCls [] (.type "Exception") (.type "type") (PySem.Str.ofString "__init__")=some (.val (.builtin "Exception.__init__")):=by kernel_rfl
 unfold getMethod specialOf;refine wpAny_bind (wpAny_bind (ty.here ((looks_findIn X ga).here ?_)));dsimp only;rw[bf canon_tga];refine wpAny_bind (wpAny_mono (Q:=λ v=>Q (v,[])) (E:=E) ?_ (λ _ _ z=>wpAny_pure z) λ _ _ z=>z);exact cls_open X op ty ga (looks_hook X (r:=none) (by rfl)) (by show subIn _ _ _ = _;rfl) fd
  (wpAny_pure (by show wpAny _ _ (handedOut _) _ _ _;rw[handedOut_of (by decide +kernel)];exact wpAny_pure h))
end
variable{P:Px}
noncomputable def Mi(p1 p2 p3 p4 p5 ap ap2 cp sp sp2:Pos):List Stmt:=
 [.Expr (.Call (.Attribute (.Name (PySem.Str.ofString "Exception") p1) (PySem.Str.ofString "__init__") ap) [.Name (PySem.Str.ofString "self") p2,.Name (PySem.Str.ofString "word") p3] [] cp) sp,
  .Assign [.Attribute (.Name (PySem.Str.ofString "self") p4) (PySem.Str.ofString "word") ap2] (.Name (PySem.Str.ofString "word") p5) sp2]
theorem aii(ok:P.Ok){fI:Addr}{fd:FuncData}{p1 p2 p3 p4 p5 ap ap2 cp sp sp2:Pos}(F:Ma P.H fI ⟨["self","word"],.nil⟩ fd (Mi p1 p2 p3 p4 p5 ap ap2 cp sp sp2))(hline:(ap.endLine==cp.line)=true)
 (hself:fd.scope.names.lookup (PySem.Str.ofString "self")=some .local) (hword:fd.scope.names.lookup (PySem.Str.ofString "word")=some .local) (hexc:fd.scope.names.lookup (PySem.Str.ofString "Exception")=some .globalImplicit)
 (hfree:P.mg (PySem.Str.ofString "Exception")=none)
 {C N:Addr}{nm q:Str}{bs bm:List Value}{hdct:Bool}{sn:List Str}{sub:List Value}{ab:Bool}{col:Option Bool}{dd:Option Addr}{k0 k1 k2 k3 k5:Option Value}{newId:String}
 (hC:P.H.get? C=some (excClassObj nm q C N bs bm hdct sn sub ab col dd k0 k1 k2 k3 k5 newId)) (T:Tl [.type "Exception",.type "BaseException",.type "object"] bm)
 (hh:hasDictIn P.K C=true) (htk:takerIn P.K C (PySem.Str.ofString "word")=some none) (sa:findIn P.K (.ref C) "__setattr__" = some (some (.builtin "object.__setattr__"))) (po:Ft P.K C=true)
 {A:Around}{E:QV}{Q:Shared->Prop}{s:Shared}{e t0:Addr}{v:Value}(hroom:A.depth<recursionLimit) (hH:∀b o,P.H.get? b=some o->s.heap.get? b=some o) (heH:P.H.get? e=none)
 (he:s.heap.get? e=some { cls:=.ref C,data:=.fields #[.ref t0,.none,.none,.none,.bool false,.none] })
 (hq:∀h' tk,(∀b o,b≠e->s.heap.get? b=some o->h'.get? b=some o)->(∃d' a1,h'.get? e=some { cls:=.ref C,dict:=some d',data:=.fields #[a1,.none,.none,.none,.bool false,.none] })->Q { s with heap:=h',toks:=tk }):
 wpAny P.M A (call (.ref fI) [.ref e,v]) (λ r s'=>r=.none/\Q s') E s:=by
 obtain⟨o,ho,hdata⟩:=F.obj;refine wpAny_call (codeAny_call_cells (a:=fI) (binds:=[(PySem.Str.ofString "self",.ref e),(PySem.Str.ofString "word",v)]) hroom (hH _ _ ho) hdata (ok.wd.lim.keeps hH) (F.code.keeps hH) F.body (F.bind [.ref e,v] rfl) F.clo ?_ (λ sE x=>?_) F.co F.gen F.kind)
 ·intro y hy;simp only[gb,uw,or_false]at hy;rcases hy with rfl|rfl
  ·exact .inl hself
  ·exact .inl hword
 ·obtain⟨h₁,tk,rfl,keep⟩:=x.done;have hns:=x.toInCall.ns;have kS:(callEnvC fd s.heap.objs.size fI).kindOf (PySem.Str.ofString "self")=some .local:=hself;have kW:(callEnvC fd s.heap.objs.size fI).kindOf (PySem.Str.ofString "word")=some .local:=hword;have kE:(callEnvC fd s.heap.objs.size fI).kindOf (PySem.Str.ofString "Exception")=some .globalImplicit:=hexc;have kF:(callEnvC fd s.heap.objs.size fI).scope.kind=.function:=F.kind
  generalize hm:bindL (callEnvC fd s.heap.objs.size fI).kindOf [(PySem.Str.ofString "self",Value.ref e),(PySem.Str.ofString "word",v)] (λ _=>none)=m at hns
  have mS:m (PySem.Str.ofString "self")=some (.ref e):=by rw[<-hm];simp only[bindL,kS,kW,if_true];rfl
  have mW:m (PySem.Str.ofString "word")=some v:=by rw[<-hm];simp only[bindL,kS,kW,if_true]
  generalize hL:s.heap.objs.size=L at *
  generalize henv:callEnvC fd L fI=env at *
  have gG:env.globals=mainGlobals:=by rw[<-henv];exact F.gl
  have gB:env.builtins=builtinsNs:=by rw[<-henv];exact F.bu
  have hi:interactive env=false:=by unfold interactive;rw[kF];rfl
  have he1:=keep _ _ he;have hH1:∀b o,P.H.get? b=some o->h₁.get? b=some o:=λ b o eb=>keep _ _ (hH _ _ eb);have neL:env.locals≠e:=λ z=>by
   have:env.locals=L:=by rw[<-henv];rfl
   rw[this]at z;have:=Heap.lt_size he;rw[hL,z]at this;exact Nat.lt_irrefl _ this
  unfold Mi;refine wpAny_execs_cons (wpAny_Expr_any ?_ hi (zm rfl));refine Us rfl (by rw[Gx rfl rfl];rfl) hline ?_
  refine Name_function_global kF kE (loadGlobal_builtin (mg:=P.mg) (mb:=P.mb) (v:=.type "Exception") ?_ hfree ?_ ((ok.wd.bl _ (by decide)).trans (by kernel_rfl)) λ pl=>?_)
  ·rw[gG];exact ok.wd.g.keeps hH1
  ·rw[gB];exact ok.wd.b.keeps hH1
  refine ai7 ?_;refine with2 rfl rfl (wpAny_Name (wpAny_loadName_local kF kS hns mS ?_));refine wpAny_Name (wpAny_loadName_local kF kW hns mW ?_);refine afk PySem.F.excBase_Exception T (hH1 _ _ hC) he1 λ h₂ keep2 he2=>?_;obtain⟨a1,he2⟩:=he2;have hns2:h₂.Ns env.locals m:=Lj hns λ o eb=>keep2 _ o neL eb;have hH2:∀b o,P.H.get? b=some o->h₂.get? b=some o:=λ b o eb=>keep2 b o (λ z=>by subst z;rw[heH]at eb;cases eb) (hH1 _ _ eb)
  refine wpAny_execs_cons (plainObj_wpAny_Assign_Attribute ?_ (zm rfl));refine wpAny_Name (wpAny_loadName_local kF kW hns2 mW ?_);refine wpAny_Name (wpAny_loadName_local kF kS hns2 mS ?_);refine Zg (ok.wd.kin.keeps hH2) hh htk sa po he2 λ h₃ tk3 keep3 he3=>?_;obtain⟨dd',he3⟩:=he3;refine wpAny_execs_nil ?_;refine⟨rfl,hq h₃ tk3 (λ b o hb eb=>keep3 b o hb (keep2 b o hb (keep _ _ eb))) ⟨dd',a1,he3⟩⟩
section
variable{M:Model}{A:Around}{E:QV}{env:Env}
variable{nm q:Str}{C N:Addr}{bs bm:List Value}{hdct:Bool}{sn:List Str}{sub:List Value}{ab:Bool}{col:Option Bool}{dd:Option Addr}{k0 k1 k2 k3 k5:Option Value}{newId:String}
theorem abl{s:Shared}{x:Sem Value}{Q:Flow->Shared->Prop}(hbase:bm.contains (.type "BaseException")=true)(hh:A.handled=none)
 (h:wpAny M A x (λ v sE=>∃e d' a1,v=.ref e/\sE.heap.get? C=some (excClassObj nm q C N bs bm hdct sn sub ab col dd k0 k1 k2 k3 k5 newId)/\
  sE.heap.get? e=some { cls:=.ref C,dict:=some d',data:=.fields #[a1,.none,.none,.none,.bool false,.none] }/\E (.ref e) sE) E s):
 wpAny M A (raiseStmt env (some x) none) Q E s:=by
 have hcB:(Value.ref C::bm).contains (.type "BaseException")=true:=by rw[List.contains_cons,hbase,Bool.or_true]
 unfold raiseStmt;refine wpAny_bind (wpAny_mono h (λ v sE h₁=>?_) λ _ _ x=>x);obtain⟨e,d',a1,rfl,hC,he,hE⟩:=h₁;obtain⟨hp,g,d,tk,os⟩:=sE
 repeat (first|with_reducible refine wpAny_loadPart_at he ?_|with_reducible refine wpAny_loadPart_at hC ?_|(with_reducible refine wpAny_isSubtype_exc hC ?_;rw[hcB])|wp_step)
 exact wpAny_raiseNew_none hh hE
end
end Mine.Internal
namespace Mine.Internal
structure agt(H:Heap) (K:Frag) (C fI:Addr):Prop where
 obj:∃nm q N bs bm hdct sn sub ab col dd k0 k1 k2 k3 k5,H.get? C=some (excClassObj nm q C N bs bm hdct sn sub ab col dd k0 k1 k2 k3 k5 "Exception.__new__")/\Tl [.type "Exception",.type "BaseException",.type "object"] bm/\
  bm.contains (.type "BaseException")=true
 init:findIn K (.ref C) "__init__" = some (some (.ref fI))
 keep:keepIn K (.ref C)=true
 hh:hasDictIn K C=true
 htk:takerIn K C (PySem.Str.ofString "word")=some none
 sa:findIn K (.ref C) "__setattr__" = some (some (.builtin "object.__setattr__"))
 po:Ft K C=true
structure axf(H:Heap) (K:Frag)(mg:PySem.Str->Option Value)(fI:Addr):Prop where
 fn:∃fd p1 p2 p3 p4 p5 ap ap2 cp sp sp2,Ma H fI ⟨["self","word"],.nil⟩ fd (Mi p1 p2 p3 p4 p5 ap ap2 cp sp sp2)/\(ap.endLine==cp.line)=true/\
  fd.scope.names.lookup (PySem.Str.ofString "self")=some .local/\fd.scope.names.lookup (PySem.Str.ofString "word")=some .local/\fd.scope.names.lookup (PySem.Str.ofString "Exception")=some .globalImplicit
 typ:typeIn K (.ref fI)=some (.type "function")
 free:mg (PySem.Str.ofString "Exception")=none
theorem Uy{P:Px}(f:P.Fun){C fI:Addr}{x:Exc}(hCx:clsOf P.cR P.cT x=.ref C) (X:agt P.H P.K C fI) (Y:axf P.H P.K P.mg fI)(hm:P.mg (PySem.Str.ofString (Cy x))=some (.ref C))(hd:uf (Cy x)=true)
 (hroom:P.A.depth+4<recursionLimit) (hk:P.env.kindOf (PySem.Str.ofString (Cy x))=some .globalImplicit) (w:PySem.Str) (n:Nat) (p1 p2 p3 p4:Pos):
 Mt P (.Raise (some (.Call (.Name (PySem.Str.ofString (Cy x)) p1) [.Constant (.str w) n p2] [] p3)) none p4) x:=by
 intro ρ c s Q E hs si ni k;obtain⟨nn,room⟩:=f.ok.room;obtain⟨nm,q,N,bs,bm,hdct,sn,sub,ab,col,dd,k0,k1,k2,k3,k5,hC,T,hbase⟩:=X.obj;obtain⟨fd,q1,q2,q3,q4,q5,ap,ap2,cp,sp,sp2,F,hline,l1,l2,l3⟩:=Y.fn;have hH:∀b o,P.H.get? b=some o->s.heap.get? b=some o:=λ b o e=>by rw[hs];exact si.stay _ _ (si.h0 _ _ e)
 rw[arm_exec_Raise];refine wpAny_bind (wpAny_standAt (abl (C:=C) (nm:=nm) (q:=q) (N:=N) (bs:=bs) (bm:=bm) (hdct:=hdct) (sn:=sn) (sub:=sub) (ab:=ab) (col:=col) (dd:=dd) (k0:=k0) (k1:=k1) (k2:=k2) (k3:=k3) (k5:=k5) (newId:="Exception.__new__") hbase room.hh ?_));refine wpAny_bind (wpAny_mono ?_ (λ v sH h₃=>wpAny_bind (wpAny_standAt (wpAny_pure h₃))) λ _ _ x=>x);refine wpAny_Call_NameR (Nz f.ok hs si (R8 hd) hk hm ?_);refine callWith_of (P:=P.K.In) (by rw[Jf (by rfl)];rfl) (keeps_K X.keep) (Om (by rfl) ?_)
 refine wpAny_items_cons (wpAny_Constant_str (spliced_none ?_));refine⟨hs▸Kr f.ok si,?_⟩;obtain⟨hp,g,d,tk,os⟩:=s;simp only at hs hH;have XK:P.K.In hp:=hs▸Kr f.ok si;refine abk PySem.F.excBase_Exception rfl PySem.F.excBase_Exception T (hH _ _ hC) XK X.init Y.typ (λ h' e hme=>?_) (by simp[Hz])
 obtain⟨t,he,htn,ht⟩:=hme.there;have heH:P.H.get? e=none:=by
  cases z:P.H.get? e with
  |none=>rfl
  |some o=>have:=hH _ _ z;rw[hme.new]at this;(first|exact bh this|obtain rfl:=ao this|cases this)
 refine aii f.ok F hline l1 l2 l3 Y.free hC T X.hh X.htk X.sa X.po (s:=⟨h',g,d,tk+1,os⟩) (e:=e) (t0:=t) ?_ (λ b o eb=>hme.keeps _ _ (hH _ _ eb)) heH he λ h'' tk'' keep he''=>?_
 ·exact fj (jh (aj rfl) _) hroom
 ·obtain⟨d',a1,he''⟩:=he'';have kp:∀b o,hp.get? b=some o->h''.get? b=some o:=λ b o eb=>keep b o (λ z=>by subst z;rw[hme.new]at eb;cases eb) (hme.keeps _ _ eb)
  refine⟨e,d',a1,rfl,kp _ _ (hH _ _ hC),he'',?_⟩;exact k h'' tk'' e (λ b o eb=>kp b o (hs▸eb)) (hs▸hme.new) (hCx▸⟨_,_,a1,he'',rfl,rfl,rfl,rfl⟩)
theorem aib{P:Px}{fI:Addr}(XR:agt P.H P.K P.cR fI) (XT:agt P.H P.K P.cT fI) (Y:axf P.H P.K P.mg fI):Mz P:=by
 intro l A env n h4 f room x hk w k p1 p2 p3 p4;have hr:A.depth+4<recursionLimit:=fj (jh h4 _) room.dp;cases x with
 |rlp=>exact Uy (P:=P.at l A env n) (x:=.rlp) f (C:=P.cR) rfl XR Y f.ok.wd.mR (by decide +kernel) hr hk w k p1 p2 p3 p4
 |tx=>exact Uy (P:=P.at l A env n) (x:=.tx) f (C:=P.cT) rfl XT Y f.ok.wd.mT (by decide +kernel) hr hk w k p1 p2 p3 p4
end Mine.Internal
namespace Mine.Internal
theorem Z5:∀(xs:List Str)(vs:List Value),xs.Nodup->vs.length=xs.length->xs.filterMap (λ n=>((xs.zip vs).lookup n).map (n,·))=xs.zip vs:=by
 have gen:∀(xs:List Str) (vs:List Value) (pre:List (Str×Value)),xs.Nodup->vs.length=xs.length->(∀x∈xs,pre.lookup x=none)->xs.filterMap (λ n=>((pre++xs.zip vs).lookup n).map (n,·))=xs.zip vs:=by
  intro xs
  induction xs with
  |nil=>intro vs pre _ _ _;rfl
  |cons x xs ih=>
   intro vs pre nd hl hp;obtain⟨n1,n2⟩:=jl.mp nd;cases vs with
   |nil=>simp at hl
   |cons v vs=>
    simp only[List.zip_cons_cons];have e1:(pre++(x,v)::xs.zip vs).lookup x=some v:=by
     rw[List.lookup_append,hp x (by simp)];simp
    rw[oh,e1];simp only[Option.map_some]
    congr 1
    have:=ih vs (pre++[(x,v)]) n2 (by simpa using hl) (λ y hy=>by
     rw[List.lookup_append,hp y (by simp[hy])]
     have:¬y=x:=λ e=>n1 (e▸hy);have:(y==x)=false:=by simpa using this
     simp[List.lookup,this])
    rw[jc]at this;exact this
 intro xs vs nd hl;exact gen xs vs [] nd hl (λ _ _=>rfl)
theorem lookup_some:∀(xs:List Str)(vs:List Value),vs.length=xs.length->∀x∈xs,((xs.zip vs).lookup x).isNone=false
 |[],_,_,x,h=>nomatch h
 |y::xs,[],hl,x,h=>by simp at hl
 |y::xs,v::vs,hl,x,h=>by
  rw[List.zip_cons_cons,ou]
  by_cases e:x=y
  ·subst e;simp
  ·have:(x==y)=false:=by simpa using e
   rw[this];exact lookup_some xs vs (by simpa using hl) x (by
    rcases gb.1 h with q|q
    ·exact absurd q e
    ·exact q)
theorem aiz(fd:FuncData)(h1:fd.params.posonlyargs=[])(h2:fd.params.kwonlyargs=[])(h3:fd.params.vararg=none)(h4:fd.params.kwarg=none)(h5:fd.defaults=.none)
 (nd:(fd.params.args.map (·.arg)).Nodup) (vals:List Value) (hl:vals.length=(fd.params.args.map (·.arg)).length):bindArgs fd ⟨vals,[]⟩=pure ((fd.params.args.map (·.arg)).zip vals):=by
 obtain⟨a1,a2,⟨po,args,va,ko,kd,kw,df⟩,a4,a5,a6,a7,a8⟩:=fd;obtain rfl:po=[]:=h1;obtain rfl:ko=[]:=h2;obtain rfl:va=none:=h3;obtain rfl:kw=none:=h4;obtain rfl:a8=.none:=h5;refine(bx (λ h=>?_)).trans ((bx λ h=>?_).trans ?_)
 ·exact Nat.ne_of_gt (dh (jd.mp h).1:(args.map (·.arg)).length<vals.length) hl
 ·have e:∀k,((args.map (·.arg)).take k).filter (λ n=>(((args.map (·.arg)).zip vals).lookup n).isNone)=[]:=λ k=>List.filter_eq_nil_iff.mpr λ x hx=>by rw[lookup_some (args.map (·.arg)) vals hl x (List.mem_of_mem_take hx)];exact Bool.false_ne_true
  exact nomatch (au (λ l=>!List.isEmpty l) (e _)).symm.trans h
 ·have z:∀k j,((List.drop k (args.map (·.arg))).zip (List.drop j ([]:List Value)))=[]:=λ k j=>by rw[List.drop_nil,List.zip_nil_right]
  refine(au (λ l=>bind (forIn l _ _) _) (z _ _)).trans ?_;exact(au (λ l:List Str=>(pure (l.filterMap λ n=>(((args.map (·.arg)).zip vals).lookup n).map (n,·)):Sem (List (Str×Value)))) (jo (args.map (·.arg)))).trans (au (λ l=>(pure l:Sem (List (Str×Value)))) (Z5 (args.map (·.arg)) vals nd hl))
theorem Z0:∀(names:List (Str×NameKind))(k k':Nat)(acc acc':List (Str×Addr)),acc.map (·.1)=acc'.map (·.1)->(cellsFrom k names acc).map (·.1)=(cellsFrom k' names acc').map (·.1)
 |[],_,_,_,_,h=>h
 |(n,kind)::r,k,k',acc,acc',h=>by
  unfold cellsFrom
  split
  ·exact Z0 r _ _ _ _ (by simp[h])
  ·exact Z0 r _ _ _ _ h
noncomputable def aol(K:Frag)(fd:FuncData):Bool:=codeIn K fd.code fd.qualname&&fd.closure.isEmpty&&(match fd.defaults with|.none=>true | _=>false)&&decide (fd.globals=mainGlobals)&&decide (fd.builtins=builtinsNs)
noncomputable def Zt(ps:Arguments)(sc:Scope)(g:Fn):Bool:=ps.posonlyargs.isEmpty&&ps.kwonlyargs.isEmpty&&ps.vararg.isNone&&ps.kwarg.isNone &&
 decide (ps.args.map (·.arg)=g.ps.map Str.ofString)&&decide ((ps.args.map (·.arg)).Nodup) &&
 g.ps.all (λ x=>decide (sc.names.lookup (Str.ofString x)=some .local\/sc.names.lookup (Str.ofString x)=some .cell))&&decide g.ps.Nodup &&
 decide ((cellsFrom 0 sc.names []).map (·.1)).Nodup&&!sc.isCoroutine&&!sc.isGenerator&&decide (sc.kind=.function)
noncomputable def fnAt(K:Frag)(a:Addr):Option (Bool×Arguments×List Stmt×Scope):=match K.lookup a with
 |some ⟨_,_,.func fd,_⟩=>(match fd.body with
  |.stmts b=>some (aol K fd,fd.params,b,fd.scope)
  | _=>none)
 | _=>none
noncomputable def aew(K:Frag)(a:Addr)(g:Fn):Bool:=(fnAt K a).any λ d=>d.1&&Zt d.2.1 d.2.2.2 g
noncomputable def fnBody(K:Frag)(a:Addr):List Stmt:=((fnAt K a).map λ d=>d.2.2.1).getD []
noncomputable def ae5(K:Frag)(a:Addr):Option Scope:=(fnAt K a).map λ d=>d.2.2.2
theorem Hi{a b:Bool}(h:(a&&b)=true):a=true:=(jd.mp h).1
theorem Hj{a b:Bool}(h:(a&&b)=true):b=true:=(jd.mp h).2
theorem avb{a:Bool}(h:(!a)=true):a=false:=(Bool.not_eq_true' a).mp h
theorem awm{K:Frag}{H:Heap}{a:Addr}{g:Fn}{fd:FuncData}{b:List Stmt}{oc:Value}{od:Option Addr}{sl:Array (Option Value)}(X:K.In H)(hk:K.lookup a=some ⟨oc,od,.func fd,sl⟩)(hb:fd.body=.stmts b)(l:aol K fd=true)(e:Zt fd.params fd.scope g=true):Ma H a g fd b:=by
 have l4:=Hi l;have l3:=Hi l4;have l2:=Hi l3;have d11:=Hi e;have d10:=Hi d11;have d9:=Hi d10;have d8:=Hi d9;have d7:=Hi d8;have d6:=Hi d7;have d5:=Hi d6;have d4:=Hi d5;have d3:=Hi d4;have d2:=Hi d3;have e8:=dh (Hj d5);refine⟨⟨_,X _ _ hk,rfl⟩,codeRec_of X (Hi l2),hb,List.isEmpty_iff.mp (Hj l2),λ vals hl=>?_,λ x hx=>dh (List.all_eq_true.mp (Hj d7) x hx),dh (Hj d8),λ k=>?_,avb (Hj d10),avb (Hj d11),dh (Hj e),dh (Hj l4),dh (Hj l)⟩
 ·rw[<-e8];refine aiz fd (List.isEmpty_iff.mp (Hi d2)) (List.isEmpty_iff.mp (Hj d2)) (Option.isNone_iff_eq_none.mp (Hj d3)) (Option.isNone_iff_eq_none.mp (Hj d4)) ?_ (dh (Hj d6)) vals ?_
  ·have:=Hj l3
   generalize fd.defaults=v at this
   cases v with
   |none=>rfl
   | _=>exact nomatch this
  ·rw[e8,bw];exact hl
 ·rw[Z0 fd.scope.names k 0 [] [] rfl];exact dh (Hj d9)
theorem an7{K:Frag}{H:Heap}{a:Addr}{g:Fn}{ps:Arguments}{b:List Stmt}{sc:Scope}(X:K.In H)(e:fnAt K a=some (true,ps,b,sc))(c:Zt ps sc g=true):∃fd,Ma H a g fd b/\fd.scope=sc/\keepIn K (.ref a)=true:=by
 unfold fnAt at e;cases hk:K.lookup a with
 |none=>rw[hk]at e;exact nomatch e
 |some o=>
  obtain⟨oc,od,dat,osl⟩:=o;rw[hk]at e;cases dat with
  |func fd=>
   dsimp only at e;cases hb:fd.body with
   |stmts b'=>
    rw[hb]at e;obtain⟨e1,e2⟩:=Prod.mk.inj (ao e);obtain⟨rfl,e3⟩:=Prod.mk.inj e2;obtain⟨rfl,rfl⟩:=Prod.mk.inj e3;exact⟨fd,awm X hk hb e1 c,rfl,by unfold keepIn;dsimp only;rw[hk]⟩
   | _=>rw[hb]at e;exact nomatch e
  | _=>exact nomatch e
theorem ank{K:Frag}{H:Heap}{a:Addr}{g:Fn}(X:K.In H)(e:aew K a g=true):∃fd,Ma H a g fd (fnBody K a)/\ae5 K a=some fd.scope:=by
 unfold aew at e;unfold fnBody ae5;cases hk:fnAt K a with
 |none=>rw[hk]at e;exact nomatch e
 |some d=>
  rw[hk]at e;obtain⟨lo,ps,b,sc⟩:=d;have c:=Hj (b:=Zt ps sc g) e;obtain rfl:lo=true:=Hi (b:=Zt ps sc g) e;obtain⟨fd,F,rfl,_⟩:=an7 X hk c;exact⟨fd,F,rfl⟩
end Mine.Internal
end
section
open PySem PySem.W PyProof.Rows PySem.Calls
set_option maxHeartbeats 80000000
namespace Mine.Internal
noncomputable def Q9(p:Program)(f:String):Option (Bool×Arguments×List Stmt×Scope):=(p.theDef (Str.ofString f)).map λ d=>(true,d)
noncomputable def Sh(p:Program)(q:String×Fn):Bool:=(p.theDef (Str.ofString q.1)).any λ d=>Zt d.1 d.2.2 q.2&&Ol d.2.2 q.2.body d.2.1
noncomputable def G5:List Nat:=[65,72,79,86,93,100,107,114,121,128,135,142,149,177,182,187,194,201,208,213,220,227,232,237,244,251,258,265,272,279,286,294,301,306,313,320,327,332,337,342,349,356,363,368,375,382,389,396,403,408]
noncomputable def fnIdx:List Nat:=[7,8,9,12]++List.range' 18 9++List.range' 30 14++List.range' 45 4++List.range' 50 19
noncomputable def Xd(p:Program)(i:Nat):Program:={ p with main:={ p.main with body:=(p.main.body.drop i).take 1 } }
noncomputable def T3(K:Frag):List (String×Fn)->List Nat->List (Option (Option Value)×Option (Bool×Arguments×List Stmt×Scope))
 |q::r,a::as=>(nsIn K mainGlobals (Str.ofString q.1),fnAt K a)::T3 K r as
 | _,_=> []
noncomputable def O1(p:Program):List (String×Fn)->List Nat->List Nat->List (Option (Option Value)×Option (Bool×Arguments×List Stmt×Scope))
 |q::r,a::as,i::is=>(some (some (.ref a)),Q9 (Xd p i) q.1)::O1 p r as is
 | _,_,_=> []
noncomputable def Oi(p:Program):List (String×Fn)->List Nat->Bool
 |q::r,i::is=>Sh (Xd p i) q&&Oi p r is
 | _,_=>true
theorem Wj{p:Program}(n:Nat):∀{l:List (String×Fn)}{is:List Nat},Oi p (l.take n) (is.take n)=true->Oi p (l.drop n) (is.drop n)=true->Oi p l is=true:=by
 induction n with
 |zero=>exact λ _ h=>h
 |succ n ih=>
  intro l is
  induction l using List.casesOn with
  |nil=>exact λ h _=>rfl
  |cons q r=>
   induction is using List.casesOn with
   |nil=>exact λ h _=>rfl
   |cons i is=>exact λ h k=>jd.mpr ⟨Hi (a:=Sh (Xd p i) q) h,ih (Hj (a:=Sh (Xd p i) q) h) k⟩
theorem agb{K:Frag}{p:Program}{q:String×Fn}(l:List (String×Fn)):∀{as is:List Nat},T3 K l as=O1 p l as is->l.length<=as.length->l.length<=is.length->Oi p l is=true->q∈l->
 ∃a i,nsIn K mainGlobals (Str.ofString q.1)=some (some (.ref a))/\fnAt K a=Q9 (Xd p i) q.1/\Sh (Xd p i) q=true:=by
 induction l with
 |nil=>exact λ _ _ _ _ h=>nomatch h
 |cons x r ih=>
  intro as is
  induction as using List.casesOn with
  |nil=>exact λ _ z=>nomatch z
  |cons a as=>
   induction is using List.casesOn with
   |nil=>exact λ _ _ z=>nomatch z
   |cons i is=>
    intro e z z' c h;obtain⟨e1,e2⟩:=List.cons.inj (show(nsIn K mainGlobals (Str.ofString x.1),fnAt K a)::T3 K r as=(some (some (.ref a)),Q9 (Xd p i) x.1)::O1 p r as is from e);rcases gb.mp h with rfl|h
    ·exact⟨a,i,(Prod.mk.inj e1).1,(Prod.mk.inj e1).2,Hi (b:=Oi p r is) c⟩
    ·exact ih e2 (o8 z) (o8 z') (Hj (a:=Sh (Xd p i) x) c) h
noncomputable def V4(K:Frag) (C:Addr)(n:String):Bool:=plainGet K C (Str.ofString n)&&hasDictIn K C&&(match findIn K (.ref C) (Str.ofString n)with
 |some a=>noGet K a
 |none=>false)&&(match takerIn K C (Str.ofString n)with
 |some none=>true
 | _=>false)
theorem asn{K:Frag}{H:Heap}{mg:Str->Option Value}(X:K.In H) (G:H.Ns mainGlobals mg){p:Program}{f:String}{g:Fn}{a:Addr}(hn:nsIn K mainGlobals (Str.ofString f)=some (some (.ref a)))(e:fnAt K a=Q9 p f)(c:Sh p (f,g)=true):
 ∃a fd body,mg (Str.ofString f)=some (.ref a)/\keepIn K (.ref a)=true/\Ma H a g fd body/\Ol fd.scope g.body body=true:=by
 unfold Sh at c;unfold Q9 at e;cases hd:p.theDef (Str.ofString f)with
 |none=>rw[hd]at c;exact nomatch c
 |some d=>
  rw[hd]at c e;obtain⟨ps,b,sc⟩:=d;obtain⟨fd,F,rfl,k⟩:=an7 X (show fnAt K a=some (true,ps,b,sc) from e) (Hi (a:=Zt ps sc g) c);exact⟨a,fd,b,mg_of X G hn,k,F,Hj (a:=Zt ps fd.scope g) c⟩
theorem akf{K:Frag}{C:Addr}{n:String}(e:V4 K C n=true):Ra K C (Str.ofString n):=by
 unfold V4 at e;simp only[sy]at e;obtain⟨⟨⟨e1,e2⟩,e3⟩,e4⟩:=e;refine⟨e1,e2,?_,?_⟩
 ·split at e3
  ·exact⟨_,by assumption,e3⟩
  ·cases e3
 ·split at e4
  ·assumption
  ·cases e4
theorem alp{f:String}{g:Fn}(e:tab f=some g):(f,g)∈Ds:=by
 exact ai8 (Q:=λ f g=>(f,g)∈Ds) Ds (λ _ h=>h) e
noncomputable def abn:Obj:={ cls:=.type "tuple",data:=.seq [.int 0 575,.int 1 576,.int 55 577,.int 56 578,.int 300 579].toArray 0 }
theorem afg{prog:Program}{w:World}{C:Addr}{K:Frag}{H:Heap}{mg:Str->Option Value}(X:K.In H) (G:H.Ns mainGlobals mg){t0 t1 t2 t3 t4 t5 t6 t7:Tok}
 (h0:nsIn K mainGlobals (Str.ofString "WORD")=some (some (.int 115792089237316195423570985008687907853269984665640564039457584007913129639936 t0))) (h1:nsIn K mainGlobals (Str.ofString "MOST")=some (some (.int 1461501637330902918203684832716283019655932542976 t1))) (h2:nsIn K mainGlobals (Str.ofString "LONG")=some (some (.int 18446744073709551616 t2))) (h3:nsIn K mainGlobals (Str.ofString "OCTETS_words")=some (some (.int 32 t3))) (h4:nsIn K mainGlobals (Str.ofString "OCTETS_rlp")=some (some (.int 128 t4))) (h5:nsIn K mainGlobals (Str.ofString "LIST")=some (some (.int 192 t5))) (h6:nsIn K mainGlobals (Str.ofString "SHORT")=some (some (.int 55 t6))) (h7:nsIn K mainGlobals (Str.ofString "DEEPEST")=some (some (.int 60 t7))) (hz:nsIn K mainGlobals (Str.ofString "_law_sizes")=some (some (.ref 287)))
 (hs:K.lookup 287=some abn):
 ∀x d,J3 x=some d->∃v,mg (Str.ofString x)=some v/\Rep prog w C H v d:=by
 have it:∀{f i t},nsIn K mainGlobals (Str.ofString f)=some (some (.int i t))->∃v,mg (Str.ofString f)=some v/\Rep prog w C H v (.int i):=λ h=>⟨_,mg_of X G h,.int _ _ _⟩;exact λ x d=>ai8 (Q:=λ x d=>∃v,mg (Str.ofString x)=some v/\Rep prog w C H v d) ao4 (dg.2 ⟨it h0,dg.2 ⟨it h1,dg.2 ⟨it h2,dg.2 ⟨it h3,dg.2 ⟨it h4,dg.2 ⟨it h5,dg.2 ⟨it h6,dg.2 ⟨it h7,dg.2 ⟨by
  exact⟨_,mg_of X G hz,.tuple (X _ _ hs) (.cons (.int _ _ _) (.cons (.int _ _ _) (.cons (.int _ _ _) (.cons (.int _ _ _) (.cons (.int _ _ _) (.nil _))))))⟩,λ _ h=>nomatch h⟩⟩⟩⟩⟩⟩⟩⟩⟩)
end Mine.Internal
namespace Mine.Internal
noncomputable def exO(n:String) (C N i t1 t2:Nat):Obj:=excClassObj (Str.ofString n) (Str.ofString n) C N [.ref 31] (.ref 31::[.type "Exception",.type "BaseException",.type "object"]) true [] [] false none none (some (.ref i)) none (some (.str (Str.ofString n) t1)) (some (.str (Str.ofString n) t2)) (some (.bool true)) "Exception.__new__"
theorem agd{K:Frag}{n:String}{C N i t1 t2:Nat}{H:Heap}(e:K.lookup C=some (exO n C N i t1 t2)) (X:K.In H):∃nm q N bs bm hdct sn sub ab col dd k0 k1 k2 k3 k5,H.get? C=some (excClassObj nm q C N bs bm hdct sn sub ab col dd k0 k1 k2 k3 k5 "Exception.__new__")/\Tl [.type "Exception",.type "BaseException",.type "object"] bm/\
 bm.contains (.type "BaseException")=true:=
 ⟨_,_,_,_,_,_,_,_,_,_,_,_,_,_,_,_,X _ _ e,λ Z b hb=>by rw[List.contains_cons,hb];rfl,rfl⟩
noncomputable def ai2:List Stmt:=Mi ⟨5,8,5,17⟩ ⟨5,27,5,31⟩ ⟨5,33,5,37⟩ ⟨6,8,6,12⟩ ⟨6,20,6,24⟩ ⟨5,8,5,26⟩ ⟨6,8,6,17⟩ ⟨5,8,5,38⟩ ⟨5,8,5,38⟩ ⟨6,8,6,24⟩
noncomputable def awg(o:Option Scope):Bool:=match o with
 |some sc=>decide (sc.names.lookup (Str.ofString "self")=some .local/\sc.names.lookup (Str.ofString "word")=some .local/\sc.names.lookup (Str.ofString "Exception")=some .globalImplicit)
 |none=>false
structure ae2(K:Frag):Prop where
 ktab:∃p:Program,T3 K Ds G5=O1 p Ds G5 fnIdx/\Oi p Ds fnIdx=true
 ki_WORD:nsIn K mainGlobals (Str.ofString "WORD")=some (some (.int 115792089237316195423570985008687907853269984665640564039457584007913129639936 254))
 ki_MOST:nsIn K mainGlobals (Str.ofString "MOST")=some (some (.int 1461501637330902918203684832716283019655932542976 283))
 ki_LONG:nsIn K mainGlobals (Str.ofString "LONG")=some (some (.int 18446744073709551616 392))
 ki_OCTETS_words:nsIn K mainGlobals (Str.ofString "OCTETS_words")=some (some (.int 32 256))
 ki_OCTETS_rlp:nsIn K mainGlobals (Str.ofString "OCTETS_rlp")=some (some (.int 128 296))
 ki_LIST:nsIn K mainGlobals (Str.ofString "LIST")=some (some (.int 192 298))
 ki_SHORT:nsIn K mainGlobals (Str.ofString "SHORT")=some (some (.int 55 300))
 ki_DEEPEST:nsIn K mainGlobals (Str.ofString "DEEPEST")=some (some (.int 60 294))
 kattr:(fieldNames.all λ n=>V4 K 166 n)=true
 ksizes:K.lookup 287=some abn
 kR:nsIn K mainGlobals (Str.ofString "RlpFault")=some (some (.ref 44))
 kT:nsIn K mainGlobals (Str.ofString "TxFault")=some (some (.ref 56))
 kC:nsIn K mainGlobals (Str.ofString "Transaction")=some (some (.ref 166))
 kZ:nsIn K mainGlobals (Str.ofString "_law_sizes")=some (some (.ref 287))
 kE:nsIn K mainGlobals (Str.ofString "Exception")=some none
 kfree:(["len","isinstance","bytes","dict","all","range","int","list"].all λ x=>match nsIn K mainGlobals (Str.ofString x)with
 |some none=>true
 | _=>false)=true
 kmR:exmAny K (.ref 44) [.ref 44,.ref 56]=some true
 kmT:exmAny K (.ref 56) [.ref 44,.ref 56]=some true
 ksa:findIn K (.ref 166) "__setattr__" = some (some (.builtin "object.__setattr__"))
 kpo:plainOver K 166=true
 kinit:aew K 163 yr=true
 kinit2:((ae5 K 163).map λ sc=>Ol sc yr.body (fnBody K 163))=some true
 kinit3:findIn K (.ref 166) "__init__" = some (some (.ref 163))
 kinit4:typeIn K (.ref 163)=some (.type "function")
 kmakes:makesIn K 166=true
 kkeep:keepIn K (.ref 166)=true
 kx1:K.lookup 44=some (exO "RlpFault" 44 43 35 218 226)
 kx2:K.lookup 56=some (exO "TxFault" 56 55 47 234 242)
 kx3:findIn K (.ref 44) "__init__" = some (some (.ref 28))
 kx4:findIn K (.ref 56) "__init__" = some (some (.ref 28))
 kx5:keepIn K (.ref 44)=true
 kx6:keepIn K (.ref 56)=true
 kx7:hasDictIn K 44=true
 kx8:hasDictIn K 56=true
 kx9:takerIn K 44 (Str.ofString "word")=some none
 kx10:takerIn K 56 (Str.ofString "word")=some none
 kx11:findIn K (.ref 44) "__setattr__" = some (some (.builtin "object.__setattr__"))
 kx12:findIn K (.ref 56) "__setattr__" = some (some (.builtin "object.__setattr__"))
 kx13:Ft K 44=true
 kx14:Ft K 56=true
 kx15:aew K 28 ⟨["self","word"],.nil⟩=true
 kx16:fnBody K 28=ai2
 kx17:awg (ae5 K 28)=true
 kx18:typeIn K (.ref 28)=some (.type "function")
noncomputable def sees(K:Frag):=(nsIn K mainGlobals (Str.ofString "WORD"),
 nsIn K mainGlobals (Str.ofString "MOST"),
 nsIn K mainGlobals (Str.ofString "LONG"),
 nsIn K mainGlobals (Str.ofString "OCTETS_words"),
 nsIn K mainGlobals (Str.ofString "OCTETS_rlp"),
 nsIn K mainGlobals (Str.ofString "LIST"),
 nsIn K mainGlobals (Str.ofString "SHORT"),
 nsIn K mainGlobals (Str.ofString "DEEPEST"),
 (fieldNames.all λ n=>V4 K 166 n),
 K.lookup 287,
 nsIn K mainGlobals (Str.ofString "RlpFault"),
 nsIn K mainGlobals (Str.ofString "TxFault"),
 nsIn K mainGlobals (Str.ofString "Transaction"),
 nsIn K mainGlobals (Str.ofString "_law_sizes"),
 nsIn K mainGlobals (Str.ofString "Exception"),
 (["len","isinstance","bytes","dict","all","range","int","list"].all λ x=>match nsIn K mainGlobals (Str.ofString x)with
 |some none=>true
 | _=>false),
 exmAny K (.ref 44) [.ref 44,.ref 56],
 exmAny K (.ref 56) [.ref 44,.ref 56],
 findIn K (.ref 166) "__setattr__",
 plainOver K 166,
 aew K 163 yr,
 ((ae5 K 163).map λ sc=>Ol sc yr.body (fnBody K 163)),
 findIn K (.ref 166) "__init__",
 typeIn K (.ref 163),
 makesIn K 166,
 keepIn K (.ref 166),
 K.lookup 44,
 K.lookup 56,
 findIn K (.ref 44) "__init__",
 findIn K (.ref 56) "__init__",
 keepIn K (.ref 44),
 keepIn K (.ref 56),
 hasDictIn K 44,
 hasDictIn K 56,
 takerIn K 44 (Str.ofString "word"),
 takerIn K 56 (Str.ofString "word"),
 findIn K (.ref 44) "__setattr__",
 findIn K (.ref 56) "__setattr__",
 Ft K 44,
 Ft K 56,
 aew K 28 ⟨["self","word"],.nil⟩,
 fnBody K 28,
 awg (ae5 K 28),
 typeIn K (.ref 28))
noncomputable def seen:type_of% (sees []):=(some (some (.int 115792089237316195423570985008687907853269984665640564039457584007913129639936 254)),some (some (.int 1461501637330902918203684832716283019655932542976 283)),some (some (.int 18446744073709551616 392)),some (some (.int 32 256)),some (some (.int 128 296)),some (some (.int 192 298)),some (some (.int 55 300)),some (some (.int 60 294)),true,some abn,some (some (.ref 44)),some (some (.ref 56)),some (some (.ref 166)),some (some (.ref 287)),some none,true,some true,some true,some (some (.builtin "object.__setattr__")),true,true,some true,some (some (.ref 163)),some (.type "function"),true,true,some (exO "RlpFault" 44 43 35 218 226),some (exO "TxFault" 56 55 47 234 242),some (some (.ref 28)),some (some (.ref 28)),true,true,true,true,some none,some none,some (some (.builtin "object.__setattr__")),some (some (.builtin "object.__setattr__")),true,true,true,ai2,true,some (.type "function"))
theorem ali{K:Frag}(e:sees K=seen)(e2:∃p:Program,T3 K Ds G5=O1 p Ds G5 fnIdx/\Oi p Ds fnIdx=true):ae2 K:=⟨e2,au (λ x=>x.1) e,au (λ x=>x.2.1) e,au (λ x=>x.2.2.1) e,au (λ x=>x.2.2.2.1) e,au (λ x=>x.2.2.2.2.1) e,au (λ x=>x.2.2.2.2.2.1) e,au (λ x=>x.2.2.2.2.2.2.1) e,au (λ x=>x.2.2.2.2.2.2.2.1) e,au (λ x=>x.2.2.2.2.2.2.2.2.1) e,au (λ x=>x.2.2.2.2.2.2.2.2.2.1) e,au (λ x=>x.2.2.2.2.2.2.2.2.2.2.1) e,au (λ x=>x.2.2.2.2.2.2.2.2.2.2.2.1) e,au (λ x=>x.2.2.2.2.2.2.2.2.2.2.2.2.1) e,au (λ x=>x.2.2.2.2.2.2.2.2.2.2.2.2.2.1) e,au (λ x=>x.2.2.2.2.2.2.2.2.2.2.2.2.2.2.1) e,au (λ x=>x.2.2.2.2.2.2.2.2.2.2.2.2.2.2.2.1) e,au (λ x=>x.2.2.2.2.2.2.2.2.2.2.2.2.2.2.2.2.1) e,au (λ x=>x.2.2.2.2.2.2.2.2.2.2.2.2.2.2.2.2.2.1) e,au (λ x=>x.2.2.2.2.2.2.2.2.2.2.2.2.2.2.2.2.2.2.1) e,au (λ x=>x.2.2.2.2.2.2.2.2.2.2.2.2.2.2.2.2.2.2.2.1) e,au (λ x=>x.2.2.2.2.2.2.2.2.2.2.2.2.2.2.2.2.2.2.2.2.1) e,au (λ x=>x.2.2.2.2.2.2.2.2.2.2.2.2.2.2.2.2.2.2.2.2.2.1) e,au (λ x=>x.2.2.2.2.2.2.2.2.2.2.2.2.2.2.2.2.2.2.2.2.2.2.1) e,au (λ x=>x.2.2.2.2.2.2.2.2.2.2.2.2.2.2.2.2.2.2.2.2.2.2.2.1) e,au (λ x=>x.2.2.2.2.2.2.2.2.2.2.2.2.2.2.2.2.2.2.2.2.2.2.2.2.1) e,au (λ x=>x.2.2.2.2.2.2.2.2.2.2.2.2.2.2.2.2.2.2.2.2.2.2.2.2.2.1) e,au (λ x=>x.2.2.2.2.2.2.2.2.2.2.2.2.2.2.2.2.2.2.2.2.2.2.2.2.2.2.1) e,au (λ x=>x.2.2.2.2.2.2.2.2.2.2.2.2.2.2.2.2.2.2.2.2.2.2.2.2.2.2.2.1) e,au (λ x=>x.2.2.2.2.2.2.2.2.2.2.2.2.2.2.2.2.2.2.2.2.2.2.2.2.2.2.2.2.1) e,au (λ x=>x.2.2.2.2.2.2.2.2.2.2.2.2.2.2.2.2.2.2.2.2.2.2.2.2.2.2.2.2.2.1) e,au (λ x=>x.2.2.2.2.2.2.2.2.2.2.2.2.2.2.2.2.2.2.2.2.2.2.2.2.2.2.2.2.2.2.1) e,au (λ x=>x.2.2.2.2.2.2.2.2.2.2.2.2.2.2.2.2.2.2.2.2.2.2.2.2.2.2.2.2.2.2.2.1) e,au (λ x=>x.2.2.2.2.2.2.2.2.2.2.2.2.2.2.2.2.2.2.2.2.2.2.2.2.2.2.2.2.2.2.2.2.1) e,au (λ x=>x.2.2.2.2.2.2.2.2.2.2.2.2.2.2.2.2.2.2.2.2.2.2.2.2.2.2.2.2.2.2.2.2.2.1) e,au (λ x=>x.2.2.2.2.2.2.2.2.2.2.2.2.2.2.2.2.2.2.2.2.2.2.2.2.2.2.2.2.2.2.2.2.2.2.1) e,au (λ x=>x.2.2.2.2.2.2.2.2.2.2.2.2.2.2.2.2.2.2.2.2.2.2.2.2.2.2.2.2.2.2.2.2.2.2.2.1) e,au (λ x=>x.2.2.2.2.2.2.2.2.2.2.2.2.2.2.2.2.2.2.2.2.2.2.2.2.2.2.2.2.2.2.2.2.2.2.2.2.1) e,au (λ x=>x.2.2.2.2.2.2.2.2.2.2.2.2.2.2.2.2.2.2.2.2.2.2.2.2.2.2.2.2.2.2.2.2.2.2.2.2.2.1) e,au (λ x=>x.2.2.2.2.2.2.2.2.2.2.2.2.2.2.2.2.2.2.2.2.2.2.2.2.2.2.2.2.2.2.2.2.2.2.2.2.2.2.1) e,au (λ x=>x.2.2.2.2.2.2.2.2.2.2.2.2.2.2.2.2.2.2.2.2.2.2.2.2.2.2.2.2.2.2.2.2.2.2.2.2.2.2.2.1) e,au (λ x=>x.2.2.2.2.2.2.2.2.2.2.2.2.2.2.2.2.2.2.2.2.2.2.2.2.2.2.2.2.2.2.2.2.2.2.2.2.2.2.2.2.1) e,au (λ x=>x.2.2.2.2.2.2.2.2.2.2.2.2.2.2.2.2.2.2.2.2.2.2.2.2.2.2.2.2.2.2.2.2.2.2.2.2.2.2.2.2.2.1) e,au (λ x=>x.2.2.2.2.2.2.2.2.2.2.2.2.2.2.2.2.2.2.2.2.2.2.2.2.2.2.2.2.2.2.2.2.2.2.2.2.2.2.2.2.2.2.1) e,au (λ x=>x.2.2.2.2.2.2.2.2.2.2.2.2.2.2.2.2.2.2.2.2.2.2.2.2.2.2.2.2.2.2.2.2.2.2.2.2.2.2.2.2.2.2.2) e⟩
theorem aww{K:Frag}{prog:Program}{w:World}{H:Heap}{mg mb:Str->Option Value}(k:ae2 K) (X:K.In H) (G:H.Ns mainGlobals mg) (B:H.Ns builtinsNs mb)(bl:∀x:Str,x≠"__name__"->mb x=bootBuiltins x)(lim:H.NoLimit):
 Wd prog w 166 H mg mb K 44 56:=by
 exact{
  mR:=mg_of X G k.kR
  mT:=mg_of X G k.kT
  mat:=λ x=>by
   cases x
   ·exact k.kmR
   ·exact k.kmT
  kin:=X
  attrs:=λ n hn=>akf (List.all_eq_true.mp k.kattr n hn)
  sa:=k.ksa
  po:=k.kpo
  g:=G
  b:=B
  bl:=bl
  lim:=lim
  globs:=afg X G k.ki_WORD k.ki_MOST k.ki_LONG k.ki_OCTETS_words k.ki_OCTETS_rlp k.ki_LIST k.ki_SHORT k.ki_DEEPEST k.kZ k.ksizes
  free:=λ x hx=>by
   have:=List.all_eq_true.mp k.kfree x hx
   split at this
   ·exact mg_none_of X G (by assumption)
   ·cases this }
theorem as8{P:Px}(k:ae2 P.K)(hC:P.C=166) (X:P.K.In P.H) (G:P.H.Ns mainGlobals P.mg):Tbl P:=by
 exact{
  fns:=λ f g e=>by
   obtain⟨p,a,b⟩:=k.ktab;obtain⟨_,_,n,z,c⟩:=agb Ds a (jf 50) (jf 50) b (alp e);exact asn X G n z c
  init:=by
   obtain⟨fd,F,hs⟩:=ank (a:=163) (g:=yr) X k.kinit;refine⟨163,fd,_,F,?_,by rw[hC];exact k.kinit3,k.kinit4⟩
   have e:=k.kinit2;rw[hs]at e;exact ao e
  makes:=by rw[hC];exact k.kmakes
  name:=by rw[hC];exact mg_of X G k.kC
  keep:=by rw[hC];exact k.kkeep }
theorem X6{P:Px}(k:ae2 P.K)(hR:P.cR=44)(hT:P.cT=56) (X:P.K.In P.H) (G:P.H.Ns mainGlobals P.mg):Mz P:=by
 obtain⟨fd,F,hs⟩:=ank (a:=28) (g:=⟨["self","word"],.nil⟩) X k.kx15;have e:=k.kx17;rw[hs]at e;have e:=dh e;rw[k.kx16]at F;exact aib (fI:=28) (hR▸⟨agd k.kx1 X,k.kx3,k.kx5,k.kx7,k.kx9,k.kx11,k.kx13⟩) (hT▸⟨agd k.kx2 X,k.kx4,k.kx6,k.kx8,k.kx10,k.kx12,k.kx14⟩)
  ⟨⟨fd,_,_,_,_,_,_,_,_,_,_,F,rfl,e.1,e.2.1,e.2.2⟩,k.kx18,mg_none_of X G k.kE⟩
end Mine.Internal
namespace Mine.Internal
open PySem PySem.W PyProof.Rows
noncomputable def Lh(tb:String->Option Builtin)(p:Program)(w:World)(n₀:Nat)(ann:Option Value):Nat->SharedT->Thread->Option SharedT
 |0,_,_=>none
 |n+1,s,t=>match through t with
  |true=>some s
  |false=>match stepOk n₀ ann t with
   |false=>none
   |true=>match stepT (denote tb) p w s t with
    |some (s',t')=>Lh tb p w n₀ ann n s' t'
    |none=>none
theorem T7{tb:String->Option Builtin}{p:Program}{w:World}{n₀:Nat}{ann:Option Value}:∀{n:Nat}{s s':SharedT}{t:Thread},
 Lh tb p w n₀ ann n s t=some s'->topRun tb p w n₀ ann n s.abs t=some s'.abs
 |0,_,_,_,h=>by cases h
 |n+1,s,s',t,h=>by
  unfold Lh at h;unfold topRun;cases he:through t with
  |true=>rw[he]at h;cases h;rfl
  |false=>
   rw[he]at h;cases hk:stepOk n₀ ann t with
   |false=>rw[hk]at h;cases h
   |true=>
    rw[hk]at h;cases hs:stepT (denote tb) p w s t with
    |none=>rw[hs]at h;cases h
    |some r=>obtain⟨sG,tC⟩:=r;rw[hs]at h;rw[stepT_spec hs];exact T7 h
noncomputable def ahq:List Obj->Nat->BT->BT
 |[],_,t=>t
 |o::r,i,t=>ahq r (i+1) (t.ins i o)
theorem aks{p q:Program}{loose:List Str}{Xt:Shared->Bool}{α : Type}{Yf:Shared->α}{Ya:World->α}{YT:SharedT->α}{N:Nat}{m₀:Nat}{ann:Option Value}{M:Nat}{life:Life}
 (e0:opening p=plainProg p.main.scope.names) (hN:Nat.ble 600 N=true) (f0:∀s,fenceModules? p s=some s)
 (size:∀w:World,(absHeap (ahq (boot_heap w.params).objs.toList 0 .nil) m₀ life,(boot_heap w.params).isNs mainGlobals,(boot_heap w.params).objs.size,(boot_heap w.params).nsMap mainGlobals "__annotations__")=(boot_heap w.params,true,m₀,ann))
 (le:Nat.ble M N=true) (hY:∀s:SharedT,Yf s.abs=YT s)
 (looks:∀(w:World) (os:OsState),(Lh treeTable p w m₀ ann M ⟨ahq (boot_heap w.params).objs.toList 0 .nil,m₀,life,#[],boot_drawn,boot_toks,os⟩ (topStub p)).map (λ s=>
  (staticsOk (importedModules p.main.body) (boot_heap w.params) s.abs.heap&&namesBound p s.abs.heap&&gensDone s.abs&&laidKept (boot_heap w.params) s.abs.heap,
   openSeen q loose (importedModules p.main.body) Xt true s.abs,YT s))=some (true,openGood q loose,Ya w)):LeftO p q loose Xt Yf Ya N true:=λ w=>by
 obtain⟨⟨h,gs,d,k,os⟩,e,e'⟩:=uc.mp (boot_open e0 hN f0 w);obtain⟨rfl,rfl,rfl,rfl⟩:h=boot_heap w.params/\gs = #[]/\d=boot_drawn/\k=boot_toks:=by simpa using e'
 obtain⟨z0,z1,z2,z3⟩:_/\_/\_/\_:=by simpa only[Prod.mk.injEq]using size w
 obtain⟨sE,r0,l⟩:=uc.mp (looks w os);obtain⟨l1,l2,l3⟩:_/\_/\_:=by simpa only[Prod.mk.injEq]using l
 have r1:=T7 r0;rw[show SharedT.abs ⟨ahq (boot_heap w.params).objs.toList 0 .nil,m₀,life,#[],boot_drawn,boot_toks,os⟩=⟨boot_heap w.params,#[],boot_drawn,boot_toks,os⟩ from au (λ h=>Shared.mk h #[] boot_drawn boot_toks os) z0]at r1;have r:=topRun_mono (N-M) _ _ _ _ r1;rw[show M+(N-M)=N by have:=aj le;omega]at r
 have t:topFrom treeTable p w N ⟨boot_heap w.params,#[],boot_drawn,boot_toks,os⟩=some sE.abs:=by
  unfold topFrom;dsimp only;rw[z1,z2,z3,r];show(match staticsOk (importedModules p.main.body) (boot_heap w.params) sE.abs.heap&&namesBound p sE.abs.heap&&gensDone sE.abs&&laidKept (boot_heap w.params) sE.abs.heap with|true=>_|false=>_)=_
  rw[l1]
 unfold openEnds;rw[e];show(topFrom treeTable p w N _).map _ = _;rw[t];exact au some (Prod.ext l2 ((hY sE).trans l3))
end Mine.Internal
namespace Mine.Internal
noncomputable def qv:Program:=view PySem.Challenge.pw_pq0398_01 [68]
noncomputable def lo:List Str:=(PySem.Challenge.pw_pq0398_01).boundNames.filter λ x=>x != Str.ofString "law"
noncomputable def afo(l:List Nat)(h:Heap):Frag:=l.filterMap λ a=>(h.get? a).map (a,·)
theorem akg(h:Heap)(l:List Nat):(afo l h).In h:=by
 intro a o;show(l.filterMap λ a=>(h.get? a).map (a,·)).lookup a=some o->h.get? a=some o
 induction l with
 |nil=>intro e;cases e
 |cons b r ih=>
  intro e;rw[oh]at e;cases hb:h.get? b with
  |none=>rw[hb]at e;exact ih e
  |some p=>
   rw[hb]at e
   by_cases q:a=b
   ·subst q;simp at e;rw[hb,e]
   ·rw[Option.map_some,ou,m8.mpr q]at e;exact ih e
noncomputable def aqb(s:SharedT)(a:Nat):Option Obj:=match Nat.blt a s.n with
 |true=>alive ((s.tree.get a).getD default)
 |false=>none
theorem ajz(s:SharedT)(a:Nat):s.abs.heap.get? a=aqb s a:=by
 unfold aqb Heap.get?;rw[show s.abs.heap.objs[a]? = _ from absHeap_at s.tree s.n s.life a];cases h:Nat.blt a s.n with
 |false=>rw[bx (show ¬a<s.n from λ q=>nomatch h.symm.trans (Nat.ble_eq_true_of_le q))]
 |true=>
  rw[bf (show a<s.n from aj h)];show(match some ((s.tree.get a).getD default)with|some ⟨_,_,.freed,_⟩=>none|o=>o)=alive ((s.tree.get a).getD default)
  generalize(s.tree.get a).getD default=o
  obtain⟨c,d,dt,sl⟩:=o;cases dt<;>rfl
noncomputable def Yk(l:List Nat)(s:SharedT):Frag:=l.filterMap λ a=>(aqb s a).map (a,·)
theorem ag6(l:List Nat)(s:SharedT):afo l s.abs.heap=Yk l s:=au (λ f=>l.filterMap f) (funext λ a=>by rw[ajz])
noncomputable def adr:List Nat:=[3,44,56,166,31,30,43,55,165,27,28,162,163,287]++G5.flatMap λ a=>[a,Nat.pred a]
theorem az6:∀(w:World)(os:OsState),(Lh treeTable PySem.Challenge.pw_pq0398_01 w 11 (some (.ref 6)) 2600 ⟨ahq (boot_heap w.params).objs.toList 0 .nil,11,{ debug:=0,thresholds:=[2000,10,10] },#[],boot_drawn,boot_toks,os⟩ (topStub PySem.Challenge.pw_pq0398_01)).map (λ s=>
 (staticsOk (importedModules (PySem.Challenge.pw_pq0398_01).main.body) (boot_heap w.params) s.abs.heap&&namesBound PySem.Challenge.pw_pq0398_01 s.abs.heap&&gensDone s.abs&&laidKept (boot_heap w.params) s.abs.heap,
  openSeen qv lo (importedModules (PySem.Challenge.pw_pq0398_01).main.body) (λ s=>xlAt qv [] s&&recOk [] s) true s.abs,(sees (Yk adr s),T3 (Yk adr s) Ds G5)))=some (true,openGood qv lo,(seen,O1 PySem.Challenge.pw_pq0398_01 Ds G5 fnIdx)):=by
 intro w os;kernel_rfl
theorem a0t:Oi PySem.Challenge.pw_pq0398_01 (Ds.take 14) (fnIdx.take 14)=true:=by decide +kernel
theorem ay2:Oi PySem.Challenge.pw_pq0398_01 ((Ds.drop 14).take 12) ((fnIdx.drop 14).take 12)=true:=by decide +kernel
theorem ay1:Oi PySem.Challenge.pw_pq0398_01 (((Ds.drop 14).drop 12).take 12) (((fnIdx.drop 14).drop 12).take 12)=true:=by decide +kernel
theorem ay7:Oi PySem.Challenge.pw_pq0398_01 (((Ds.drop 14).drop 12).drop 12) (((fnIdx.drop 14).drop 12).drop 12)=true:=by decide +kernel
theorem a0e:Oi PySem.Challenge.pw_pq0398_01 Ds fnIdx=true:=Wj 14 a0t (Wj 12 ay2 (Wj 12 ay1 ay7))
end Mine.Internal
namespace Mine.Internal
theorem Y7{P:Params}{h:Heap}{v:Value}{d:WData}(W:Well P h v d):match d with
 |.int i=>∃t,v=.int i t
 |.list xs=>∃a vs,v=.ref a/\h.get? a=some { cls:=.type "list",data:=.seq (List.toArray vs) }/\WellAll P h vs xs
 | _=>True:=by
 cases W with
 |int i t=>exact⟨t,rfl⟩
 |list ho r=>exact⟨_,_,rfl,ho,r⟩
 | _=>exact trivial
theorem Ov{P:Params}{h:Heap}{vs:List Value}{d:List WData}(W:WellAll P h vs d):match d with
 |[]=>vs=[]
 |d::ds=>∃v us,vs=v::us/\Well P h v d/\WellAll P h us ds:=by
 cases W with
 |nil=>rfl
 |cons a b=>exact⟨_,_,rfl,a,b⟩
theorem Yq{prog:Program}{w:World}{C:Addr}{P:Params}{h:Heap}(zs:List Int):∀{vs:List Value},WellAll P h vs (zs.map λ i=>WData.int i)->p8 prog w C h vs (zs.map V.int):=by
 induction zs with
 |nil=>intro vs r;rw[show vs=[] from Ov r];exact .nil _
 |cons i is ih=>
  intro vs r;obtain⟨v,us,rfl,a,b⟩:=Ov r;obtain⟨t,rfl⟩:=Y7 a;exact .cons (.int _ _ _) (ih b)
theorem afs(zs:List Int):ofPy (PyData.list (zs.map PyData.int))=.list (zs.map λ i=>WData.int i):=by
 have:∀l:List Int,ofPys (l.map PyData.int)=l.map λ i=>WData.int i:=by
  intro l
  induction l with
  |nil=>rfl
  |cons a r ih=>simp[ofPys,ofPy,ih]
 simp[ofPy,this]
theorem ahu{prog:Program}{w:World}{C:Addr}{P:Params}{h:Heap}{a:Addr}{zs:List Int}(W:Well P h (.ref a) (ofPy (PyData.list (zs.map PyData.int)))):Rep prog w C h (.ref a) (.list (zs.map V.int)):=by
 rw[afs]at W;obtain⟨b,vs,e,ho,r⟩:=Y7 W;rw[e];exact .list ho (Yq zs r)
theorem ah0{cf:CF}{can:Bool}{f:Fn}{bs:List qp}{st st1:Store}(hl:bs.length=f.ps.length)(h:Lb cf can f bs st=.ok (.bool true) st1):∃st',dw cf can f.body (f.ps.zip bs) st=.ok (.ret (.bool true)) st':=by
 unfold Lb at h;rw[bf hl]at h
 generalize dw cf can f.body (f.ps.zip bs) st=T at h⊢
 cases T with
 |bad=>exact nomatch h
 |exc x st'=>exact nomatch h
 |ok fl st'=>
  cases fl with
  |next ρ=>exact nomatch h
  |ret d=>exact⟨st',by rw[(R.ok.inj h).1]⟩
theorem al2{prog:Program}{w:World}{mg mb:Str->Option Value}{s:Shared}{K:Frag}(k:ae2 K) (X:K.In s.heap) (G:s.heap.Ns mainGlobals mg) (B:s.heap.Ns builtinsNs mb)(bl:∀x:Str,x≠"__name__"->mb x=bootBuiltins x)(lim:s.heap.NoLimit)
 {fa l:Addr}{zs:List Int}(hfa:mg (Str.ofString "law")=some (.ref fa)) (hi:zs.length<=63) (W:Well w.params s.heap (.ref l) (ofPy (PyData.list (zs.map PyData.int)))){RR:Result->Shared->Prop}
 (hR:∀h' tk,(∀b o,s.heap.get? b=some o->h'.get? b=some o)->RR (.ok (.ret (.bool true))) { s with heap:=h',toks:=tk }):
 codeAny (model prog w) callerA (.call (.ref fa) ⟨[.ref l],[]⟩) RR s:=by
 have wd:Wd prog w 166 s.heap mg mb K 44 56:=aww k X G B bl lim
 let P:Px:={ prog:=prog,w:=w,C:=166,H:=s.heap,cR:=44,cT:=56,l:=[],A:=callerA,env:=callEnvC (default:FuncData) 0 0,cf:=Ei tab yr 620,mg:=mg,mb:=mb,K:=K }
 have T:Tbl P:=as8 k rfl X G;have AR:Mz P:=X6 k rfl rfl X G;obtain⟨a,fd,body,hm,hkeep,F,hchk⟩:=T.fns "law" Qz rfl;have hm':mg (Str.ofString "law")=some (.ref a):=hm;obtain rfl:=adf (hfa.symm.trans hm');have room:Kp P.A P.l (619+1):=⟨rfl,rfl,(by show callerA.depth+620<recursionLimit;decide +kernel),(by show callerA.units+6*620+100<cLine;decide +kernel)⟩
 obtain⟨st,hlaw⟩:=Mine.Internal.X.ah1 0 zs hi;have hrun:Lb (Ei tab yr 619) (decide (4<=619)) Qz [.val (.list (zs.map .int))] []=.ok (.bool true) st:=hlaw;refine aak (P:=P) wd F (cf:=Ei tab yr 619) (can:=decide (4<=619)) (n:=619) room (λ L Fn=>?_) (c:=⟨s.heap,s.heap,[],[]⟩) (s:=s) (bs:=[.val (.list (zs.map .int))]) rfl
  ⟨lu _,lu _,trivial,⟨.nil,List.nodup_nil,λ _ h=>nomatch h⟩,λ _ h=>nomatch h⟩ (.cons (ahu W) .nil) rfl (k:=λ _=> 0) (λ _=>jf _) ?_
 ·have room':Kp (callerA.deeper (callEnvC fd L fa)) (callEnvC fd L fa::[]) 619:=room.enter _;obtain⟨q1,q2⟩:=ae4 T AR 619 (callEnvC fd L fa::[]) (callerA.deeper (callEnvC fd L fa)) (callEnvC fd L fa) Fn.ok room';refine Y6 (sc:=fd.scope) Qz.body body ⟨⟨Fn.ok,λ x h=>dh h,λ _=>rfl,q1,T.name,T.keep,q2⟩,Fn,F.kind,λ h=>Gp h,λ h4=>?_⟩ hchk;intro x hx w' k p1 p2 p3 p4;exact AR (callEnvC fd L fa::[]) (callerA.deeper (callEnvC fd L fa)) (callEnvC fd L fa) 619 (by decide) Fn room' x hx w' k p1 p2 p3 p4
 ·obtain⟨st',e⟩:=ah0 rfl hrun;rw[e];intro v c' tk hst si stp hv;cases Iu hv;exact hR c'.h tk (λ b o e=>stp.keep b o e (λ h=>nomatch h) (λ h=>nomatch h) (λ h=>nomatch h))
theorem avk:LeftO PySem.Challenge.pw_pq0398_01 qv lo (λ s=>xlAt qv [] s&&recOk [] s) (λ s=>(sees (afo adr s.heap),T3 (afo adr s.heap) Ds G5)) (λ _=>(seen,O1 PySem.Challenge.pw_pq0398_01 Ds G5 fnIdx)) 5200 true:=
 aks (m₀:=11) (ann:=some (.ref 6)) (M:=2600) (life:={ debug:=0,thresholds:=[2000,10,10] }) (YT:=λ s=>(sees (Yk adr s),T3 (Yk adr s) Ds G5)) rfl rfl (λ s=>rfl) (by intro w;kernel_rfl) (by decide) (λ s=>au (λ K=>(sees K,T3 K Ds G5)) (ag6 adr s)) az6
theorem avz:(PySem.Challenge.rw_pq0398_01.row).wellSaid=true:=by
 unfold OpenRow.wellSaid OpenRow.partSaid looksOpen
 repeat' (with_reducible refine jd.mpr ⟨?_,?_⟩)
 all_goals decide +kernel
theorem axc:PySem.Challenge.rw_pq0398_01.wellSaid=true:=by
 unfold OpenLaw.wellSaid
 repeat' (with_reducible refine jd.mpr ⟨?_,?_⟩)
 ·exact avz
 all_goals decide +kernel
theorem avu:(PySem.Challenge.pw_pq0398_01).bare:=⟨rfl,rfl,rfl,rfl,rfl,by decide +kernel⟩
end Mine.Internal
theorem PySem.Challenge.cw_pq0398_01_holds : PySem.Challenge.rw_pq0398_01.Holds := by
 refine holds_law Mine.Internal.axc λ said=>?_;refine holds_open (q:=Mine.Internal.qv) (loose:=Mine.Internal.lo) (Xt:=λ s=>xlAt Mine.Internal.qv [] s&&recOk (RowW.records (PySem.Challenge.rw_pq0398_01).row.toRowW) s) (XP:=XL Mine.Internal.qv []) (Yf:=λ s=>(Mine.Internal.sees (Mine.Internal.afo Mine.Internal.adr s.heap),Mine.Internal.T3 (Mine.Internal.afo Mine.Internal.adr s.heap) Mine.Internal.Ds Mine.Internal.G5)) (Ya:=λ _=>(Mine.Internal.seen,Mine.Internal.O1 PySem.Challenge.pw_pq0398_01 Mine.Internal.Ds Mine.Internal.G5 Mine.Internal.fnIdx)) (YP:=λ _ h=>∃K:Frag,K.In h/\Mine.Internal.ae2 K) (N:=5200) Mine.Internal.avk (λ w s e=>⟨_,Mine.Internal.akg _ _,Mine.Internal.ali (congrArg (λ x=>x.1) e) ⟨_,congrArg (λ x=>x.2) e,Mine.Internal.a0e⟩⟩) (λ w h h' ⟨K,a,b⟩ hk=>⟨K,λ x o e=>hk x o (a x o e),b⟩) (λ s e=>xl_of s (Bool.and_eq_true_iff.mp e).1) XL.keeps (by rfl) (by rfl) (by rfl) (λ s e=>recFacts_of (Bool.and_eq_true_iff.mp e).2) rfl said (by decide +kernel) Mine.Internal.avu ?hw ?hc
 case hw=>w_witness2
 case hc=>
  intro w s₀ sE mg mb G Y fa o pm cd doc dV kV ho hd hcd hD hmg hg args vals as hpre hlay hrd hwl hlo;obtain⟨K,KX,KS⟩:=Y;refine Ground.open G ?_;intro T B D TE TW
  wrow_args hpre hlay hrd hwl hlo
  refine enter_call ?_;refine Mine.Internal.al2 KS KX T.g T.b T.builtins T.nolimit (zs:=?zs) hmg ?hi ?W ?hR
  case W=>assumption
  case hi=>omega
  intro h' tk keep;refine GoodW.toG ⟨.inl ⟨.bool true,.bool true,[],rfl,raisesW_false ?_,.bool true,?_,λ _=>⟨List.nodup_nil,λ _ h=>nomatch h⟩⟩,keep,rfl,hg⟩
  ·wrow_none_raised
  ·wrow_post
end
