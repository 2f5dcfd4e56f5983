import PyProof.Rows.All
import Wide.All
import OpenK.AllK
import Wide.FinOn
import Lean
import PySem.Challenge.RW_nm0051_01
set_option Elab.async false
set_option autoImplicit false
set_option linter.all false
set_option maxHeartbeats 2000000
set_option maxRecDepth 100000
section
open PySem PySem.W PyProof.Rows
set_option maxHeartbeats 8000000
open_top hd for PySem.Challenge.rw_nm0051_01
end
namespace Mine
noncomputable section
abbrev m9:=@decide_eq_false
abbrev bL:=@if_neg
abbrev df:=@if_pos
abbrev nU:=@Nat.le_of_ble_eq_true
abbrev nc:=@PySem.Heap.lt_size
abbrev iV:=@PySem.Heap.get?_push_of_some
abbrev bU:=@PySem.wpAny_pure
abbrev bC:=@PySem.wpAny_bind
abbrev iy:=@PySem.wpAny_holding
abbrev v9:=@PySem.sizeLine_eq
abbrev xR:=@PySem.wpAny_newObj_type
abbrev kO:=@PySem.Heap.get?_push_size
abbrev cY:=@Bool.and_eq_true
abbrev oJ:=@decide_eq_true
abbrev DE:=@Bool.or_eq_false_iff
abbrev km:=@beq_eq_false_iff_ne
abbrev tG:=@List.foldl_cons
abbrev xS:=@Bool.false_ne_true
abbrev Am:=@Nat.ble_eq_true_of_le
abbrev qo:=@Array.length_toList
abbrev m7:=@Bool.or_eq_true
abbrev iG:=@decide_eq_true_eq
abbrev vR:=@beq_self_eq_true
abbrev gR:=@List.all_eq_true
abbrev mE:=@Bool.true_and
abbrev mF:=@Nat.zero_le
abbrev An:=@Nat.min_le_left
abbrev Ao:=@PySem.wpAny_isInstance
abbrev ft:=@Bool.not_true
abbrev mG:=@Bool.false_eq_true
abbrev lr:=@if_false
abbrev fB:=@List.mem_cons_self
abbrev hO:=@List.mem_cons_of_mem
abbrev gx:=@List.mem_cons
abbrev nM:=@Option.some.inj
abbrev rM:=@Bool.eq_iff_iff
abbrev Ap:=@Option.some.injEq
abbrev xT:=@List.mem_iff_getElem?
abbrev xU:=@List.getElem?_eq_none
abbrev qZ:=@List.getElem?_eq_getElem
abbrev pI:=@Bool.not_eq_true'
abbrev pJ:=@List.mem_append
abbrev kP:=@List.mem_singleton
abbrev lJ:=@List.map_append
abbrev kq:=@List.mem_map
abbrev gf:=@List.map_cons
abbrev m8:=@List.map_nil
abbrev sL:=@List.getElem?_map
abbrev lK:=@List.getElem?_eq_some_iff
abbrev DF:=@Array.mem_toList_iff
abbrev iw:=@List.mem_of_getElem?
abbrev lu:=@congrArg
abbrev uC:=@PySem.wpAny_dictEntries
abbrev Aq:=@PySem.wpAny_callSpecial?_slot
abbrev pK:=@PySem.wpAny_call_entry
abbrev xV:=@PySem.slot_dict_contains
abbrev Ar:=@PySem.wpAny_truthy_bool
abbrev xW:=@PySem.wpAny_notOrdered_dict
abbrev tH:=@PySem.Heap.SameBut.update
abbrev vS:=@PySem.Heap.get?_update_self
abbrev cT:=@List.length_cons
abbrev cU:=@List.length_append
abbrev sM:=@List.length_singleton
abbrev cQ:=@List.length_nil
abbrev Au:=@List.any_eq_true
abbrev DG:=@List.zip_cons_cons
abbrev qp:=@PySem.wpAny_mono
abbrev gy:=@Bool.not_false
abbrev DH:=@List.take_of_length_le
abbrev Av:=@PySem.F.slot_dict_keyiterator_next
abbrev DI:=@PySem.wpAny_typeNameOfWhole_keyiter
abbrev DJ:=@PySem.wpAny_typeNameOf_keyiter
abbrev ez:=@Nat.le_refl
abbrev qr:=@Nat.ne_of_lt
abbrev dM:=@beq_iff_eq
abbrev tJ:=@Bool.and_false
abbrev rN:=@PySem.wpAny_standAt
abbrev xX:=@List.all_cons
abbrev tK:=@PySem.callWith_type
abbrev Aw:=@Nat.succ_ne_self
abbrev kQ:=@Ne.symm
abbrev xY:=@List.getElem?_eq_none_iff
abbrev uD:=@Nat.lt_succ_self
abbrev nN:=@List.nodup_cons
abbrev jT:=@List.lookup_cons
abbrev Ax:=@List.mem_range
abbrev tL:=@Bool.and_true
abbrev vT:=@List.mem_filter
abbrev gG:=@cond_true
abbrev jg:=@cond_false
abbrev DK:=@Option.isNone_iff_eq_none
abbrev eY:=@List.nil_append
abbrev oK:=@List.length_map
abbrev vU:=@List.take_length
abbrev sN:=@List.append_nil
abbrev lL:=@decide_false
abbrev lM:=@Bool.false_and
abbrev vV:=@List.not_mem_nil
abbrev Ay:=@of_decide_eq_true
abbrev xZ:=@Bool.decide_and
abbrev fb:=@List.cons_append
abbrev Dn:=@List.lookup_append
abbrev jS:=@decide_true
abbrev lp:=@Bool.and_self
abbrev nK:=@Bool.true_or
abbrev ql:=@Bool.false_or
abbrev qU:=@List.length_filter_le
abbrev vI:=@List.foldl_append
abbrev Dp:=@List.getElem?_append_right
abbrev vJ:=@Int.le_refl
abbrev uB:=@Int.fmod_eq_emod_of_nonneg
abbrev Dq:=@List.forall_mem_append
abbrev Dr:=@List.forall_mem_cons
inductive Ad where
 |s (n:Nat)
 |g (n:Nat)
inductive Z where
 |l (i:Int)
 |y (k:Nat) (c:Int)
inductive V where
 |no|none
 |bool (b:Bool)
 |int (z:Z)
 |str (k:Nat)
 |tup (l:List V)
 |lst (l:List V)
 |ref (a:Ad)
inductive O where
 |free
 |list (l:List V)
 |dict (es:List (V×V)) (ep:Nat)
 |set (l:List V)
 |inst (c:Nat) (fs:List (Nat×V))
def Ad.beq:Ad->Ad->Bool
 |.s a,.s b=>Nat.beq a b
 |.g a,.g b=>Nat.beq a b
 |.s _,.g _=>false
 |.g _,.s _=>false
def Ad.live:Ad->Bool
 |.s n=>Nat.ble 16 n
 |.g _=>true
structure cG where
 cl:Nat->List Nat
 lo:Nat->Int
 hi:Nat->Int
 op:List (Nat×Z×Z×Z)
 tx:List (Nat×Nat×List (Int×Nat))
def Z.beq:Z->Z->Bool
 |.l i,.l j=>i==j
 |.y k c,.y e d=>Nat.beq k e&&(c==d)
 |.l _,.y _ _=>false
 |.y _ _,.l _=>false
def cG.fact(F:cG)(o:Nat)(a b:Z):List (Nat×Z×Z×Z)->Option Z
 |[]=>.none
 |(o',e,j,r)::t=>bif Nat.beq o o'&&a.beq e&&b.beq j then some r else F.fact o a b t
def qC(F:cG):Z->Z->Option Bool
 |.l i,.l j=>some (i==j)
 |.y k c,.y e d=>bif Nat.beq k e then some (c==d)else .none
 |.y k c,.l i=>bif decide (i-c<F.lo k)||decide (F.hi k<i-c)then some false else .none
 |.l i,.y k c=>bif decide (i-c<F.lo k)||decide (F.hi k<i-c)then some false else .none
def u7(F:cG):Z->Z->Option Bool
 |.l i,.l j=>some (decide (i<j))
 |.y k c,.l i=>bif decide (F.hi k+c<i)then some true else bif decide (i<=F.lo k+c)then some false else .none
 |.l i,.y k c=>bif decide (i<F.lo k+c)then some true else bif decide (F.hi k+c<=i)then some false else .none
 |.y _ _,.y _ _=>.none
def wa(F:cG)(a b:Nat):Option Bool:=
 bif Nat.beq a b then some true
 else bif(F.cl a).all (fun i=>(F.cl b).all (fun j=>!(Nat.beq i j)))then some false else .none
mutual
def eqv(F:cG):V->V->Option Bool
 |.none,b=>match b with|.none=>some true|.no=>.none|.ref _=>.none|_=>some false
 |.bool x,b=>match b with|.bool y=>some (x==y)|.int z=>qC F (.l (bif x then 1 else 0)) z|.no=>.none|.ref _=>.none|_=>some false
 |.int x,b=>match b with|.bool y=>qC F x (.l (bif y then 1 else 0))|.int z=>qC F x z|.no=>.none|.ref _=>.none|_=>some false
 |.str x,b=>match b with|.str y=>wa F x y|.no=>.none|.ref _=>.none|_=>some false
 |.tup x,b=>match b with|.tup y=>nV F x y|.no=>.none|.ref _=>.none|_=>some false
 |.lst x,b=>match b with|.lst y=>nV F x y|.no=>.none|.ref _=>.none|_=>some false
 |.no,_=>.none
 |.ref _,_=>.none
termination_by structural x=>x
def nV(F:cG):List V->List V->Option Bool
 |[],b=>match b with|[]=>some true|_::_=>some false
 |x::xs,b=>match b with
  |[]=>some false
  |y::ys=>match eqv F x y with|some true=>nV F xs ys|some false=>some false|.none=>.none
termination_by structural x=>x
end
structure HOps(H:Type) where
 get:H->Ad->O
 set:H->Ad->O->H
 ok:Ad->Bool
 EF:∀h a o b,ok a=true->get (set h a o) b=bif Ad.beq b a then o else get h b
structure St(H:Type) where
 h:H
 nx:Nat
mutual
def nW(r:Nat->Ad->Option V):V->Nat->Option V
 |.tup l,n=>match n with
  |0=>.none
  |n+1=>match nO r l n with|some e=>some (.tup e)|.none=>.none
 |.ref a,n=>r n a
 |.no,_=>.none
 |.none,_=>some .none
 |.bool b,_=>some (.bool b)
 |.int z,_=>some (.int z)
 |.str k,_=>some (.str k)
 |.lst _,_=>.none
termination_by structural x=>x
def nO(r:Nat->Ad->Option V):List V->Nat->Option (List V)
 |[],_=>some []
 |x::xs,n=>match nW r x n with
  |some j=>match nO r xs n with|some e=>some (j::e)|.none=>.none
  |.none=>.none
termination_by structural x=>x
end
def mi{H:Type}(D:HOps H)(h:H):Nat->Nat->Ad->Option V
 |0,_,_=>.none
 |k+1,n,a=>match D.get h a with
  |.list l=>match n with
   |0=>.none
   |n+1=>match nO (mi D h k) l n with|some e=>some (.lst e)|.none=>.none
  |_=>.none
termination_by structural k=>k
def jH(F:cG)(k:V):List (V×V)->Option (Option V)
 |[]=>some .none
 |(a,b)::r=>match eqv F a k with|some true=>some (some b)|some false=>jH F k r|.none=>.none
def qv(F:cG)(k v:V):List (V×V)->Option (List (V×V))
 |[]=>some [(k,v)]
 |(a,b)::r=>match eqv F a k with
  |some true=>some ((a,v)::r)
  |some false=>match qv F k v r with|some e=>some ((a,b)::e)|.none=>.none
  |.none=>.none
def qw(F:cG)(k:V):List (V×V)->Option (List (V×V))
 |[]=>some []
 |(a,b)::r=>match eqv F a k with
  |some true=>some r
  |some false=>match qw F k r with|some e=>some ((a,b)::e)|.none=>.none
  |.none=>.none
def mem(F:cG)(k:V):List V->Option Bool
 |[]=>some false
 |a::r=>match eqv F a k with|some true=>some true|some false=>mem F k r|.none=>.none
def oO(F:cG)(z:Z):List V->Option Bool
 |[]=>some false
 |a::r=>match a with
  |.int y=>match qC F y z with
   |some true=>match oO F z r with|some _=>some true|.none=>.none
   |some false=>oO F z r
   |.none=>.none
  |_=>.none
def Bl(i:Nat):V->Bool
 |.str j=>Nat.beq i j
 |_=>false
def aao:V->Bool
 |.str j=>Nat.blt j 1000
 |_=>false
def D4(F:cG)(k:Nat)(l:List V):Option Bool:=
 bif l.all aao then
  bif(F.cl k).all (fun i=>l.any (Bl i))then some true else bif(F.cl k).all (fun i=>!(l.any (Bl i)))then some false else .none
 else .none
def Bm(F:cG)(sl:Nat->Nat->Option Bool)(a b:V):Option Bool:=match a with
 |.int x=>match b with|.int y=>u7 F x y|_=>.none
 |.str x=>match b with|.str y=>sl x y|_=>.none
 |_=>.none
def AP:V->Bool
 |.int _=>true
 |.str _=>true
 |_=>false
def yx(F:cG)(sl:Nat->Nat->Option Bool):List V->List V->Option Bool
 |[],b=>match b with|[]=>some false|_::_=>some true
 |x::xs,b=>match b with
  |[]=>some false
  |y::ys=>bif AP x&&AP y then(match eqv F x y with
   |some true=>yx F sl xs ys
   |some false=>Bm F sl x y
   |.none=>.none)else .none
def tV(F:cG)(sl:Nat->Nat->Option Bool)(a b:V):Option Bool:=match a with
 |.tup x=>match b with|.tup y=>yx F sl x y|_=>.none
 |a=>Bm F sl a b
def bA{α:Type}:List α->Nat->Option α
 |[],_=>.none
 |a::_,0=>some a
 |_::r,n+1=>bA r n
def bW{α:Type}:List α->Nat->α->Option (List α)
 |[],_,_=>.none
 |_::r,0,v=>some (v::r)
 |a::r,n+1,v=>match bW r n v with|.none=>.none|some r=>some (a::r)
inductive Bo where
 |add|sub|mul|div|mod|band
inductive Co where
 |eq|ne|lt|le|gt|ge|is|wF|gk|nj
inductive Tg where
 |nm (i:Nat)
 |tp (l:List Tg)
inductive E where
 |c (v:V)
 |l (i:Nat)
 |gl (j:Nat)
 |at(e:E) (f:Nat)
 |ix (e i:E)
 |sl (e lo hi:E)
 |rv (e:E)
 |bi (o:Bo) (a b:E)
 |ng (a:E)
 |nt (a:E)
 |an (l:List E)
 |or (l:List E)
 |cm (o:Co) (a b:E)
 |ie (t a b:E)
 |tu (l:List E)
 |li (s:Option Nat) (l:List E)
 |d0 (s:Option Nat)
 |se (e:E)
 |cf (f:Nat) (l:List E)
 |ck (c:Nat) (s:Option Nat) (l:List E)
 |cb (b:Nat) (l:List E)
 |me (e:E) (m:Nat) (l:List E)
 |lc (b:E) (t:Tg) (i:E) (q:Option E)
inductive Ta where
 |nm (i:Nat)
 |at(e:E) (f:Nat)
inductive Sr where
 |ex (e:E)
 |rg (l:List E)
 |en (e:E)
inductive S where
 |as (i:Nat) (e:E)
 |aa (o:E) (f:Nat) (e:E)
 |ai (o i e:E)
 |tp (t:List Ta) (e:E)
 |ga (o:E) (f:Nat) (e:E)
 |gi (o i e:E)
 |ex (e:E)
 |if(t:E) (a b:List S)
 |wh (t:E) (b:List S)
 |fo (t:Tg) (i:Sr) (b:List S)
 |rt (e:E)
 |co
inductive Fl where
 |nx|cn
 |rt (v:V)
structure Fd where
 ar:Nat
 nl:Nat
 bd:List S
structure Pg where
 fn:Nat->Option Fd
 me:Nat->Nat->Option Nat
 rp:Nat->Option Nat
 gv:Nat->V
 cat:Nat->Nat->Option Nat
 chr:Nat->Nat->Option Nat
 sl:Nat->Nat->Option Bool
 dec:Int->Option Nat
 eE:Nat->Nat->Bool
structure Mc(H:Type) extends HOps H where
 F:cG
 P:Pg
abbrev R(H:Type)(α:Type):=Option (α×St H)
abbrev CH(H:Type):=Nat->List V->St H->R H V
abbrev L:=List V
def bO{H α e:Type}(x:R H α)(f:α->St H->R H e):R H e:=match x with
 |.none=>.none
 |some (a,s)=>f a s
def uM{H α:Type}(x:Option α)(s:St H):R H α:=match x with
 |.none=>.none
 |some a=>some (a,s)
def q0{H:Type}(x:Option Bool)(s:St H):R H V:=match x with
 |.none=>.none
 |some b=>some (.bool b,s)
def q8{H:Type}(x:Option Bool)(s:St H):R H V:=match x with
 |.none=>.none
 |some b=>some (.bool (!b),s)
def bu:Nat:=100000
def small(z:Int):Bool:=decide (-1000000<z)&&decide (z<1000000)
def fld(f:Nat):List (Nat×V)->Option V
 |[]=>.none
 |(g,v)::r=>match Nat.beq g f with|true=>some v|false=>fld f r
def put(f:Nat)(v:V):List (Nat×V)->List (Nat×V)
 |[]=>[(f,v)]
 |(g,u)::r=>match Nat.beq g f with|true=>(f,v)::r|false=>(g,u)::put f v r
def kk:V->Nat
 |.int _=>1
 |.str _=>2
 |.tup _=>3
 |_=>0
mutual
def jW:V->Nat->Bool
 |.int _,_=>true
 |.str _,_=>true
 |.bool _,_=>true
 |.tup l,n=>match n with|0=>false|n+1=>sO l n
 |_,_=>false
termination_by structural x=>x
def sO:List V->Nat->Bool
 |[],_=>true
 |x::r,n=>jW x n&&sO r n
termination_by structural x=>x
end
def jx(k:V)(es:List (V×V)):Bool:=jW k 6&&!(Nat.beq (kk k) 0)&&match es with
 |[]=>true
 |(a,_)::_=>Nat.beq (kk a) (kk k)
def yj:V->Option Nat
 |.int (.l (.ofNat n))=>some n
 |_=>.none
def jy(l:List V):V->Option V
 |.int (.l (.ofNat n))=>bif Nat.blt n bu then bA l n else .none
 |.int (.l (.negSucc n))=>bif Nat.blt n l.length&&Nat.blt n bu then bA l (l.length-1-n)else .none
 |_=>.none
def yl(l:List V)(c:Int):List (Int×Nat)->Bool
 |[]=>true
 |(n,s)::r=>(match jy l (.int (.l (n+c)))with
  |some v=>Bl s v
  |.none=>false)&&yl l c r
def DL(l:List V)(k:Nat)(c:Int):List (Nat×Nat×List (Int×Nat))->Option V
 |[]=>.none
 |(e,w,g)::r=>bif Nat.beq k e&&yl l c g then some (.str w)else DL l k c r
def HY(F:cG)(l:List V)(i:V):Option V:=match F.tx with
 |[]=>jy l i
 |t=>match i with|.int (.y k c)=>DL l k c t|i=>jy l i
def iX{H:Type}(x:Option V)(s:St H):R H V:=match x with
 |.none=>.none
 |some v=>match v with|.no=>.none|v=>some (v,s)
def hV(F:cG):Bo->Z->Z->Option Z
 |.add,.l a,.l b=>some (.l (a+b))
 |.sub,.l a,.l b=>some (.l (a-b))
 |.mul,.l a,.l b=>bif small a&&small b then some (.l (a*b))else .none
 |.div,.l a,.l b=>bif b==0||!(small b)then .none else some (.l (Int.fdiv a b))
 |.mod,.l a,.l b=>bif b==0 then .none else some (.l (Int.fmod a b))
 |.band,.l (.ofNat a),.l (.ofNat b)=>some (.l (.ofNat (Nat.land a b)))
 |.add,.y k c,.l b=>some (.y k (c+b))
 |.add,.l a,.y k c=>some (.y k (a+c))
 |.sub,.y k c,.l b=>some (.y k (c-b))
 |.div,.y k c,.l b=>bif small b then F.fact 0 (.y k c) (.l b) F.op else .none
 |.mod,.y k c,.l b=>F.fact 1 (.y k c) (.l b) F.op
 |_,_,_=>.none
def same(a b:V):Option Bool:=match b with
 |.none=>match a with|.none=>some true|.no=>.none|_=>some false
 |_=>.none
def bound(d:Nat):V->Option Nat
 |.none=>some d
 |.int (.l (.ofNat n))=>some n
 |_=>.none
def qV(a:Int):Nat->List V
 |0=>[]
 |n+1=>.int (.l a)::qV (a+1) n
def range:List V->Option (List V)
 |[.int (.l n)]=>bif small n then some (qV 0 n.toNat)else .none
 |[.int (.l a),.int (.l b)]=>bif small a&&small b then some (qV a (b-a).toNat)else .none
 |[.int (.l 0),.int (.l 12),.int (.l 4)]=>some [.int (.l 0),.int (.l 4),.int (.l 8)]
 |_=>.none
section
variable{H:Type}(M:Mc H)
def tW(h:H):V->Option Bool
 |.none=>some false
 |.bool b=>some b
 |.int z=>match qC M.F z (.l 0)with|some b=>some (!b)|.none=>.none
 |.ref a=>match M.get h a with|.list l=>some (!l.isEmpty)|_=>.none
 |_=>.none
def qx(v:V)(s:St H):R H Bool:=uM (tW M s.h v) s
def ya(a:Ad)(o:O)(s:St H):R H V:=match M.get s.h a with
 |.free=>bif M.ok a&&a.live&&Nat.blt s.nx bu then some (.ref a,⟨M.set s.h a o,s.nx+1⟩)else .none
 |_=>.none
def new(k:Option Nat)(o:O)(s:St H):R H V:=match k with
 |some k=>ya M (.s k) o s
 |.none=>ya M (.g s.nx) o s
def upd(a:Ad)(o:O)(s:St H):R H Unit:=bif a.live&&M.ok a&&Nat.blt s.nx bu then some ((),⟨M.set s.h a o,s.nx+1⟩)else .none
def pL(a:Ad)(o:O)(v:V)(s:St H):R H V:=bO (upd M a o s) fun _ s=>some (v,s)
def D5(x y:Ad)(s:St H):R H V:=match M.get s.h x with
 |.list l=>match M.get s.h y with|.list r=>bif Nat.blt (l.length+r.length) bu then new M .none (.list (l++r)) s else .none|_=>.none
 |_=>.none
def NA(x:Ad)(n:Nat)(s:St H):R H V:=match M.get s.h x with
 |.list [v]=>bif Nat.blt n bu then new M .none (.list (List.replicate n v)) s else .none
 |_=>.none
def q9(o:Bo)(a b:V)(s:St H):R H V:=match a with
 |.int x=>match b with
  |.int y=>match hV M.F o x y with|some z=>some (.int z,s)|.none=>.none
  |_=>.none
 |.str x=>match b with
  |.str y=>match o with
   |.add=>match M.P.cat x y with|some z=>some (.str z,s)|.none=>.none
   |_=>.none
  |_=>.none
 |.ref x=>match b with
  |.ref y=>match o with|.add=>D5 M x y s|_=>.none
  |.int (.l (.ofNat n))=>match o with|.mul=>NA M x n s|_=>.none
  |_=>.none
 |_=>.none
def qD(h:H)(a b:V):Option Bool:=match nW (mi M.toHOps h 3) a 20 with
 |some x=>match nW (mi M.toHOps h 3) b 20 with|some y=>eqv M.F x y|.none=>.none
 |.none=>.none
def kV(h:H)(a b:V):Option Bool:=match a with
 |.ref x=>match M.get h x with
  |.dict l _=>match b with
   |.ref y=>match M.get h y with
    |.dict r _=>match r with|[]=>some l.isEmpty|_::_=>.none
    |_=>.none
   |_=>.none
  |_=>qD M h a b
 |_=>qD M h a b
def D6(a:V)(l:List V):Option Bool:=match a with
 |.str k=>D4 M.F k l
 |.int z=>oO M.F z l
 |_=>.none
def D7(a:V)(l:List V):Option Bool:=match a with
 |.str k=>D4 M.F k l
 |_=>mem M.F a l
def dF(h:H)(a b:V):Option Bool:=match b with
 |.tup l=>D6 M a l
 |.ref r=>match M.get h r with
  |.list l=>D6 M a l
  |.dict es _=>bif jx a es then D7 M a (es.map (·.1))else .none
  |.set l=>match a with|.int z=>oO M.F z l|_=>.none
  |_=>.none
 |_=>.none
def tX(a b:V):Option Bool:=match a with
 |.int x=>match b with|.int y=>u7 M.F x y|_=>.none
 |_=>.none
def lR(o:Co)(a b:V)(s:St H):R H V:=match o with
 |.eq=>q0 (kV M s.h a b) s
 |.ne=>q8 (kV M s.h a b) s
 |.is=>q0 (same a b) s
 |.wF=>q8 (same a b) s
 |.gk=>q0 (dF M s.h a b) s
 |.nj=>q8 (dF M s.h a b) s
 |.lt=>q0 (tV M.F M.P.sl a b) s
 |.gt=>q0 (tX M b a) s
 |.le=>q8 (tX M b a) s
 |.ge=>q8 (tX M a b) s
def HZ(es:List (V×V))(i:V)(s:St H):R H V:=bif jx i es then(match jH M.F i es with
 |some (some v)=>some (v,s)
 |_=>.none)else .none
def hQ(a i:V)(s:St H):R H V:=match a with
 |.tup l=>iX (HY M.F l i) s
 |.str k=>match yj i with
  |some n=>match M.P.chr k n with|some c=>some (.str c,s)|.none=>.none
  |.none=>.none
 |.ref r=>match M.get s.h r with|.list l=>iX (jy l i) s|.dict es _=>HZ M es i s|_=>.none
 |_=>.none
def qs(a lo hi:V)(s:St H):R H V:=match a with
 |.ref r=>match M.get s.h r with
  |.list l=>match bound 0 lo with
   |some m=>match bound l.length hi with|some n=>new M .none (.list ((l.take n).drop m)) s|.none=>.none
   |.none=>.none
  |_=>.none
 |_=>.none
def D8(a:V)(s:St H):R H V:=match a with
 |.ref r=>match M.get s.h r with|.list l=>new M .none (.list l.reverse) s|_=>.none
 |_=>.none
def kR(a:V)(f:Nat)(s:St H):R H V:=match a with
 |.ref r=>match M.get s.h r with|.inst _ fs=>iX (fld f fs) s|_=>.none
 |_=>.none
def qt(a:V)(f:Nat)(v:V)(s:St H):R H Unit:=match a with
 |.ref r=>match M.get s.h r with|.inst c fs=>bif M.P.eE c f&&Nat.blt fs.length 1000 then upd M r (.inst c (put f v fs)) s else .none|_=>.none
 |_=>.none
def nP(a i v:V)(s:St H):R H Unit:=match a with
 |.ref r=>match M.get s.h r with
  |.list l=>match yj i with
   |some n=>match bW l n v with|some l=>upd M r (.list l) s|.none=>.none
   |.none=>.none
  |.dict es e=>bif jx i es&&Nat.blt es.length bu then(match qv M.F i v es with
   |some j=>upd M r (.dict j (bif Nat.beq j.length es.length then e else e+1)) s
   |.none=>.none)else .none
  |_=>.none
 |_=>.none
def vC:V->Bool
 |.tup l=>match l with
  |x::_=>match x with|.str _=>true|_=>false
  |[]=>false
 |_=>false
def Hz:List V->Option (List V)
 |[]=>some []
 |[a]=>some [a]
 |[a,b]=>bif vC a&&vC b then(match tV M.F M.P.sl b a with
  |some true=>some [b,a]
  |some false=>some [a,b]
  |.none=>.none)else .none
 |_=>.none
def H7(as:List V)(s:St H):R H V:=match as with
 |[.ref r]=>match M.get s.h r with|.list l=>some (.int (.l l.length),s)|_=>.none
 |_=>.none
def HA(as:List V)(s:St H):R H V:=match as with
 |[.ref r]=>match M.get s.h r with|.list l=>new M .none (.list l) s|.dict es _=>new M .none (.list (es.map (·.1))) s|_=>.none
 |[.tup l]=>bif Nat.blt l.length bu then new M .none (.list l) s else .none
 |_=>.none
def zV(as:List V)(s:St H):R H V:=match range as with
 |some l=>bif Nat.blt l.length bu then new M .none (.list l) s else .none
 |.none=>.none
def GU(as:List V)(s:St H):R H V:=match as with
 |[.ref r]=>match M.get s.h r with
  |.list l=>match Hz M l with|some e=>new M .none (.list e) s|.none=>.none
  |_=>.none
 |_=>.none
def H8(as:List V)(s:St H):R H V:=match as with
 |[.int (.l i)]=>match M.P.dec i with|some k=>some (.str k,s)|.none=>.none
 |_=>.none
def Hi(as:List V)(s:St H):R H V:=match as with
 |[.ref r]=>match M.get s.h r with|.list l=>some (.tup l,s)|_=>.none
 |_=>.none
def HB(as:List V)(s:St H):R H V:=match as with
 |[.bool b]=>some (.bool b,s)
 |_=>.none
def builtin(b:Nat)(as:List V)(s:St H):R H V:=match b with
 |0=>H7 M as s
 |1=>HA M as s
 |2=>zV M as s
 |3=>GU M as s
 |4=>H8 M as s
 |5=>Hi M as s
 |6=>HB as s
 |_=>.none
def C9(r:Ad)(l:List V)(as:List V)(s:St H):R H V:=match as with
 |[v]=>bif Nat.blt l.length bu then pL M r (.list (l++[v])) .none s else .none
 |_=>.none
def D9(r:Ad)(l:List V)(as:List V)(s:St H):R H V:=match as with
 |[]=>match l.getLast? with
  |some v=>match v with|.no=>.none|v=>pL M r (.list l.dropLast) v s
  |.none=>.none
 |_=>.none
def wb(r:Ad)(es:List (V×V))(e:Nat)(k v:V)(s:St H):R H V:=match qw M.F k es with
 |some j=>pL M r (.dict j (e+1)) v s
 |.none=>.none
def vW(r:Ad)(es:List (V×V))(e:Nat)(as:List V)(s:St H):R H V:=match as with
 |[k]=>bif jx k es then(match jH M.F k es with
  |some (some v)=>wb M r es e k v s
  |_=>.none)else .none
 |[k,d]=>bif jx k es then(match jH M.F k es with
  |some (some v)=>wb M r es e k v s
  |some .none=>some (d,s)
  |.none=>.none)else .none
 |_=>.none
def AQ(es:List (V×V))(as:List V)(s:St H):R H V:=match as with
 |[k,d]=>bif jx k es then(match jH M.F k es with
  |some (some v)=>some (v,s)
  |some .none=>some (d,s)
  |.none=>.none)else .none
 |_=>.none
def H9(r:Ad)(l:List V)(as:List V)(s:St H):R H V:=match as with
 |[.int z]=>match oO M.F z l with|some true=>bif Nat.blt l.length 4000 then pL M r (.set l) .none s else .none|some false=>bif Nat.blt l.length 4000 then pL M r (.set (l++[.int z])) .none s else .none|.none=>.none
 |_=>.none
def sG(r:Ad)(m:Nat)(as:List V)(s:St H):R H V:=match M.get s.h r with
 |.list l=>match m with|0=>C9 M r l as s|1=>D9 M r l as s|_=>.none
 |.dict es e=>match m with|1=>vW M r es e as s|2=>AQ M es as s|_=>.none
 |.set l=>match m with|3=>H9 M r l as s|_=>.none
 |_=>.none
def eD(h:H):V->Option (List V)
 |.tup l=>some l
 |.ref r=>match M.get h r with|.list l=>some l|_=>.none
 |_=>.none
mutual
def fV:Tg->V->H->L->Option L
 |.nm i,v,_,l=>bW l i v
 |.tp is,v,h,l=>match eD M h v with|some vs=>rI is vs h l|.none=>.none
termination_by structural t=>t
def rI:List Tg->List V->H->L->Option L
 |[],vs,_,l=>match vs with|[]=>some l|_::_=>.none
 |t::ts,vs,h,l=>match vs with
  |[]=>.none
  |v::r=>match fV t v h l with|some e=>rI ts r h e|.none=>.none
termination_by structural t=>t
end
inductive It where
 |li (a:Ad)
 |di (a:Ad) (n e:Nat)
 |tu (l:List V)
 |en (a:Ad)
def hX(t:It)(i:Nat)(h:H):Option (Option V):=match t with
 |.li a=>match M.get h a with|.list l=>some (bA l i)|_=>.none
 |.di a n j=>match M.get h a with
  |.dict es e=>bif Nat.beq es.length n&&Nat.beq e j then some (match bA es i with
   |some e=>some e.1
   |.none=>.none)else .none
  |_=>.none
 |.tu l=>some (bA l i)
 |.en a=>match M.get h a with
  |.list l=>some (match bA l i with
   |some v=>some (.tup [.int (.l i),v])
   |.none=>.none)
  |_=>.none
def count(t:It)(h:H):Nat:=match t with
 |.li a=>match M.get h a with|.list l=>l.length|_=>0
 |.di _ n _=>n
 |.tu l=>l.length
 |.en a=>match M.get h a with|.list l=>l.length|_=>0
def iter(h:H):V->Option It
 |.tup l=>some (.tu l)
 |.ref a=>match M.get h a with|.list _=>some (.li a)|.dict es e=>some (.di a es.length e)|_=>.none
 |_=>.none
def yb(v:V)(s:St H):R H Ad:=match v with
 |.ref a=>match M.get s.h a with|.list _=>some (a,s)|_=>.none
 |_=>.none
def uE(v:V)(s:St H):R H It:=uM (iter M s.h v) s
def eU(t:It)(e:V->L->St H->R H (Fl×L)):Nat->Nat->L->St H->R H (Fl×L)
 |0,_,_,_=>.none
 |k+1,i,l,s=>match hX M t i s.h with
  |.none=>.none
  |some .none=>some ((.nx,l),s)
  |some (some v)=>match e v l s with|.none=>.none|some ((.rt v,l),s)=>some ((.rt v,l),s)|some ((_,l),s)=>eU t e k (i+1) l s
def u9(e:L->St H->R H Bool)(body:L->St H->R H (Fl×L)):Nat->L->St H->R H (Fl×L)
 |0,_,_=>.none
 |k+1,l,s=>match e l s with
  |.none=>.none
  |some (false,s)=>some ((.nx,l),s)
  |some (true,s)=>match body l s with|.none=>.none|some ((.rt v,l),s)=>some ((.rt v,l),s)|some ((_,l),s)=>u9 e body k l s
def jU(t:It)(e:V->L->St H->R H (Option V)):Nat->Nat->List V->L->St H->R H (List V)
 |0,_,_,_,_=>.none
 |k+1,i,acc,l,s=>match hX M t i s.h with
  |.none=>.none
  |some .none=>some (acc,s)
  |some (some v)=>match e v l s with|.none=>.none|some (.none,s)=>jU t e k (i+1) acc l s|some (some x,s)=>bif Nat.blt acc.length bu then jU t e k (i+1) (acc++[x]) l s else .none
abbrev X(H:Type)(α:Type):=L->St H->R H α
variable(C:CH H)
def xC(v:V):X H V:=fun _ s=>some (v,s)
def xL(i:Nat):X H V:=fun l s=>iX (bA l i) s
def EG(e:X H V)(f:Nat):X H V:=fun l s=>bO (e l s) fun v s=>kR M v f s
def EH(e i:X H V):X H V:=fun l s=>bO (e l s) fun v s=>bO (i l s) fun w s=>hQ M v w s
def Ov(e lo hi:X H V):X H V:=fun l s=>bO (e l s) fun v s=>bO (lo l s) fun a s=>bO (hi l s) fun b s=>qs M v a b s
def Ow(e:X H V):X H V:=fun l s=>bO (e l s) fun v s=>D8 M v s
def Ox(o:Bo)(a b:X H V):X H V:=fun l s=>bO (a l s) fun v s=>bO (b l s) fun w s=>q9 M o v w s
def neg(v:V)(s:St H):R H V:=match v with
 |.int (.l i)=>some (.int (.l (-i)),s)
 |_=>.none
def Oy(e:X H V):X H V:=fun l s=>bO (e l s) fun v s=>neg v s
def xB(e:X H V):X H Bool:=fun l s=>bO (e l s) fun v s=>qx M v s
def IG(e:X H V):X H V:=fun l s=>bO (xB M e l s) fun b s=>some (.bool (!b),s)
def Bn(o:Co)(a b:X H V):X H V:=fun l s=>bO (a l s) fun v s=>bO (b l s) fun w s=>lR M o v w s
def IH(t a b:X H V):X H V:=fun l s=>bO (xB M t l s) fun c s=>match c with
 |true=>a l s
 |false=>b l s
def EI(es:X H (List V)):X H V:=fun l s=>bO (es l s) fun vs s=>some (.tup vs,s)
def Oz(k:Option Nat)(es:X H (List V)):X H V:=fun l s=>bO (es l s) fun vs s=>new M k (.list vs) s
def OA(k:Option Nat):X H V:=fun _ s=>new M k (.dict [] 0) s
def Ea(v:V)(s:St H):R H V:=match v with
 |.int z=>new M .none (.set [.int z]) s
 |_=>.none
def OB(e:X H V):X H V:=fun l s=>bO (e l s) fun v s=>Ea M v s
def EJ(f:Nat)(es:X H (List V)):X H V:=fun l s=>bO (es l s) fun vs s=>C f vs s
def Eb(v r:V)(s:St H):R H V:=match r with
 |.none=>some (v,s)
 |_=>.none
def make(c:Nat)(k:Option Nat)(vs:List V)(s:St H):R H V:=match M.P.rp c with
 |some f=>bO (new M k (.inst c []) s) fun v s=>bO (C f (v::vs) s) fun r s=>Eb v r s
 |.none=>.none
def OC(c:Nat)(k:Option Nat)(es:X H (List V)):X H V:=fun l s=>bO (es l s) fun vs s=>make M C c k vs s
def EK(b:Nat)(es:X H (List V)):X H V:=fun l s=>bO (es l s) fun vs s=>builtin M b vs s
def lx:O->Nat
 |.list _=>0
 |.dict _ _=>1
 |.set _=>2
 |_=>3
def gO(k:Nat)(r:Ad)(m:Nat)(as:List V)(s:St H):R H V:=match Nat.beq (lx (M.get s.h r)) k with
 |true=>sG M r m as s
 |false=>.none
def own(h:H)(r:Ad)(m:Nat):Option (Option Nat):=match M.get h r with
 |.inst c _=>match M.P.me c m with|some f=>some (some f)|.none=>.none
 |.free=>.none
 |_=>some .none
def ic(v:V)(m:Nat)(es:X H (List V))(l:L)(s:St H):R H V:=match v with
 |.ref r=>match own M s.h r m with|some (some f)=>bO (es l s) fun vs s=>C f (v::vs) s|some .none=>bO (es l s) fun vs t=>gO M (lx (M.get s.h r)) r m vs t|.none=>.none
 |_=>.none
def OD(e:X H V)(m:Nat)(es:X H (List V)):X H V:=fun l s=>bO (e l s) fun v s=>ic M C v m es l s
def HC(b:X H V):X H (Option V):=fun l s=>bO (b l s) fun x s=>some (some x,s)
def xQ(q:Option (X H V))(b:X H V):X H (Option V):=fun l s=>match q with
 |.none=>HC b l s
 |some q=>bO (xB M q l s) fun c s=>match c with|false=>some (.none,s)|true=>HC b l s
def dE{α:Type}(t:Tg)(b:X H α)(v:V):X H α:=fun l s=>match fV M t v s.h l with
 |.none=>.none
 |some l=>b l s
def II(b:X H V)(t:Tg)(i:X H V)(q:Option (X H V)):X H V:=fun l s=>bO (i l s) fun v s=>bO (yb M v s) fun a s=>bO (jU M (.li a) (dE M t (xQ M q b)) (count M (.li a) s.h+1) 0 [] l s) fun xs s=>new M .none (.list xs) s
def xN:X H (List V):=fun _ s=>some ([],s)
def xK(e:X H V)(r:X H (List V)):X H (List V):=fun l s=>bO (e l s) fun v s=>bO (r l s) fun vs s=>some (v::vs,s)
def IJ(e r:X H V):X H V:=fun l s=>bO (e l s) fun v s=>bO (qx M v s) fun c s=>match c with
 |true=>r l s
 |false=>some (v,s)
def IK(e r:X H V):X H V:=fun l s=>bO (e l s) fun v s=>bO (qx M v s) fun c s=>match c with
 |true=>some (v,s)
 |false=>r l s
def MO{α:Type}:X H α:=fun _ _=>.none
mutual
def b9:E->X H V
 |.c v=>xC v
 |.l i=>xL i
 |.gl j=>xC (M.P.gv j)
 |.at e f=>EG M (b9 e) f
 |.ix e i=>EH M (b9 e) (b9 i)
 |.sl e lo hi=>Ov M (b9 e) (b9 lo) (b9 hi)
 |.rv e=>Ow M (b9 e)
 |.bi o a b=>Ox M o (b9 a) (b9 b)
 |.ng a=>Oy (b9 a)
 |.nt a=>IG M (b9 a)
 |.an es=>AR es
 |.or es=>AS es
 |.cm o a b=>Bn M o (b9 a) (b9 b)
 |.ie t a b=>IH M (b9 t) (b9 a) (b9 b)
 |.tu es=>EI (dA es)
 |.li k es=>Oz M k (dA es)
 |.d0 k=>OA M k
 |.se e=>OB M (b9 e)
 |.cf f es=>EJ C f (dA es)
 |.ck c k es=>OC M C c k (dA es)
 |.cb b es=>EK M b (dA es)
 |.me e m es=>OD M C (b9 e) m (dA es)
 |.lc b t i q=>II M (b9 b) t (b9 i) (IL q)
termination_by structural e=>e
def IL:Option E->Option (X H V)
 |.none=>.none
 |some e=>some (b9 e)
termination_by structural e=>e
def dA:List E->X H (List V)
 |[]=>xN
 |e::r=>xK (b9 e) (dA r)
termination_by structural e=>e
def AR:List E->X H V
 |[]=>MO
 |e::r=>match r with|[]=>b9 e|_::_=>IJ M (b9 e) (AR r)
termination_by structural e=>e
def AS:List E->X H V
 |[]=>MO
 |e::r=>match r with|[]=>b9 e|_::_=>IK M (b9 e) (AS r)
termination_by structural e=>e
end
abbrev Y(H:Type):=L->St H->R H (Fl×L)
def rO(l:L)(s:St H):R H (Fl×L):=some ((.nx,l),s)
def wG(i:Nat)(e:X H V):Y H:=fun l s=>bO (e l s) fun v s=>match bW l i v with
 |.none=>.none
 |some l=>rO l s
def OE(o:X H V)(f:Nat)(e:X H V):Y H:=fun l s=>bO (e l s) fun v s=>bO (o l s) fun x s=>bO (qt M x f v s) fun _ s=>rO l s
def OF(o i e:X H V):Y H:=fun l s=>bO (e l s) fun v s=>bO (o l s) fun x s=>bO (i l s) fun j s=>bO (nP M x j v s) fun _ s=>rO l s
inductive Tx(H:Type) where
 |nm (i:Nat)
 |at(e:X H V) (f:Nat)
def iP:List (Tx H)->List V->L->St H->R H L
 |[],vs,l,s=>match vs with|[]=>some (l,s)|_::_=>.none
 |t::ts,vs,l,s=>match vs with
  |[]=>.none
  |v::r=>match t with
   |.nm i=>match bW l i v with|.none=>.none|some l=>iP ts r l s
   |.at o f=>bO (o l s) fun x s=>bO (qt M x f v s) fun _ s=>iP ts r l s
def EL(t:List (Tx H))(e:X H V):Y H:=fun l s=>bO (e l s) fun v s=>match eD M s.h v with
 |.none=>.none
 |some vs=>bO (iP M t vs l s) fun l s=>rO l s
def wc(v w:V)(s:St H):R H V:=match v with
 |.int x=>match w with
  |.int y=>match hV M.F .add x y with|some z=>some (.int z,s)|.none=>.none
  |_=>.none
 |_=>.none
def OG(o:X H V)(f:Nat)(e:X H V):Y H:=fun l s=>bO (o l s) fun x s=>bO (kR M x f s) fun u s=>bO (e l s) fun v s=>bO (wc M u v s) fun w s=>bO (qt M x f w s) fun _ s=>rO l s
def OH(o i e:X H V):Y H:=fun l s=>bO (o l s) fun x s=>bO (i l s) fun j s=>bO (hQ M x j s) fun u s=>bO (e l s) fun v s=>bO (wc M u v s) fun w s=>bO (nP M x j w s) fun _ s=>rO l s
def EM(e:X H V):Y H:=fun l s=>bO (e l s) fun _ s=>rO l s
def EN(t:X H V)(a b:Y H):Y H:=fun l s=>bO (xB M t l s) fun c s=>match c with
 |true=>a l s
 |false=>b l s
def DM:Nat:=300
def OI(t:X H V)(b:Y H):Y H:=fun l s=>u9 (xB M t) b DM l s
def OJ(e:X H V):X H It:=fun l s=>bO (e l s) fun v s=>match v with
 |.ref a=>match M.get s.h a with|.list _=>some (.en a,s)|_=>.none
 |_=>.none
def OK(es:X H (List V)):X H It:=fun l s=>bO (es l s) fun vs s=>match range vs with
 |some xs=>some (.tu xs,s)
 |.none=>.none
def OL(e:X H V):X H It:=fun l s=>bO (e l s) fun v s=>uE M v s
def tY:Sr->X H It
 |.ex e=>OL M (b9 M C e)
 |.rg es=>OK (dA M C es)
 |.en e=>OJ M (b9 M C e)
def OM(t:Tg)(x:X H It)(b:Y H):Y H:=fun l s=>bO (x l s) fun it s=>eU M it (dE M t b) (count M it s.h+1) 0 l s
def Bp(e:X H V):Y H:=fun l s=>bO (e l s) fun v s=>some ((.rt v,l),s)
def ON:Y H:=fun l s=>some ((.cn,l),s)
def yK(a r:Y H):Y H:=fun l s=>match a l s with
 |.none=>.none
 |some ((f,l),s)=>match f with|.nx=>r l s|f=>some ((f,l),s)
def pP:List Ta->List (Tx H)
 |[]=>[]
 |.nm i::r=>.nm i::pP r
 |.at e f::r=>.at (b9 M C e) f::pP r
mutual
def eJ:S->Y H
 |.as i e=>wG i (b9 M C e)
 |.aa o f e=>OE M (b9 M C o) f (b9 M C e)
 |.ai o i e=>OF M (b9 M C o) (b9 M C i) (b9 M C e)
 |.tp t e=>EL M (pP M C t) (b9 M C e)
 |.ga o f e=>OG M (b9 M C o) f (b9 M C e)
 |.gi o i e=>OH M (b9 M C o) (b9 M C i) (b9 M C e)
 |.ex e=>EM (b9 M C e)
 |.if t a b=>EN M (b9 M C t) (cy a) (cy b)
 |.wh t b=>OI M (b9 M C t) (cy b)
 |.fo t x b=>OM M t (tY M C x) (cy b)
 |.rt e=>Bp (b9 M C e)
 |.co=>ON
termination_by structural e=>e
def cy:List S->Y H
 |[]=>rO
 |c::r=>yK (eJ c) (cy r)
termination_by structural e=>e
end
def ri(x:R H (Fl×L)):R H V:=match x with
 |.none=>.none
 |some ((f,_),s)=>match f with|.rt v=>some (v,s)|_=>some (.none,s)
def fill:Nat->List V
 |0=>[]
 |n+1=>.no::fill n
def enter(C:CH H)(d:Fd)(as:List V)(s:St H):R H V:=bif Nat.beq as.length d.ar then ri (cy M C d.bd (as++fill (d.nl-d.ar)) s)else .none
def bH:Nat->CH H
 |0,_,_,_=>.none
 |n+1,f,as,s=>match M.P.fn f with|.none=>.none|some d=>enter M (bH n) d as s
end
def Y1:List String:=["k","r","v","slot","name","add","copy","const","load","store","move","s","u","","sx8","sx16","zx8","zx16","sx","zx","8","16","32","g","h","call","see","give","f","jump","branch","table","su","mul","and","or","xor","eq","ne","sub","div","divu","rem","remu","shl","shr","sar","lt","ltu","neg","not"]
def fields:List String:=["op","dst","args","more","is_volatile","line","number","steps","end","name","params","is_static","slots","blocks","registers","has_value","value","how","func","once","private","next","steady","local","cells","places","forms","exprs","holders","same","log","changed"]
def DN:Fd:=⟨1,1,[.rt (.tu [.c (.str 0),.bi .band (.l 0) (.gl 0)])]⟩
def vy:Fd:=⟨5,5,[.aa (.l 0) 0 (.l 1),
 .aa (.l 0) 1 (.l 2),
 .aa (.l 0) 2 (.l 3),
 .aa (.l 0) 3 (.l 4),
 .aa (.l 0) 4 (.c (.bool false)),
 .aa (.l 0) 5 (.c (.int (.l 0)))]⟩
def xt:Fd:=⟨2,2,[.aa (.l 0) 6 (.l 1),
 .aa (.l 0) 7 (.li .none []),
 .aa (.l 0) 8 (.c .none)]⟩
def xu:Fd:=⟨2,2,[.aa (.l 0) 9 (.l 1),
 .aa (.l 0) 10 (.li .none []),
 .aa (.l 0) 11 (.c (.bool false)),
 .aa (.l 0) 12 (.li .none []),
 .aa (.l 0) 13 (.li .none []),
 .aa (.l 0) 14 (.c (.int (.l 0))),
 .aa (.l 0) 15 (.c (.bool false))]⟩
def zm:Fd:=⟨1,2,[.as 1 (.at (.l 0) 8),
 .if (.cm .eq (.at (.l 1) 0) (.c (.str 29))) [.rt (.li .none [.at (.l 1) 3])] [],
 .if (.cm .eq (.at (.l 1) 0) (.c (.str 30))) [.rt (.li .none [.ix (.at (.l 1) 3) (.c (.int (.l 0))),.ix (.at (.l 1) 3) (.c (.int (.l 1)))])] [],
 .if (.cm .eq (.at (.l 1) 0) (.c (.str 31))) [.rt (.bi .add (.cb 1 [.ix (.at (.l 1) 3) (.c (.int (.l 1)))]) (.li .none [.ix (.at (.l 1) 3) (.c (.int (.l 2)))]))] [],
 .rt (.li .none [])]⟩
def Dc:Fd:=⟨1,5,[.as 1 (.lc (.li .none []) (.nm 4) (.at (.l 0) 13) .none),
 .fo (.nm 2) (.ex (.at (.l 0) 13)) [.fo (.nm 3) (.ex (.cf 4 [.l 2])) [.if (.cm .nj (.at (.l 2) 6) (.ix (.l 1) (.l 3))) [.ex (.me (.ix (.l 1) (.l 3)) 0 [.at (.l 2) 6])] []]],
 .rt (.l 1)]⟩
def zo:Fd:=⟨1,6,[.as 1 (.li .none []),
 .as 2 (.se (.c (.int (.l 0)))),
 .as 3 (.li .none [.li .none [.c (.int (.l 0)),.cf 4 [.ix (.at (.l 0) 13) (.c (.int (.l 0)))],.c (.int (.l 0))]]),
 .wh (.l 3) [.as 4 (.ix (.l 3) (.ng (.c (.int (.l 1))))),
 .if (.cm .eq (.ix (.l 4) (.c (.int (.l 2)))) (.cb 0 [.ix (.l 4) (.c (.int (.l 1)))])) [.ex (.me (.l 1) 0 [.ix (.l 4) (.c (.int (.l 0)))]),
 .ex (.me (.l 3) 1 []),
 .co] [],
 .as 5 (.ix (.ix (.l 4) (.c (.int (.l 1)))) (.ix (.l 4) (.c (.int (.l 2))))),
 .gi (.l 4) (.c (.int (.l 2))) (.c (.int (.l 1))),
 .if (.cm .nj (.l 5) (.l 2)) [.ex (.me (.l 2) 3 [.l 5]),
 .ex (.me (.l 3) 0 [.li .none [.l 5,.cf 4 [.ix (.at (.l 0) 13) (.l 5)],.c (.int (.l 0))]])] []],
 .rt (.l 1)]⟩
def zO:Fd:=⟨1,1,[.rt (.rv (.cf 6 [.l 0]))]⟩
def CB:Fd:=⟨4,4,[.wh (.cm .ne (.l 2) (.l 3)) [.wh (.cm .gt (.ix (.l 1) (.l 2)) (.ix (.l 1) (.l 3))) [.as 2 (.ix (.l 0) (.l 2))],
 .wh (.cm .gt (.ix (.l 1) (.l 3)) (.ix (.l 1) (.l 2))) [.as 3 (.ix (.l 0) (.l 3))]],
 .rt (.l 2)]⟩
def CE:Fd:=⟨1,10,[.as 1 (.cf 7 [.l 0]),
 .as 2 (.d0 .none),
 .fo (.tp [.nm 3,.nm 4]) (.en (.l 1)) [.ai (.l 2) (.l 4) (.l 3)],
 .as 5 (.cf 5 [.l 0]),
 .as 6 (.bi .mul (.li .none [.ng (.c (.int (.l 1)))]) (.cb 0 [.at (.l 0) 13])),
 .ai (.l 6) (.c (.int (.l 0))) (.c (.int (.l 0))),
 .as 7 (.c (.bool true)),
 .wh (.l 7) [.as 7 (.c (.bool false)),
 .fo (.nm 4) (.ex (.sl (.l 1) (.c (.int (.l 1))) (.c .none))) [.as 8 (.ng (.c (.int (.l 1)))),
 .fo (.nm 9) (.ex (.ix (.l 5) (.l 4))) [.if (.cm .ge (.ix (.l 6) (.l 9)) (.c (.int (.l 0)))) [.as 8 (.ie (.cm .lt (.l 8) (.c (.int (.l 0)))) (.l 9) (.cf 8 [.l 6,.l 2,.l 8,.l 9]))] []],
 .if (.cm .ne (.l 8) (.ix (.l 6) (.l 4))) [.ai (.l 6) (.l 4) (.l 8),
 .as 7 (.c (.bool true))] []]],
 .rt (.l 6)]⟩
def CC:Fd:=⟨1,5,[.as 1 (.lc (.li .none []) (.nm 4) (.l 0) .none),
 .fo (.tp [.nm 2,.nm 3]) (.en (.l 0)) [.if (.an [.cm .gt (.l 2) (.c (.int (.l 0))),.cm .ge (.l 3) (.c (.int (.l 0)))]) [.ex (.me (.ix (.l 1) (.l 3)) 0 [.l 2])] []],
 .rt (.l 1)]⟩
def zI:Fd:=⟨1,1,[.as 0 (.bi .mod (.l 0) (.gl 2)),
 .rt (.ie (.cm .ge (.l 0) (.gl 1)) (.bi .sub (.l 0) (.gl 2)) (.l 0))]⟩
def CG:Fd:=⟨1,6,[.tp [.nm 1,.nm 2] (.tu [.d0 (some 17),.d0 (some 18)]),
 .fo (.nm 3) (.ex (.at (.l 0) 10)) [.ai (.l 1) (.l 3) (.c (.bool true))],
 .fo (.nm 4) (.ex (.at (.l 0) 13)) [.fo (.nm 5) (.ex (.at (.l 4) 7)) [.if (.cm .gk (.at (.l 5) 1) (.l 1)) [.ai (.l 2) (.at (.l 5) 1) (.c (.bool true))] [.if (.cm .ge (.at (.l 5) 1) (.c (.int (.l 0)))) [.ai (.l 1) (.at (.l 5) 1) (.c (.bool true))] []]]],
 .fo (.nm 3) (.ex (.l 2)) [.ex (.me (.l 1) 1 [.l 3])],
 .rt (.l 1)]⟩
def zp:Fd:=⟨2,2,[.if (.cm .eq (.at (.l 0) 0) (.c (.str 3))) [.rt (.at (.l 0) 3)] [],
 .if (.an [.cm .eq (.at (.l 0) 0) (.c (.str 6)),.cm .eq (.ix (.ix (.at (.l 0) 2) (.c (.int (.l 0)))) (.c (.int (.l 0)))) (.c (.str 1))]) [.rt (.me (.l 1) 2 [.ix (.ix (.at (.l 0) 2) (.c (.int (.l 0)))) (.c (.int (.l 1))),.ng (.c (.int (.l 1)))])] [],
 .if (.an [.cm .eq (.at (.l 0) 0) (.c (.str 5)),.cm .eq (.ix (.ix (.at (.l 0) 2) (.c (.int (.l 0)))) (.c (.int (.l 0)))) (.c (.str 1)),.cm .eq (.ix (.ix (.at (.l 0) 2) (.c (.int (.l 1)))) (.c (.int (.l 0)))) (.c (.str 0))]) [.rt (.me (.l 1) 2 [.ix (.ix (.at (.l 0) 2) (.c (.int (.l 0)))) (.c (.int (.l 1))),.ng (.c (.int (.l 1)))])] [],
 .rt (.ng (.c (.int (.l 1))))]⟩
def Cr:Fd:=⟨2,6,[.as 2 (.d0 (some 20)),
 .fo (.nm 3) (.ex (.cf 7 [.l 0])) [.fo (.nm 4) (.ex (.at (.ix (.at (.l 0) 13) (.l 3)) 7)) [.if (.cm .gk (.at (.l 4) 1) (.l 1)) [.as 5 (.cf 13 [.l 4,.l 2]),
 .if (.cm .ge (.l 5) (.c (.int (.l 0)))) [.ai (.l 2) (.at (.l 4) 1) (.l 5)] []] []]],
 .rt (.l 2)]⟩
def CY:Fd:=⟨3,4,[.fo (.nm 3) (.ex (.l 0)) [.if (.an [.cm .eq (.ix (.l 3) (.c (.int (.l 0)))) (.c (.str 1)),.cm .gk (.ix (.l 3) (.c (.int (.l 1)))) (.l 1)]) [.ex (.me (.l 2) 1 [.ix (.l 1) (.ix (.l 3) (.c (.int (.l 1)))),.c .none])] []]]⟩
def Cy:Fd:=⟨2,7,[.as 2 (.d0 (some 19)),
 .fo (.nm 3) (.rg [.cb 0 [.at (.l 0) 12]]) [.ai (.l 2) (.l 3) (.c (.bool true))],
 .if (.cm .eq (.l 2) (.d0 .none)) [.rt (.l 2)] [],
 .as 4 (.cf 14 [.l 0,.l 1]),
 .fo (.nm 5) (.ex (.at (.l 0) 13)) [.fo (.nm 6) (.ex (.at (.l 5) 7)) [.if (.cm .gk (.at (.l 6) 0) (.gl 5)) [.ex (.cf 15 [.sl (.at (.l 6) 2) (.ix (.gl 5) (.at (.l 6) 0)) (.c .none),.l 4,.l 2])] [.if (.cm .eq (.at (.l 6) 0) (.c (.str 3))) [.if (.cm .nj (.at (.l 6) 1) (.l 1)) [.ex (.me (.l 2) 1 [.at (.l 6) 3,.c .none])] []] [.if (.cm .nj (.at (.l 6) 1) (.l 4)) [.ex (.cf 15 [.at (.l 6) 2,.l 4,.l 2])] []]]],
 .ex (.cf 15 [.at (.at (.l 5) 8) 2,.l 4,.l 2])],
 .rt (.l 2)]⟩
def zq:Fd:=⟨2,5,[.tp [.nm 2,.nm 3,.nm 4] (.l 0),
 .if (.cm .eq (.ix (.l 2) (.c (.int (.l 0)))) (.c (.str 3))) [.rt (.an [.cm .le (.c (.int (.l 0))) (.l 3),.cm .le (.bi .add (.l 3) (.l 4)) (.ix (.ix (.l 1) (.ix (.l 2) (.c (.int (.l 1))))) (.c (.int (.l 0))))])] [],
 .rt (.cm .eq (.ix (.l 2) (.c (.int (.l 0)))) (.c (.str 4)))]⟩
def zt:Fd:=⟨4,7,[.if (.cm .eq (.ix (.l 0) (.c (.int (.l 0)))) (.ix (.l 1) (.c (.int (.l 0))))) [.as 4 (.bi .mod (.bi .sub (.ix (.l 0) (.c (.int (.l 1)))) (.ix (.l 1) (.c (.int (.l 1))))) (.gl 2)),
 .rt (.or [.cm .lt (.l 4) (.ix (.l 1) (.c (.int (.l 2)))),.cm .lt (.bi .sub (.gl 2) (.l 4)) (.ix (.l 0) (.c (.int (.l 2))))])] [],
 .tp [.nm 5,.nm 6] (.tu [.cf 17 [.l 0,.l 2],.cf 17 [.l 1,.l 2]]),
 .if (.an [.l 5,.l 6]) [.rt (.c (.bool false))] [],
 .if (.an [.l 5,.cm .eq (.ix (.ix (.l 0) (.c (.int (.l 0)))) (.c (.int (.l 0)))) (.c (.str 3)),.cm .gk (.ix (.ix (.l 0) (.c (.int (.l 0)))) (.c (.int (.l 1)))) (.l 3)]) [.rt (.c (.bool false))] [],
 .rt (.nt (.an [.l 6,.cm .eq (.ix (.ix (.l 1) (.c (.int (.l 0)))) (.c (.int (.l 0)))) (.c (.str 3)),.cm .gk (.ix (.ix (.l 1) (.c (.int (.l 0)))) (.c (.int (.l 1)))) (.l 3)]))]⟩
def zr:Fd:=⟨3,3,[.aa (.l 0) 16 (.l 1),
 .aa (.l 0) 17 (.l 2)]⟩
def zh:Fd:=⟨2,2,[.aa (.l 0) 18 (.l 1),
 .aa (.l 0) 19 (.cf 12 [.l 1]),
 .aa (.l 0) 20 (.cf 16 [.l 1,.at (.l 0) 19]),
 .aa (.l 0) 21 (.c (.int (.l 0))),
 .aa (.l 0) 22 (.d0 (some 21)),
 .aa (.l 0) 23 (.d0 (some 22)),
 .aa (.l 0) 24 (.d0 (some 23)),
 .aa (.l 0) 25 (.d0 (some 24)),
 .aa (.l 0) 26 (.d0 (some 25)),
 .aa (.l 0) 27 (.d0 (some 26)),
 .aa (.l 0) 28 (.d0 (some 27)),
 .aa (.l 0) 29 (.d0 (some 28)),
 .aa (.l 0) 30 (.li (some 29) []),
 .aa (.l 0) 31 (.c (.bool false))]⟩
def vw:Fd:=⟨4,4,[.ex (.me (.at (.l 0) 30) 0 [.tu [.l 1,.l 2,.me (.l 1) 2 [.l 2,.c .none]]]),
 .ai (.l 1) (.l 2) (.l 3)]⟩
def zi:Fd:=⟨3,3,[.ex (.me (.at (.l 0) 30) 0 [.tu [.l 1,.l 2,.me (.l 1) 1 [.l 2]]])]⟩
def Cn:Fd:=⟨2,5,[.wh (.cm .gt (.cb 0 [.at (.l 0) 30]) (.l 1)) [.tp [.nm 2,.nm 3,.nm 4] (.me (.at (.l 0) 30) 1 []),
 .if (.cm .is (.l 4) (.c .none)) [.ex (.me (.l 2) 1 [.l 3])] [.ai (.l 2) (.l 3) (.l 4)]]]⟩
def zg:Fd:=⟨1,1,[.ga (.l 0) 21 (.c (.int (.l 1))),
 .rt (.tu [.c (.str 2),.at (.l 0) 21])]⟩
def xn:Fd:=⟨2,3,[.if (.cm .gk (.l 1) (.at (.l 0) 19)) [.if (.cm .nj (.l 1) (.at (.l 0) 22)) [.ai (.at (.l 0) 22) (.l 1) (.me (.l 0) 34 [])] [],
 .as 2 (.ix (.at (.l 0) 22) (.l 1))] [.if (.cm .nj (.l 1) (.at (.l 0) 23)) [.ex (.me (.l 0) 31 [.at (.l 0) 23,.l 1,.me (.l 0) 34 []])] [],
 .as 2 (.ix (.at (.l 0) 23) (.l 1))],
 .rt (.me (.at (.l 0) 29) 2 [.l 2,.l 2])]⟩
def vu:Fd:=⟨2,2,[.rt (.ie (.cm .eq (.ix (.l 1) (.c (.int (.l 0)))) (.c (.str 0))) (.l 1) (.me (.l 0) 35 [.ix (.l 1) (.c (.int (.l 1)))]))]⟩
def xp:Fd:=⟨3,3,[.if (.cm .gk (.l 1) (.at (.l 0) 19)) [.rt (.an [.cm .gk (.l 1) (.at (.l 0) 22),.cm .eq (.ix (.at (.l 0) 22) (.l 1)) (.l 2)])] [],
 .rt (.an [.cm .gk (.l 1) (.at (.l 0) 23),.cm .eq (.ix (.at (.l 0) 23) (.l 1)) (.l 2)])]⟩
def vr:Fd:=⟨2,2,[.if (.cm .eq (.ix (.l 1) (.c (.int (.l 0)))) (.c (.str 0))) [.rt (.l 1)] [],
 .if (.an [.cm .gk (.l 1) (.at (.l 0) 28),.me (.l 0) 37 [.ix (.at (.l 0) 28) (.l 1),.l 1]]) [.rt (.tu [.c (.str 1),.ix (.at (.l 0) 28) (.l 1)])] [],
 .rt (.c .none)]⟩
def xq:Fd:=⟨3,3,[.if (.cm .gk (.l 1) (.at (.l 0) 19)) [.ai (.at (.l 0) 22) (.l 1) (.l 2)] [.ex (.me (.l 0) 31 [.at (.l 0) 23,.l 1,.l 2])],
 .if (.an [.cm .eq (.ix (.l 2) (.c (.int (.l 0)))) (.c (.str 2)),.cm .is (.me (.l 0) 38 [.l 2]) (.c .none)]) [.ex (.me (.l 0) 31 [.at (.l 0) 28,.l 2,.l 1])] []]⟩
def Cs:Fd:=⟨2,7,[.tp [.nm 2,.nm 3] (.tu [.li .none [],.li .none []]),
 .fo (.nm 4) (.ex (.l 1)) [.as 5 (.me (.l 0) 36 [.l 4]),
 .ex (.me (.l 2) 0 [.l 5]),
 .as 6 (.me (.l 0) 38 [.l 5]),
 .if (.cm .is (.l 6) (.c .none)) [.ex (.me (.l 0) 31 [.at (.l 0) 28,.l 5,.ix (.l 4) (.c (.int (.l 1)))]),
 .as 6 (.l 4)] [],
 .ex (.me (.l 3) 0 [.l 6])],
 .rt (.tu [.l 2,.l 3])]⟩
def zf:Fd:=⟨2,2,[.if (.cm .eq (.ix (.l 1) (.c (.int (.l 0)))) (.c (.str 0))) [.rt (.tu [.tu [.c (.str 0),.c (.int (.l 0))],.cf 11 [.ix (.l 1) (.c (.int (.l 1)))]])] [],
 .if (.cm .gk (.l 1) (.at (.l 0) 25)) [.rt (.ix (.at (.l 0) 25) (.l 1))] [],
 .rt (.tu [.l 1,.c (.int (.l 0))])]⟩
def um:Fd:=⟨5,7,[.if (.cm .eq (.l 2) (.c (.str 4))) [.ai (.at (.l 0) 25) (.l 1) (.tu [.tu [.c (.str 4),.ix (.l 4) (.c (.int (.l 0)))],.cf 11 [.ix (.l 4) (.c (.int (.l 1)))]])] [.if (.cm .eq (.l 2) (.c (.str 3))) [.ai (.at (.l 0) 25) (.l 1) (.tu [.tu [.c (.str 3),.l 4],.c (.int (.l 0))])] [.if (.an [.cm .eq (.l 2) (.c (.str 5)),.cm .eq (.ix (.ix (.l 3) (.c (.int (.l 1)))) (.c (.int (.l 0)))) (.c (.str 0))]) [.tp [.nm 5,.nm 6] (.me (.l 0) 41 [.ix (.l 3) (.c (.int (.l 0)))]),
 .ai (.at (.l 0) 25) (.l 1) (.tu [.l 5,.cf 11 [.bi .add (.l 6) (.ix (.ix (.l 3) (.c (.int (.l 1)))) (.c (.int (.l 1))))]])] []]]]⟩
def pC:Fd:=⟨4,6,[.as 4 (.tu [.l 1,.l 3,.cb 5 [.l 2]]),
 .if (.an [.cm .gk (.l 1) (.gl 3),.cm .lt (.ix (.l 2) (.c (.int (.l 1)))) (.ix (.l 2) (.c (.int (.l 0))))]) [.as 4 (.tu [.l 1,.l 3,.tu [.ix (.l 2) (.c (.int (.l 1))),.ix (.l 2) (.c (.int (.l 0)))]])] [],
 .if (.cm .gk (.l 4) (.at (.l 0) 27)) [.rt (.ix (.at (.l 0) 27) (.l 4))] [],
 .as 5 (.me (.l 0) 34 []),
 .ex (.me (.l 0) 31 [.at (.l 0) 27,.l 4,.l 5]),
 .ai (.at (.l 0) 26) (.l 5) (.l 4),
 .ex (.me (.l 0) 42 [.l 5,.l 1,.l 2,.l 3]),
 .rt (.l 5)]⟩
def sA:Fd:=⟨3,4,[.as 2 (.me (.at (.l 0) 29) 2 [.l 2,.l 2]),
 .if (.me (.l 0) 37 [.at (.l 1) 1,.l 2]) [.rt (.c (.bool false))] [],
 .as 3 (.me (.l 0) 38 [.l 2]),
 .if (.an [.cm .wF (.l 3) (.c .none),.cm .nj (.at (.l 1) 0) (.gl 6)]) [.aa (.l 1) 0 (.ie (.cm .eq (.ix (.l 3) (.c (.int (.l 0)))) (.c (.str 0))) (.c (.str 7)) (.c (.str 6))),
 .aa (.l 1) 2 (.li .none [.l 3]),
 .aa (.l 1) 3 (.c (.int (.l 0))),
 .aa (.l 0) 31 (.c (.bool true))] [],
 .ex (.me (.l 0) 39 [.at (.l 1) 1,.l 2]),
 .rt (.c (.bool true))]⟩
def uo:Fd:=⟨3,12,[.if (.at (.l 1) 4) [.ex (.me (.l 0) 39 [.at (.l 1) 1,.me (.l 0) 34 []]),
 .rt (.c (.bool true))] [],
 .tp [.nm 3,.nm 4] (.at (.l 1) 3),
 .as 5 (.ie (.cm .eq (.l 3) (.c (.int (.l 4)))) (.c (.str 13)) (.ie (.l 4) (.c (.str 11)) (.c (.str 12)))),
 .tp [.nm 6,.nm 7] (.me (.l 0) 41 [.l 2]),
 .as 8 (.tu [.l 6,.l 7,.l 3]),
 .if (.cm .gk (.l 8) (.at (.l 0) 24)) [.as 9 (.ix (.at (.l 0) 24) (.l 8)),
 .as 10 (.me (.at (.l 0) 29) 2 [.at (.l 9) 16,.at (.l 9) 16]),
 .as 11 (.me (.l 0) 38 [.l 10]),
 .if (.an [.cm .wF (.l 11) (.c .none),.cm .eq (.at (.l 9) 17) (.l 5)]) [.rt (.me (.l 0) 44 [.l 1,.l 10])] [],
 .if (.cm .wF (.l 11) (.c .none)) [.tp [.at (.l 1) 0,.at (.l 1) 2,.at (.l 1) 3] (.tu [.ix (.gl 7) (.tu [.l 3,.cb 6 [.l 4]]),.li .none [.l 11],.c (.int (.l 0))]),
 .aa (.l 0) 31 (.c (.bool true)),
 .rt (.me (.l 0) 44 [.l 1,.me (.l 0) 43 [.at (.l 1) 0,.li .none [.l 10],.c (.int (.l 0))]])] []] [],
 .as 10 (.me (.l 0) 34 []),
 .ex (.me (.l 0) 31 [.at (.l 0) 24,.l 8,.ck 3 .none [.l 10,.l 5]]),
 .ex (.me (.l 0) 39 [.at (.l 1) 1,.l 10]),
 .rt (.c (.bool true))]⟩
def Cg:Fd:=⟨2,3,[.fo (.nm 2) (.ex (.cb 1 [.at (.l 0) 24])) [.if (.cf 18 [.l 2,.l 1,.at (.at (.l 0) 18) 12,.at (.l 0) 20]) [.ex (.me (.l 0) 32 [.at (.l 0) 24,.l 2])] []]]⟩
def Ci:Fd:=⟨1,3,[.fo (.nm 1) (.ex (.cb 1 [.at (.l 0) 24])) [.as 2 (.ix (.l 1) (.c (.int (.l 0)))),
 .if (.or [.cm .ne (.ix (.l 2) (.c (.int (.l 0)))) (.c (.str 3)),.cm .nj (.ix (.l 2) (.c (.int (.l 1)))) (.at (.l 0) 20),.nt (.cf 17 [.l 1,.at (.at (.l 0) 18) 12])]) [.ex (.me (.l 0) 32 [.at (.l 0) 24,.l 1])] []]]⟩
def vt:Fd:=⟨4,8,[.tp [.nm 4,.nm 5] (.me (.l 0) 41 [.l 2]),
 .as 6 (.tu [.l 4,.l 5,.at (.l 1) 3]),
 .if (.an [.cm .gk (.l 6) (.at (.l 0) 24),.nt (.at (.l 1) 4)]) [.as 7 (.at (.ix (.at (.l 0) 24) (.l 6)) 16),
 .if (.cm .eq (.me (.at (.l 0) 29) 2 [.l 7,.l 7]) (.l 3)) [.rt (.c (.bool false))] []] [],
 .ex (.me (.l 0) 46 [.l 6]),
 .if (.nt (.at (.l 1) 4)) [.ex (.me (.l 0) 31 [.at (.l 0) 24,.l 6,.ck 3 .none [.l 3,.c (.str 13)]])] [],
 .rt (.c (.bool true))]⟩
def Cp:Fd:=⟨2,7,[.as 2 (.at (.l 1) 0),
 .if (.cm .eq (.l 2) (.c (.str 7))) [.rt (.me (.l 0) 44 [.l 1,.ix (.at (.l 1) 2) (.c (.int (.l 0)))])] [],
 .tp [.nm 3,.nm 4] (.me (.l 0) 40 [.at (.l 1) 2]),
 .if (.cm .ne (.l 4) (.at (.l 1) 2)) [.aa (.l 1) 2 (.l 4),
 .aa (.l 0) 31 (.c (.bool true))] [],
 .if (.cm .gk (.l 2) (.gl 4)) [.rt (.me (.l 0) 44 [.l 1,.me (.l 0) 43 [.l 2,.l 3,.at (.l 1) 3]])] [],
 .if (.cm .eq (.l 2) (.c (.str 6))) [.rt (.me (.l 0) 44 [.l 1,.ix (.l 3) (.c (.int (.l 0)))])] [],
 .if (.cm .eq (.l 2) (.c (.str 8))) [.rt (.me (.l 0) 45 [.l 1,.ix (.l 3) (.c (.int (.l 0)))])] [],
 .if (.cm .eq (.l 2) (.c (.str 9))) [.rt (.me (.l 0) 48 [.l 1,.ix (.l 3) (.c (.int (.l 0))),.ix (.l 3) (.c (.int (.l 1)))])] [],
 .if (.cm .eq (.l 2) (.c (.str 10))) [.tp [.nm 5,.nm 6] (.me (.l 0) 41 [.ix (.l 3) (.c (.int (.l 0)))]),
 .ex (.me (.l 0) 46 [.tu [.l 5,.l 6,.ix (.at (.l 1) 3) (.c (.int (.l 0)))]]),
 .rt (.c (.bool true))] [],
 .ex (.me (.l 0) 47 []),
 .if (.cm .ge (.at (.l 1) 1) (.c (.int (.l 0)))) [.ex (.me (.l 0) 39 [.at (.l 1) 1,.me (.l 0) 34 []])] [],
 .rt (.c (.bool true))]⟩
def Cj:Fd:=⟨2,6,[.as 2 (.li .none []),
 .fo (.nm 3) (.ex (.at (.l 1) 7)) [.if (.me (.l 0) 49 [.l 3]) [.ex (.me (.l 2) 0 [.l 3])] []],
 .if (.cm .ne (.cb 0 [.l 2]) (.cb 0 [.at (.l 1) 7])) [.aa (.l 1) 7 (.l 2),
 .aa (.l 0) 31 (.c (.bool true))] [],
 .tp [.nm 4,.nm 5] (.me (.l 0) 40 [.at (.at (.l 1) 8) 2]),
 .if (.cm .ne (.l 5) (.at (.at (.l 1) 8) 2)) [.aa (.at (.l 1) 8) 2 (.l 5),
 .aa (.l 0) 31 (.c (.bool true))] []]⟩
def Cm:Fd:=⟨3,11,[.tp [.nm 3,.nm 4] (.at (.l 1) 3),
 .if (.or [.cm .eq (.l 3) (.l 4),.cm .ne (.ix (.ix (.at (.l 1) 2) (.c (.int (.l 0)))) (.c (.int (.l 0)))) (.c (.str 1))]) [.rt (.c .none)] [],
 .as 5 (.me (.l 0) 35 [.ix (.ix (.at (.l 1) 2) (.c (.int (.l 0)))) (.c (.int (.l 1)))]),
 .if (.cm .ne (.ix (.l 5) (.c (.int (.l 0)))) (.c (.str 2))) [.rt (.c .none)] [],
 .if (.cm .eq (.l 2) (.l 4)) [.ex (.me (.l 0) 31 [.at (.l 0) 29,.l 5,.cf 0 [.c (.int (.l 0))]])] [],
 .if (.cm .nj (.l 5) (.at (.l 0) 26)) [.rt (.c .none)] [],
 .tp [.nm 6,.nm 7,.nm 8] (.ix (.at (.l 0) 26) (.l 5)),
 .if (.cm .eq (.l 6) (.ie (.cm .eq (.l 2) (.l 3)) (.c (.str 37)) (.c (.str 38)))) [.fo (.tp [.nm 9,.nm 10]) (.ex (.tu [.tu [.ix (.l 8) (.c (.int (.l 0))),.ix (.l 8) (.c (.int (.l 1)))],.tu [.ix (.l 8) (.c (.int (.l 1))),.ix (.l 8) (.c (.int (.l 0)))]])) [.if (.an [.cm .eq (.ix (.l 9) (.c (.int (.l 0)))) (.c (.str 2)),.cm .eq (.ix (.l 10) (.c (.int (.l 0)))) (.c (.str 0)),.cm .nj (.l 9) (.at (.l 0) 29)]) [.ex (.me (.l 0) 31 [.at (.l 0) 29,.l 9,.l 10])] []]] []]⟩
def Ct:Fd:=⟨4,4,[.tp [.at (.l 0) 23,.at (.l 0) 24] (.l 3),
 .if (.an [.cm .ge (.l 2) (.c (.int (.l 0))),.cm .eq (.at (.at (.ix (.at (.at (.l 0) 18) 13) (.l 2)) 8) 0) (.c (.str 30))]) [.ex (.me (.l 0) 51 [.at (.ix (.at (.at (.l 0) 18) 13) (.l 2)) 8,.l 1])] []]⟩
def CI:Fd:=⟨3,3,[.if (.an [.cm .ne (.l 2) (.c (.int (.l 0))),.cm .eq (.ix (.l 0) (.l 2)) (.li .none [.ix (.l 1) (.l 2)])]) [.rt (.ix (.l 1) (.l 2))] [],
 .rt (.ng (.c (.int (.l 1))))]⟩
def Cz:Fd:=⟨2,12,[.as 2 (.cf 9 [.l 0]),
 .as 3 (.cf 10 [.l 2]),
 .as 4 (.cf 5 [.l 0]),
 .as 5 (.d0 .none),
 .as 6 (.li .none [.tu [.c (.int (.l 0)),.ng (.c (.int (.l 1)))]]),
 .wh (.cm .ne (.l 6) (.li .none [])) [.tp [.nm 7,.nm 8] (.me (.l 6) 1 []),
 .if (.cm .ge (.l 8) (.c (.int (.l 0)))) [.ex (.me (.l 1) 33 [.l 8]),
 .co] [],
 .ex (.me (.l 6) 0 [.tu [.l 7,.cb 0 [.at (.l 1) 30]]]),
 .as 9 (.cf 43 [.l 4,.l 2,.l 7]),
 .as 10 (.ie (.cm .ge (.l 9) (.c (.int (.l 0)))) (.ix (.l 5) (.l 9)) (.tu [.d0 .none,.d0 .none])),
 .ai (.l 5) (.l 7) (.l 10),
 .ex (.me (.l 1) 52 [.l 7,.l 9,.l 10]),
 .ex (.me (.l 1) 50 [.ix (.at (.l 0) 13) (.l 7)]),
 .fo (.nm 11) (.ex (.rv (.ix (.l 3) (.l 7)))) [.ex (.me (.l 6) 0 [.tu [.l 11,.ng (.c (.int (.l 1)))]])]]]⟩
def zj:Fd:=⟨1,2,[.as 1 (.ck 4 (some 16) [.l 0]),
 .if (.cm .eq (.cb 0 [.at (.l 0) 13]) (.c (.int (.l 1)))) [.ex (.me (.l 1) 50 [.ix (.at (.l 0) 13) (.c (.int (.l 0)))])] [.ex (.cf 44 [.l 0,.l 1])],
 .rt (.at (.l 1) 31)]⟩
def xr:Fd:=⟨1,14,[.as 1 (.ck 2 .none [.c (.str 28)]),
 .aa (.l 1) 10 (.li .none [.c (.int (.l 0)),.c (.int (.l 1)),.c (.int (.l 2))]),
 .aa (.l 1) 14 (.c (.int (.l 16))),
 .aa (.l 1) 15 (.c (.bool true)),
 .aa (.l 1) 12 (.li .none [.tu [.c (.int (.l 8)),.c (.int (.l 4))],.tu [.c (.int (.l 8)),.c (.int (.l 4))]]),
 .fo (.tp [.nm 2,.tp [.nm 3,.nm 4]]) (.en (.l 0)) [.as 5 (.ck 1 .none [.l 2]),
 .fo (.tp [.nm 6,.nm 7,.nm 8,.nm 9,.nm 10]) (.ex (.l 3)) [.as 11 (.ck 0 .none [.l 6,.l 7,.cb 1 [.l 8],.l 9]),
 .aa (.l 11) 4 (.l 10),
 .ex (.me (.at (.l 5) 7) 0 [.l 11])],
 .aa (.l 5) 8 (.ck 0 .none [.ix (.l 4) (.c (.int (.l 0))),.ng (.c (.int (.l 1))),.cb 1 [.ix (.l 4) (.c (.int (.l 1)))],.ix (.l 4) (.c (.int (.l 2)))]),
 .ex (.me (.at (.l 1) 13) 0 [.l 5])],
 .ex (.cf 45 [.l 1]),
 .rt (.lc (.lc (.tu [.at (.l 13) 0,.at (.l 13) 1,.cb 1 [.at (.l 13) 2]]) (.nm 13) (.at (.l 12) 7) .none) (.nm 12) (.at (.l 1) 13) .none)]⟩
def zx:Fd:=⟨4,5,[.as 4 (.tu [.c (.str 1),.ix (.tu [.c (.int (.l 3)),.c (.int (.l 4)),.c (.int (.l 5)),.c (.int (.l 6)),.c (.int (.l 0))]) (.l 1)]),
 .if (.an [.cm .gk (.l 1) (.tu [.c (.int (.l 2)),.c (.int (.l 3))]),.cm .eq (.bi .mod (.l 3) (.c (.int (.l 4)))) (.c (.int (.l 2)))]) [.rt (.li .none [.tu [.c (.str 4),.l 0,.li .none [],.tu [.ix (.tu [.c (.str 23),.c (.str 24)]) (.bi .sub (.l 1) (.c (.int (.l 2)))),.l 2],.c (.bool false)]])] [],
 .if (.cm .eq (.bi .mod (.l 3) (.c (.int (.l 2)))) (.c (.int (.l 0)))) [.rt (.li .none [.tu [.c (.str 5),.l 0,.li .none [.l 4,.tu [.c (.str 0),.l 2]],.c (.int (.l 0)),.c (.bool false)]])] [],
 .rt (.li .none [.tu [.c (.str 5),.bi .add (.l 0) (.c (.int (.l 1))),.li .none [.l 4,.tu [.c (.str 0),.bi .mod (.bi .add (.l 2) (.l 3)) (.gl 8)]],.c (.int (.l 0)),.c (.bool false)],.tu [.c (.str 5),.l 0,.li .none [.tu [.c (.str 1),.bi .add (.l 0) (.c (.int (.l 1)))],.tu [.c (.str 0),.bi .mod (.ng (.l 3)) (.gl 8)]],.c (.int (.l 0)),.c (.bool false)]])]⟩
def xv:Fd:=⟨3,6,[.if (.cm .eq (.ix (.l 0) (.c (.int (.l 0)))) (.ix (.l 1) (.c (.int (.l 0))))) [.rt (.cm .ne (.lc (.l 5) (.nm 5) (.ix (.l 0) (.c (.int (.l 1)))) (some (.cm .gk (.l 5) (.ix (.l 1) (.c (.int (.l 1))))))) (.li .none []))] [],
 .fo (.tp [.nm 3,.nm 4]) (.ex (.tu [.tu [.l 0,.l 1],.tu [.l 1,.l 0]])) [.if (.an [.cm .eq (.ix (.l 3) (.c (.int (.l 0)))) (.c (.int (.l 4))),.or [.cm .gt (.ix (.l 4) (.c (.int (.l 0)))) (.c (.int (.l 1))),.cm .gk (.ix (.l 4) (.c (.int (.l 0)))) (.l 2)]]) [.rt (.c (.bool true))] []],
 .rt (.c (.bool false))]⟩
def zk:Fd:=⟨4,4,[.if (.or [.cm .eq (.l 0) (.c (.int (.l 1))),.cm .eq (.l 0) (.c (.int (.l 4)))]) [.rt (.li .none [.tu [.c (.str 9),.ng (.c (.int (.l 1))),.li .none [.tu [.c (.str 1),.c (.int (.l 14))],.tu [.c (.str 1),.c (.int (.l 2))]],.l 2,.cm .eq (.l 0) (.c (.int (.l 4)))]])] [],
 .if (.cm .eq (.l 0) (.c (.int (.l 2)))) [.rt (.li .none [.tu [.c (.str 25),.ng (.c (.int (.l 1))),.li .none [.tu [.c (.str 1),.c (.int (.l 2))]],.c (.str 26),.c (.bool false)]])] [],
 .if (.cm .eq (.l 0) (.c (.int (.l 3)))) [.rt (.li .none [.tu [.c (.str 10),.ng (.c (.int (.l 1))),.li .none [.tu [.c (.str 1),.c (.int (.l 14))],.tu [.c (.str 1),.c (.int (.l 5))]],.tu [.l 3,.c (.int (.l 4))],.c (.bool false)]])] [],
 .rt (.ie (.cm .eq (.l 0) (.c (.int (.l 5)))) (.li .none [.tu [.c (.str 8),.c (.int (.l 9)),.li .none [.tu [.c (.str 1),.c (.int (.l 14))]],.tu [.l 2,.c (.bool false)],.c (.bool true)]]) (.li .none []))]⟩
def xo:Fd:=⟨3,31,[.tp [.nm 3,.nm 4,.nm 5,.nm 6] (.tu [.bi .mod (.l 0) (.c (.int (.l 5))),.bi .mod (.bi .div (.l 0) (.c (.int (.l 5)))) (.c (.int (.l 5))),.ix (.tu [.c (.int (.l 4)),.c (.int (.l 1)),.c (.int (.l 2))]) (.bi .mod (.bi .div (.l 0) (.c (.int (.l 25)))) (.c (.int (.l 3)))),.cm .eq (.bi .mod (.bi .div (.l 0) (.c (.int (.l 75)))) (.c (.int (.l 2)))) (.c (.int (.l 1)))]),
 .tp [.nm 7,.nm 8] (.tu [.cm .eq (.bi .mod (.bi .div (.l 0) (.c (.int (.l 150)))) (.c (.int (.l 2)))) (.c (.int (.l 1))),.cm .eq (.bi .mod (.bi .div (.l 0) (.c (.int (.l 300)))) (.c (.int (.l 5)))) (.c (.int (.l 4)))]),
 .tp [.nm 9,.nm 10,.nm 11] (.tu [.ix (.tu [.l 3,.bi .mod (.bi .div (.l 1) (.c (.int (.l 5)))) (.c (.int (.l 5))),.bi .mod (.l 1) (.c (.int (.l 5)))]) (.bi .mod (.bi .div (.l 1) (.c (.int (.l 25)))) (.c (.int (.l 3)))),.bi .mod (.bi .div (.l 1) (.c (.int (.l 75)))) (.c (.int (.l 5))),.ix (.tu [.c (.int (.l 4)),.c (.int (.l 1)),.c (.int (.l 2))]) (.bi .mod (.bi .div (.l 1) (.c (.int (.l 375)))) (.c (.int (.l 3))))]),
 .tp [.nm 12,.nm 13] (.tu [.bi .mod (.bi .div (.l 2) (.c (.int (.l 8)))) (.c (.int (.l 6))),.bi .mod (.bi .div (.l 2) (.c (.int (.l 48)))) (.c (.int (.l 4)))]),
 .as 14 (.ie (.cm .lt (.bi .mod (.l 2) (.c (.int (.l 8)))) (.c (.int (.l 6)))) (.l 5) (.l 11)),
 .tp [.nm 15,.nm 16,.nm 17] (.tu [.cm .eq (.bi .mod (.bi .div (.l 2) (.c (.int (.l 192)))) (.c (.int (.l 2)))) (.c (.int (.l 1))),.bi .mod (.bi .div (.l 2) (.c (.int (.l 384)))) (.c (.int (.l 4))),.cm .eq (.bi .mod (.bi .div (.l 2) (.c (.int (.l 1536)))) (.c (.int (.l 5)))) (.c (.int (.l 4)))]),
 .as 18 (.bi .add (.bi .add (.cb 1 [.gl 12]) (.cf 47 [.c (.int (.l 10)),.l 3,.l 4,.bi .mod (.bi .div (.l 0) (.c (.int (.l 1500)))) (.c (.int (.l 9)))])) (.cf 47 [.c (.int (.l 12)),.l 3,.l 4,.bi .mod (.bi .div (.l 1) (.c (.int (.l 1125)))) (.c (.int (.l 9)))])),
 .ex (.me (.l 18) 0 [.tu [.c (.str 5),.c (.int (.l 14)),.li .none [.tu [.c (.str 1),.ix (.tu [.c (.int (.l 3)),.c (.int (.l 4)),.c (.int (.l 5)),.c (.int (.l 6)),.c (.int (.l 0))]) (.l 9)],.tu [.c (.str 0),.l 10]],.c (.int (.l 0)),.c (.bool false)]]),
 .ex (.me (.l 18) 0 [.ie (.l 7) (.tu [.c (.str 8),.c (.int (.l 7)),.li .none [.tu [.c (.str 1),.c (.int (.l 10))]],.tu [.l 5,.l 6],.l 8]) (.tu [.c (.str 9),.ng (.c (.int (.l 1))),.li .none [.tu [.c (.str 1),.c (.int (.l 10))],.tu [.c (.str 1),.c (.int (.l 1))]],.l 5,.l 8])]),
 .as 18 (.bi .add (.l 18) (.cf 49 [.l 12,.l 9,.l 11,.c (.int (.l 4))])),
 .as 19 (.tu [.c (.str 1),.bi .add (.c (.int (.l 1))) (.bi .mod (.l 16) (.c (.int (.l 2))))]),
 .ex (.me (.l 18) 0 [.ie (.cm .lt (.l 16) (.c (.int (.l 2)))) (.tu [.c (.str 8),.c (.int (.l 8)),.li .none [.tu [.c (.str 1),.c (.int (.l 12))]],.tu [.l 14,.l 15],.l 17]) (.tu [.c (.str 9),.ng (.c (.int (.l 1))),.li .none [.tu [.c (.str 1),.c (.int (.l 12))],.l 19],.l 14,.l 17])]),
 .as 20 (.cb 0 [.l 18]),
 .as 21 (.ie (.cm .gk (.l 13) (.tu [.c (.int (.l 1)),.c (.int (.l 2))])) (.li .none [.bi .sub (.l 13) (.c (.int (.l 1)))]) (.li .none [])),
 .if (.cm .ne (.l 21) (.li .none [])) [.ex (.me (.l 18) 0 [.tu [.c (.str 25),.ng (.c (.int (.l 1))),.li .none [.tu [.c (.str 1),.bi .add (.c (.int (.l 3))) (.ix (.l 21) (.c (.int (.l 0))))]],.c (.str 26),.c (.bool false)]])] [],
 .as 22 (.tu [.l 3,.cb 2 [.l 4,.bi .add (.l 4) (.l 5)]]),
 .as 23 (.tu [.l 3,.cb 2 [.l 4,.bi .add (.l 4) (.l 14)]]),
 .as 24 (.tu [.l 9,.cb 2 [.l 10,.bi .add (.l 10) (.ie (.cm .eq (.l 12) (.c (.int (.l 3)))) (.c (.int (.l 4))) (.l 11))]]),
 .as 25 (.ie (.l 8) (.c .none) (.ie (.l 7) (.tu [.tu [.c (.str 1),.c (.int (.l 7))],.ix (.c (.str 32)) (.ie (.l 6) (.c (.int (.l 0))) (.c (.int (.l 1))))]) (.tu [.tu [.c (.str 1),.c (.int (.l 1))],.c (.str 13)]))),
 .if (.or [.cm .ne (.l 22) (.l 23),.an [.cm .gk (.l 12) (.tu [.c (.int (.l 1)),.c (.int (.l 3)),.c (.int (.l 4))]),.cf 48 [.l 22,.l 24,.l 21]]]) [.as 25 (.c .none)] [],
 .if (.an [.cm .eq (.l 12) (.c (.int (.l 2))),.or [.cm .gt (.l 3) (.c (.int (.l 1))),.cm .gk (.l 3) (.l 21)]]) [.as 25 (.c .none)] [],
 .if (.an [.cm .eq (.l 12) (.c (.int (.l 1))),.cm .eq (.l 24) (.l 23)]) [.as 25 (.tu [.tu [.c (.str 1),.c (.int (.l 2))],.c (.str 13)])] [],
 .as 26 (.ix (.cf 46 [.li .none [.tu [.l 18,.gl 13]]]) (.c (.int (.l 0)))),
 .if (.cm .ge (.l 16) (.c (.int (.l 2)))) [.as 27 (.or [.l 17,.cm .is (.l 25) (.c .none),.cm .ne (.ix (.l 25) (.c (.int (.l 0)))) (.l 19)]),
 .rt (.ie (.l 27) (.cm .eq (.cb 0 [.l 26]) (.cb 0 [.l 18])) (.cm .eq (.cb 0 [.l 26]) (.bi .sub (.cb 0 [.l 18]) (.c (.int (.l 1))))))] [],
 .tp [.nm 28,.nm 29,.nm 30] (.ix (.l 26) (.bi .sub (.l 20) (.c (.int (.l 1))))),
 .if (.or [.l 17,.cm .is (.l 25) (.c .none)]) [.rt (.cm .eq (.l 28) (.c (.str 8)))] [],
 .if (.or [.cm .eq (.l 14) (.c (.int (.l 4))),.cm .eq (.ix (.l 25) (.c (.int (.l 1)))) (.ie (.l 15) (.c (.str 11)) (.c (.str 12)))]) [.rt (.cm .eq (.tu [.l 28,.l 30]) (.tu [.c (.str 6),.li .none [.ix (.l 25) (.c (.int (.l 0)))]]))] [],
 .rt (.cm .eq (.tu [.l 28,.l 30]) (.tu [.bi .add (.ie (.l 15) (.c (.str 18)) (.c (.str 19))) (.cb 4 [.bi .mul (.c (.int (.l 8))) (.l 14)]),.li .none [.ix (.l 25) (.c (.int (.l 0)))]]))]⟩
def Cw:Fd:=⟨2,7,[.as 2 (.bi .mod (.l 0) (.c (.int (.l 25)))),
 .as 3 (.cm .eq (.bi .mod (.l 1) (.c (.int (.l 2)))) (.c (.int (.l 1)))),
 .if (.cm .eq (.l 2) (.c (.int (.l 23)))) [.rt (.tu [.tu [.c (.str 4),.li .none [],.tu [.c (.str 23),.c (.int (.l 4))]],.tu [.c (.str 4),.li .none [],.tu [.c (.str 23),.ie (.l 3) (.c (.int (.l 8))) (.c (.int (.l 4)))]],.nt (.l 3)])] [],
 .if (.cm .eq (.l 2) (.c (.int (.l 24)))) [.rt (.tu [.tu [.c (.str 3),.li .none [],.c (.int (.l 0))],.tu [.c (.str 3),.li .none [],.ie (.l 3) (.c (.int (.l 1))) (.c (.int (.l 0)))],.nt (.l 3)])] [],
 .if (.cm .gt (.l 2) (.c (.int (.l 16)))) [.tp [.nm 4,.nm 5] (.tu [.li .none [.tu [.c (.str 1),.c (.int (.l 1))]],.li .none [.tu [.c (.str 1),.ie (.l 3) (.c (.int (.l 2))) (.c (.int (.l 1)))]]]),
 .rt (.tu [.tu [.ix (.gl 10) (.bi .sub (.l 2) (.c (.int (.l 17)))),.l 4,.c (.int (.l 0))],.tu [.ix (.gl 10) (.bi .sub (.l 2) (.c (.int (.l 17)))),.l 5,.c (.int (.l 0))],.nt (.l 3)])] [],
 .as 6 (.ix (.gl 9) (.l 2)),
 .as 4 (.ie (.cm .eq (.bi .mod (.bi .div (.l 0) (.c (.int (.l 25)))) (.c (.int (.l 2)))) (.c (.int (.l 1)))) (.li .none [.tu [.c (.str 1),.c (.int (.l 1))],.tu [.c (.str 0),.bi .add (.c (.int (.l 3))) (.bi .mod (.bi .div (.l 1) (.c (.int (.l 2)))) (.c (.int (.l 5))))]]) (.li .none [.tu [.c (.str 1),.c (.int (.l 1))],.tu [.c (.str 1),.c (.int (.l 2))]])),
 .as 5 (.ie (.l 3) (.rv (.l 4)) (.l 4)),
 .rt (.tu [.tu [.l 6,.l 4,.c (.int (.l 0))],.tu [.l 6,.l 5,.c (.int (.l 0))],.or [.nt (.l 3),.cm .gk (.l 6) (.gl 11)]])]⟩
def Cu:Fd:=⟨2,10,[.tp [.nm 2,.nm 3,.nm 4] (.cf 51 [.l 0,.l 1]),
 .as 5 (.li .none [.tu [.ix (.l 2) (.c (.int (.l 0))),.c (.int (.l 7)),.ix (.l 2) (.c (.int (.l 1))),.ix (.l 2) (.c (.int (.l 2))),.c (.bool false)]]),
 .as 6 (.li .none [.tu [.ix (.l 3) (.c (.int (.l 0))),.c (.int (.l 8)),.ix (.l 3) (.c (.int (.l 1))),.ix (.l 3) (.c (.int (.l 2))),.c (.bool false)]]),
 .as 7 (.bi .mod (.bi .div (.l 1) (.c (.int (.l 16)))) (.c (.int (.l 4)))),
 .as 8 (.tu [.c (.str 30),.li .none [.tu [.c (.str 1),.c (.int (.l 0))]],.tu [.c (.int (.l 1)),.c (.int (.l 2))]]),
 .if (.cm .eq (.l 7) (.c (.int (.l 0)))) [.as 9 (.ix (.ix (.cf 46 [.li .none [.tu [.bi .add (.l 5) (.l 6),.gl 13]]]) (.c (.int (.l 0)))) (.c (.int (.l 1))))] [.if (.cm .eq (.l 7) (.c (.int (.l 1)))) [.as 9 (.ix (.ix (.cf 46 [.li .none [.tu [.l 5,.tu [.c (.str 29),.li .none [],.c (.int (.l 1))]],.tu [.l 6,.gl 13]]]) (.c (.int (.l 1)))) (.c (.int (.l 0))))] [.if (.cm .eq (.l 7) (.c (.int (.l 2)))) [.as 9 (.ix (.ix (.cf 46 [.li .none [.tu [.l 5,.l 8],.tu [.li .none [],.tu [.c (.str 29),.li .none [],.c (.int (.l 3))]],.tu [.li .none [],.tu [.c (.str 29),.li .none [],.c (.int (.l 3))]],.tu [.l 6,.gl 13]]]) (.c (.int (.l 3)))) (.c (.int (.l 0))))] [.as 9 (.ix (.ix (.cf 46 [.li .none [.tu [.li .none [],.l 8],.tu [.l 5,.gl 13],.tu [.l 6,.gl 13]]]) (.c (.int (.l 2)))) (.c (.int (.l 0))))]]],
 .if (.an [.cm .lt (.l 7) (.c (.int (.l 3))),.l 4]) [.rt (.cm .eq (.l 9) (.tu [.c (.str 6),.c (.int (.l 8)),.li .none [.tu [.c (.str 1),.c (.int (.l 7))]]]))] [],
 .rt (.an [.cm .eq (.ix (.l 9) (.c (.int (.l 0)))) (.ix (.l 3) (.c (.int (.l 0)))),.cm .eq (.ix (.l 9) (.c (.int (.l 1)))) (.c (.int (.l 8))),.cm .eq (.cb 3 [.ix (.l 9) (.c (.int (.l 2)))]) (.cb 3 [.ix (.l 3) (.c (.int (.l 1)))])])]⟩
def Cv:Fd:=⟨2,16,[.tp [.nm 2,.nm 3] (.tu [.bi .mod (.l 0) (.c (.int (.l 5))),.bi .add (.c (.int (.l 1))) (.bi .mod (.l 1) (.c (.int (.l 1000))))]),
 .as 4 (.ix (.tu [.c (.str 37),.c (.str 38),.c (.str 47),.c (.str 37),.c (.str 37)]) (.l 2)),
 .as 5 (.ie (.cm .eq (.l 2) (.c (.int (.l 3)))) (.tu [.c (.str 1),.c (.int (.l 1))]) (.tu [.c (.str 1),.c (.int (.l 7))])),
 .as 6 (.cm .eq (.bi .mod (.bi .div (.l 0) (.c (.int (.l 5)))) (.c (.int (.l 3)))) (.c (.int (.l 0)))),
 .as 7 (.ie (.cm .eq (.l 2) (.c (.int (.l 4)))) (.tu [.c (.str 31),.li .none [.l 5],.tu [.c (.int (.l 0)),.li .none [.c (.int (.l 1))],.c (.int (.l 2))]]) (.tu [.c (.str 30),.li .none [.l 5],.tu [.c (.int (.l 1)),.c (.int (.l 2))]])),
 .as 8 (.li .none [.tu [.c (.str 9),.ng (.c (.int (.l 1))),.li .none [.tu [.c (.str 1),.c (.int (.l 0))],.tu [.c (.str 1),.c (.int (.l 1))]],.c (.int (.l 4)),.c (.bool false)],.tu [.c (.str 9),.ng (.c (.int (.l 1))),.li .none [.tu [.c (.str 1),.c (.int (.l 0))],.tu [.c (.str 1),.c (.int (.l 7))]],.c (.int (.l 4)),.c (.bool false)]]),
 .as 9 (.li .none [.tu [.l 4,.c (.int (.l 7)),.li .none [.tu [.c (.str 1),.c (.int (.l 1))],.tu [.c (.str 0),.l 3]],.c (.int (.l 0)),.c (.bool false)]]),
 .as 10 (.cf 46 [.li .none [.tu [.l 9,.l 7],.tu [.l 8,.gl 13],.tu [.l 8,.ie (.l 6) (.tu [.c (.str 29),.li .none [],.c (.int (.l 1))]) (.gl 13)]]]),
 .as 11 (.li .none [.li .none [.tu [.c (.str 1),.c (.int (.l 1))],.tu [.c (.str 1),.c (.int (.l 7))]],.li .none [.tu [.c (.str 1),.c (.int (.l 1))],.tu [.c (.str 1),.c (.int (.l 7))]]]),
 .if (.an [.cm .eq (.l 2) (.c (.int (.l 0))),.nt (.l 6)]) [.ai (.ix (.l 11) (.c (.int (.l 0)))) (.c (.int (.l 0))) (.tu [.c (.str 0),.l 3])] [],
 .if (.cm .eq (.l 2) (.c (.int (.l 1)))) [.ai (.ix (.l 11) (.c (.int (.l 1)))) (.c (.int (.l 0))) (.tu [.c (.str 0),.l 3])] [],
 .if (.cm .eq (.l 2) (.c (.int (.l 3)))) [.ai (.ix (.l 11) (.c (.int (.l 1)))) (.c (.int (.l 0))) (.tu [.c (.str 0),.c (.int (.l 0))])] [],
 .if (.cm .lt (.l 2) (.c (.int (.l 3)))) [.ai (.ix (.l 11) (.c (.int (.l 1)))) (.c (.int (.l 1))) (.tu [.c (.str 0),.c (.int (.l 0))])] [],
 .rt (.cm .eq (.lc (.lc (.ix (.l 15) (.c (.int (.l 1)))) (.tp [.nm 13,.nm 14,.nm 15]) (.l 12) .none) (.nm 12) (.sl (.l 10) (.c (.int (.l 1))) (.c .none)) .none) (.l 11))]⟩
def Cq:Fd:=⟨2,9,[.as 2 (.cm .eq (.bi .mod (.l 0) (.c (.int (.l 2)))) (.c (.int (.l 1)))),
 .as 3 (.bi .mod (.l 1) (.c (.int (.l 5000)))),
 .as 4 (.li .none [.tu [.c (.str 4),.c (.int (.l 5)),.li .none [],.tu [.c (.str 23),.c (.int (.l 0))],.c (.bool false)],.tu [.c (.str 7),.c (.int (.l 9)),.li .none [.tu [.c (.str 0),.l 3]],.c (.int (.l 0)),.c (.bool false)],.tu [.c (.str 9),.ng (.c (.int (.l 1))),.li .none [.tu [.c (.str 1),.c (.int (.l 0))],.tu [.c (.str 1),.c (.int (.l 1))]],.c (.int (.l 4)),.c (.bool false)]]),
 .as 5 (.li .none [.tu [.c (.str 8),.c (.int (.l 8)),.li .none [.tu [.c (.str 1),.c (.int (.l 0))]],.tu [.c (.int (.l 4)),.c (.bool false)],.c (.bool false)],.tu [.c (.str 9),.ng (.c (.int (.l 1))),.li .none [.tu [.c (.str 1),.c (.int (.l 5))],.tu [.c (.str 1),.c (.int (.l 9))]],.c (.int (.l 4)),.c (.bool false)]]),
 .as 6 (.li .none [.tu [.c (.str 6),.c (.int (.l 9)),.li .none [.tu [.c (.str 1),.c (.int (.l 2))]],.c (.int (.l 0)),.c (.bool false)]]),
 .as 7 (.ie (.l 2) (.tu [.c (.str 29),.li .none [],.c (.int (.l 1))]) (.gl 13)),
 .as 8 (.ix (.cf 46 [.li .none [.tu [.l 4,.tu [.c (.str 30),.li .none [.tu [.c (.str 1),.c (.int (.l 2))]],.tu [.c (.int (.l 1)),.c (.int (.l 2))]]],.tu [.l 5,.gl 13],.tu [.l 6,.l 7]]]) (.c (.int (.l 1)))),
 .if (.l 2) [.rt (.cm .eq (.l 8) (.li .none [.tu [.c (.str 8),.c (.int (.l 8)),.li .none [.tu [.c (.str 1),.c (.int (.l 0))]]],.tu [.c (.str 9),.ng (.c (.int (.l 1))),.li .none [.tu [.c (.str 1),.c (.int (.l 5))],.tu [.c (.str 1),.c (.int (.l 9))]]]]))] [],
 .rt (.cm .eq (.l 8) (.li .none [.tu [.c (.str 6),.c (.int (.l 8)),.li .none [.tu [.c (.str 1),.c (.int (.l 1))]]],.tu [.c (.str 9),.ng (.c (.int (.l 1))),.li .none [.tu [.c (.str 1),.c (.int (.l 5))],.tu [.c (.str 0),.l 3]]]]))]⟩
def uF:Fd:=⟨1,8,[.as 1 (.lc (.bi .mod (.l 7) (.c (.int (.l 2147483647)))) (.nm 7) (.sl (.l 0) (.c .none) (.c (.int (.l 12)))) .none),
 .as 1 (.bi .add (.l 1) (.cb 2 [.cb 0 [.l 1],.c (.int (.l 12))])),
 .fo (.nm 2) (.rg [.c (.int (.l 0)),.c (.int (.l 12)),.c (.int (.l 4))]) [.tp [.nm 3,.nm 4,.nm 5,.nm 6] (.sl (.l 1) (.l 2) (.bi .add (.l 2) (.c (.int (.l 4))))),
 .if (.an [.cm .lt (.bi .mod (.l 3) (.c (.int (.l 6)))) (.c (.int (.l 3))),.nt (.cf 50 [.l 4,.l 5,.l 6])]) [.rt (.c (.bool false))] [],
 .if (.an [.cm .eq (.bi .mod (.l 3) (.c (.int (.l 6)))) (.c (.int (.l 3))),.nt (.cf 52 [.l 4,.l 5])]) [.rt (.c (.bool false))] [],
 .if (.an [.cm .eq (.bi .mod (.l 3) (.c (.int (.l 6)))) (.c (.int (.l 4))),.nt (.cf 53 [.l 4,.l 5])]) [.rt (.c (.bool false))] [],
 .if (.an [.cm .eq (.bi .mod (.l 3) (.c (.int (.l 6)))) (.c (.int (.l 5))),.nt (.cf 54 [.l 4,.l 5])]) [.rt (.c (.bool false))] []],
 .rt (.c (.bool true))]⟩
def Bq:List Fd:=[DN,vy,xt,xu,zm,Dc,zo,zO,CB,CE,CC,zI,CG,zp,Cr,CY,Cy,zq,zt,zr,zh,vw,zi,Cn,zg,xn,vu,xp,vr,xq,Cs,zf,um,pC,sA,uo,Cg,Ci,vt,Cp,Cj,Cm,Ct,CI,Cz,zj,xr,zx,xv,zk,xo,Cw,Cu,Cv,Cq,uF]
def Br:List (Nat×Nat):=[(31,21),(32,22),(33,23),(34,24),(35,25),(36,26),(37,27),(38,28),(39,29),(40,30),(41,31),(42,32),(43,33),(44,34),(45,35),(46,36),(47,37),(48,38),(49,39),(50,40),(51,41),(52,42)]
def aap:List Nat:=[1,2,3,19,20]
def OO:List (List String):=[["value"],
 ["self","op","dst","args","more"],
 ["self","number"],
 ["self","name"],
 ["block","end"],
 ["func","found","block","number"],
 ["func","found","seen","stack","top","number"],
 ["func"],
 ["parents","places","one","other"],
 ["func","row","places","place","number","before","parents","is_new","found","other"],
 ["parents","found","number","parent"],
 ["value"],
 ["func","once","more","register","block","step"],
 ["step","found"],
 ["func","once","found","number","step","slot"],
 ["args","holders","private","operand"],
 ["func","once","private","slot","holders","block","step"],
 ["place","slots","base","offset","width"],
 ["one","other","slots","private","behind","first","second"],
 ["self","value","how"],
 ["self","func"],
 ["self","table","key","value"],
 ["self","table","key"],
 ["self","mark","table","key","before"],
 ["self"],
 ["self","register","value"],
 ["self","operand"],
 ["self","register","value"],
 ["self","value"],
 ["self","register","value"],
 ["self","args","values","found","operand","value","other"],
 ["self","value"],
 ["self","value","op","values","more","base","offset"],
 ["self","op","values","more","key","value"],
 ["self","step","value","found"],
 ["self","step","address","width","with_sign","how","base","offset","key","cell","value","found"],
 ["self","place","key"],
 ["self","key","base"],
 ["self","step","address","value","base","offset","key","known"],
 ["self","step","op","values","found","base","offset"],
 ["self","block","kept","step","values","found"],
 ["self","end","number","then","other","value","op","more","values","one","two"],
 ["self","number","before","tables"],
 ["ways","parents","number"],
 ["func","numbering","parents","children","ways","ends","stack","number","mark","before","tables","child"],
 ["func","numbering"],
 ["parts","drawn","number","rows","end","block","op","dst","args","more","firm","each"],
 ["goal","base","offset","way","operand"],
 ["one","other","out","place","there"],
 ["kind","place","width","size"],
 ["a","b","c","base","offset","width","sign","is_load","is_firm","other","spot","wide","kind","leak","last_wide","last_sign","last_kind","last_firm","rows","value","many","out","place","asked","middle","known","left","stays","op","dst","args"],
 ["a","b","pick","turned","one","two","op"],
 ["a","b","first","again","is_alike","one","two","where","parting","row"],
 ["a","b","kind","number","op","asked","is_joined","end","uses","here","left","due"],
 ["a","b","is_joined","number","here","uses","other","end","left"],
 ["script","numbers","at","kind","a","b","c"]]
def fnN:List (Nat×String):=[(0,"num"),(4,"followers"),(5,"preds"),(6,"postorder"),(7,"order"),(8,"nearest_over"),(9,"dominators"),(10,"children_of"),(11,"signed"),(12,"set_once"),(13,"slot_told"),(14,"holders_of_slots"),(15,"let_go"),(16,"private_slots"),(17,"is_inside"),(18,"may_meet"),(43,"only_way"),(44,"number_blocks"),(45,"number_func"),(46,"_law_numbered"),(47,"_law_sum"),(48,"_law_meets"),(49,"_law_between"),(50,"_law_memory_right"),(51,"_law_told_twice"),(52,"_law_twice_right"),(53,"_law_edges_right"),(54,"_law_carried_right"),(55,"law")]
def OP:List (Nat×String):=[(0,"append"),(1,"pop"),(2,"get"),(3,"add"),(31,"note"),(32,"drop"),(33,"take_back"),(34,"fresh"),(35,"value_in"),(36,"value_of"),(37,"holds"),(38,"operand_with"),(39,"put"),(40,"taken"),(41,"place_of"),(42,"learn_place"),(43,"number_of"),(44,"pass_value"),(45,"pass_load"),(46,"forget_place"),(47,"forget_all"),(48,"pass_store"),(49,"pass_step"),(50,"pass_block"),(51,"learn_edge"),(52,"enter")]
def clN:List String:=["Step","Block","Func","Cell","Numbering"]
def glN:List String:=["MASK","TOP","ROUND","COMMUTING","PURE","ADDRESSED","TELLING","WIDENINGS","_law_SIZE","_law_TWO","_law_ONE","_law_EITHER","_law_HEAD","_law_GIVE"]
def AU(k:Nat):List (Nat×Nat)->Option Nat
 |[]=>.none
 |(a,b)::r=>bif Nat.beq a k then some b else AU k r
def we(k j:Nat):List (Nat×Nat×Nat)->Option Nat
 |[]=>.none
 |(a,b,c)::r=>bif Nat.beq a k&&Nat.beq b j then some c else we k j r
abbrev ni(i:Int):V:=.int (.l i)
abbrev st(k:Nat):V:=.str k
def OQ:List V:=[ni 4294967295,ni 2147483648,ni 4294967296,.ref (.s 0),.ref (.s 1),.ref (.s 2),.ref (.s 3),.ref (.s 4),ni 4294967296,
 .tup [st 5,st 39,st 33,st 40,st 41,st 42,st 43,st 34,st 35,st 36,st 44,st 45,st 46,st 47,st 48,st 37,st 38],
 .tup [st 49,st 50,st 14,st 15,st 16,st 17],.tup [st 5,st 33,st 34,st 35,st 36,st 37,st 38],
 .tup [.tup [st 3,ni 3,.ref (.s 5),ni 0,.bool false],.tup [st 3,ni 4,.ref (.s 6),ni 1,.bool false],.tup [st 4,ni 5,.ref (.s 7),.tup [st 23,ni 0],.bool false],.tup [st 4,ni 6,.ref (.s 8),.tup [st 24,ni 0],.bool false]],
 .tup [st 27,.ref (.s 9),ni 0]]
def one(l:List Nat):O:=.dict (l.map fun k=>(.str k,.int (.l 1))) l.length
def uN:List O:=[one [5,33,34,35,36,37,38],
 one [5,39,33,40,41,42,43,34,35,36,44,45,46,47,48,37,38,49,50,14,15,16,17,4,3],
 .dict [(st 8,ni 1),(st 9,ni 1),(st 10,ni 2)] 3,.dict [(st 7,ni 1),(st 6,ni 1)] 2,
 .dict [(.tup [ni 1,.bool true],st 14),(.tup [ni 1,.bool false],st 16),(.tup [ni 2,.bool true],st 15),(.tup [ni 2,.bool false],st 17)] 4,
 .list [],.list [],.list [],.list [],.list [.tup [st 1,ni 1]]]
def HD(a b:Nat):Option Bool:=match a,b with
 |0,0=>some false
 |0,1=>some true
 |0,2=>some true
 |1,0=>some false
 |1,1=>some false
 |1,2=>some true
 |2,0=>some false
 |2,1=>some false
 |2,2=>some false
 |_,_=>.none
def Ia:List (Nat×Nat×Nat):=[(18,20,14),(18,21,15),(19,20,16),(19,21,17)]
def Ib:List (Nat×Nat×Nat):=[(32,0,11),(32,1,12)]
def Ic(i:Int):Option Nat:=bif i==8 then some 20 else bif i==16 then some 21 else bif i==32 then some 22 else .none
def prog:Pg where
 fn:=bA Bq
 me:=fun c m=>bif Nat.beq c 4 then AU m Br else .none
 rp:=bA aap
 gv:=fun j=>(bA OQ j).getD .no
 cat:=fun a b=>we a b Ia
 chr:=fun a b=>we a b Ib
 sl:=HD
 dec:=Ic
 eE:=fun c f=>match c with|0=>Nat.ble f 5|1=>Nat.ble 6 f&&Nat.ble f 8|2=>Nat.ble 9 f&&Nat.ble f 15|3=>Nat.ble 16 f&&Nat.ble f 17|_=>Nat.ble 18 f&&Nat.ble f 31
inductive Tr where
 |e
 |n (o:O) (l r:Tr)
def Tr.get(t:Tr):Nat->O:=Tr.rec (fun _=>.free) (fun o _ _ gl gr i=>Nat.rec o (fun m _=>Bool.rec (gr (Nat.div m 2)) (gl (Nat.div m 2)) (Nat.beq (Nat.mod m 2) 0)) i) t
def Tr.top:Tr->O
 |.e=>.free
 |.n o _ _=>o
def Tr.lt:Tr->Tr
 |.e=>.e
 |.n _ l _=>l
def Tr.rt:Tr->Tr
 |.e=>.e
 |.n _ _ r=>r
def Tr.set(k:Nat):Tr->Nat->O->Tr:=Nat.rec (fun t _ _=>t) (fun _ e t i x=>Tr.rec
 (Nat.rec (.n x .e .e) (fun m _=>Bool.rec (.n .free .e (e .e (Nat.div m 2) x)) (.n .free (e .e (Nat.div m 2) x) .e) (Nat.beq (Nat.mod m 2) 0)) i)
 (fun o l r _ _=>Nat.rec (.n x l r) (fun m _=>Bool.rec (.n o l (e r (Nat.div m 2) x)) (.n o (e l (Nat.div m 2) x) r) (Nat.beq (Nat.mod m 2) 0)) i) t) k
theorem Tr.TP(k:Nat)(t:Tr)(x:O):Tr.set (k+1) t 0 x=.n x t.lt t.rt:=by cases t<;>rfl
theorem Tr.TQ(k:Nat)(t:Tr)(i:Nat)(x:O)(h:Nat.beq (Nat.mod i 2) 0=true):Tr.set (k+1) t (i+1) x=.n t.top (Tr.set k t.lt (Nat.div i 2) x) t.rt:=by cases t with|e=>show(Bool.rec _ _ (Nat.beq (Nat.mod i 2) 0):Tr)=_;rw[h];rfl|n o l r=>show(Bool.rec _ _ (Nat.beq (Nat.mod i 2) 0):Tr)=_;rw[h];rfl
theorem Tr.SN(k:Nat)(t:Tr)(i:Nat)(x:O)(h:Nat.beq (Nat.mod i 2) 0=false):Tr.set (k+1) t (i+1) x=.n t.top t.lt (Tr.set k t.rt (Nat.div i 2) x):=by cases t with|e=>show(Bool.rec _ _ (Nat.beq (Nat.mod i 2) 0):Tr)=_;rw[h];rfl|n o l r=>show(Bool.rec _ _ (Nat.beq (Nat.mod i 2) 0):Tr)=_;rw[h];rfl
theorem tq(m n:Nat):Nat.beq m n=decide (m=n):=by
 by_cases h:m=n
 ·subst h;simp
 ·rw[m9 h];cases q:Nat.beq m n with|false=>rfl|true=>exact absurd (Nat.eq_of_beq_eq_true q) h
theorem Tr.CZ(t:Tr):t.get 0=t.top:=by cases t<;>rfl
theorem Tr.xy(t:Tr)(j:Nat)(h:Nat.beq (Nat.mod j 2) 0=true):t.get (j+1)=t.lt.get (Nat.div j 2):=by cases t with|e=>rfl|n o l r=>show(Bool.rec (r.get (Nat.div j 2)) (l.get (Nat.div j 2)) (Nat.beq (Nat.mod j 2) 0):O)=_;rw[h];rfl
theorem Tr.xw(t:Tr)(j:Nat)(h:Nat.beq (Nat.mod j 2) 0=false):t.get (j+1)=t.rt.get (Nat.div j 2):=by cases t with|e=>rfl|n o l r=>show(Bool.rec (r.get (Nat.div j 2)) (l.get (Nat.div j 2)) (Nat.beq (Nat.mod j 2) 0):O)=_;rw[h];rfl
theorem Lf{a b:Nat}{x:Bool}(p:Nat.beq (Nat.mod a 2) 0=x)(j:Nat.beq (Nat.mod b 2) 0=x)(q:Nat.div a 2=Nat.div b 2):a=b:=by rw[←j,tq,tq,decide_eq_decide]at p;have e:a%2=0↔b%2=0:=p;have o:a / 2=b / 2:=q;omega
theorem Tr.get_set:∀(k:Nat)(t:Tr)(i:Nat)(o:O)(j:Nat),i+1<2^k->(Tr.set k t i o).get j=if j=i then o else t.get j
 |0,t,i,o,j,h=>by simp at h
 |k+1,t,0,o,j,h=>by
  rw[Tr.TP];cases j with
  |zero=>rfl
  |succ j=>rw[bL (Nat.succ_ne_zero j)];cases p:Nat.beq (Nat.mod j 2) 0 with|true=>rw[Tr.xy _ j p,Tr.xy _ j p];rfl|false=>rw[Tr.xw _ j p,Tr.xw _ j p];rfl
 |k+1,t,i+1,o,j,h=>by
  have hk:Nat.div i 2+1<2^k:=by
   rw[Nat.pow_succ]at h;show i / 2+1<2^k
   omega
  cases q:Nat.beq (Nat.mod i 2) 0 with
  |true=>
   rw[Tr.TQ _ _ _ _ q];cases j with
   |zero=>rw[Tr.CZ,Tr.CZ,bL (Nat.succ_ne_zero i).symm];rfl
   |succ j=>
    cases p:Nat.beq (Nat.mod j 2) 0 with
    |true=>
     rw[Tr.xy _ j p,Tr.xy _ j p];show(Tr.set k t.lt (Nat.div i 2) o).get (Nat.div j 2)=_
     rw[Tr.get_set k _ _ _ _ hk]
     by_cases e:j=i
     ·subst e;rw[df rfl,df rfl]
     ·rw[bL fun z=>e (Lf p q z),bL fun z=>e (Nat.succ.inj z)]
    |false=>rw[Tr.xw _ j p,Tr.xw _ j p,bL fun z=>by have:=Nat.succ.inj z;subst this;rw[p]at q;cases q];rfl
  |false=>
   rw[Tr.SN _ _ _ _ q];cases j with
   |zero=>rw[Tr.CZ,Tr.CZ,bL (Nat.succ_ne_zero i).symm];rfl
   |succ j=>
    cases p:Nat.beq (Nat.mod j 2) 0 with
    |false=>
     rw[Tr.xw _ j p,Tr.xw _ j p];show(Tr.set k t.rt (Nat.div i 2) o).get (Nat.div j 2)=_
     rw[Tr.get_set k _ _ _ _ hk]
     by_cases e:j=i
     ·subst e;rw[df rfl,df rfl]
     ·rw[bL fun z=>e (Lf p q z),bL fun z=>e (Nat.succ.inj z)]
    |true=>rw[Tr.xy _ j p,Tr.xy _ j p,bL fun z=>by have:=Nat.succ.inj z;subst this;rw[p]at q;cases q];rfl
structure Tw where
 s:Tr
 g:Tr
def MP(h:Tw):Ad->O
 |.s n=>h.s.get n
 |.g n=>h.g.get n
def Y2(h:Tw)(a:Ad)(o:O):Tw:=match a with
 |.s n=>⟨Tr.set 12 h.s n o,h.g⟩
 |.g n=>⟨h.s,Tr.set 12 h.g n o⟩
def aaq:Ad->Bool
 |.s n=>Nat.blt n 4000
 |.g n=>Nat.blt n 4000
theorem zW{m n:Nat}(h:Nat.blt m n=true):m<n:=nU h
theorem Ds{α:Type}{m n:Nat}{x y:α}:(if m=n then x else y)=bif Nat.beq m n then x else y:=by
 rw[tq]
 by_cases h:m=n<;>simp[h]
def twH:HOps Tw where
 get:=MP
 set:=Y2
 ok:=aaq
 EF:=by
  intro h a o b hk;cases a with
  |s n=>
   have e:n+1<2^12:=by have:=zW (show Nat.blt n 4000=true from hk);omega
   cases b with|s m=>show(Tr.set 12 h.s n o).get m=_;rw[Tr.get_set 12 _ _ _ _ e,Ds];rfl|g m=>rfl
  |g n=>
   have e:n+1<2^12:=by have:=zW (show Nat.blt n 4000=true from hk);omega
   cases b with|s m=>rfl|g m=>show(Tr.set 12 h.g n o).get m=_;rw[Tr.get_set 12 _ _ _ _ e,Ds];rfl
def Ec:List O->Nat->Tr->Tr
 |[],_,t=>t
 |o::r,i,t=>Ec r (i+1) (Tr.set 12 t i o)
def start:St Tw:=⟨⟨Ec uN 0 .e,.e⟩,0⟩
def tw(F:cG):Mc Tw:={twH with F:=F,P:=prog}
section
open PySem PySem.W PySem.Calls PyProof.Rows
structure G where
 ad:Ad->Bool->Option Addr
 tp:Addr->Option (List Value)
structure Nm where
 tab:Nat->Str
 fd:Nat->Str
 cl:Nat->Addr
 zv:Nat->Int
 fa:Nat->Addr
 md:Nat->Str
 gl:Str->Option Value
 gn:Nat->Str
def Z.val(N:Nm):Z->Int
 |.l i=>i
 |.y k c=>N.zv k+c
mutual
def cj(N:Nm)(g:G):V->Value->Prop
 |.no,_=>False
 |.none,v=>v=.none
 |.bool b,v=>v=.bool b
 |.int z,v=>∃t,v=.int (z.val N) t
 |.str k,v=>∃t,v=.str (N.tab k) t
 |.tup l,v=>∃a vs,v=.ref a/\g.tp a=some vs/\cE N g l vs
 |.lst _,_=>False
 |.ref n,v=>∃a,v=.ref a/\g.ad n false=some a
termination_by structural x=>x
def cE(N:Nm)(g:G):List V->List Value->Prop
 |[],vs=>vs=[]
 |x::xs,vs=>∃v r,vs=v::r/\cj N g x v/\cE N g xs r
termination_by structural x=>x
end
mutual
def dt(N:Nm):V->Option PyData
 |.int z=>some (.int (z.val N))
 |.bool b=>some (.int (bif b then 1 else 0))
 |.str k=>some (.str (N.tab k))
 |.tup l=>match uG N l with|some e=>some (.tuple e)|.none=>.none
 |_=>.none
termination_by structural x=>x
def uG(N:Nm):List V->Option (List PyData)
 |[]=>some []
 |x::xs=>match dt N x with
  |some k=>match uG N xs with|some ks=>some (k::ks)|.none=>.none
  |.none=>.none
termination_by structural x=>x
end
mutual
def rP(w:World):PyData->Int
 |.int i=>hashInt i
 |.str s=>hashStr w s
 |.tuple l=>reduceHash (Builtin.Tuple.tupleHashOf (zX w l))
 |_=>0
termination_by structural x=>x
def zX(w:World):List PyData->List Int
 |[]=>[]
 |k::r=>rP w k::zX w r
termination_by structural x=>x
end
structure Cx(H:Type) where
 M:Mc H
 N:Nm
 prog:Program
 w:World
 h₀:Heap
 iz:G
 K:Frag
abbrev cV:=Value->Shared->Prop
abbrev Cx.md{H:Type}(c:Cx H):Model:=model c.prog c.w
inductive jv{H:Type}(c:Cx H)(g:G):List (V×V)->List DictEntry->Prop
 |nil:jv c g [] []
 |cons {k v:V} {u x:Value} {i:Int} {kd:PyData} {r:List (V×V)} {q:List DictEntry}:dt c.N k=some kd->i=rP c.w kd->cj c.N g k u->cj c.N g v x->jv c g r q->jv c g ((k,v)::r) (⟨i,u,x⟩::q)
structure lY(N:Nm)(es:List (V×V)):Prop where
 kind:∀e∈es,∀e'∈es,kk e.1=kk e'.1
 ok:∀e∈es,jW e.1 6=true/\kk e.1≠0
 nd:(es.map fun e=>dt N e.1).Nodup
def gS{H:Type}(c:Cx H)(g:G)(h:Heap)(n:Ad):O->Prop
 |.free=>g.ad n false=none/\g.ad n true=none
 |.list l=>∃a vs k,g.ad n false=some a/\g.ad n true=none/\h.get? a=some {cls:=.type "list",data:=.seq vs k}/\cE c.N g l vs.toList/\l.length<=bu
 |.dict es k=>∃a cR,g.ad n false=some a/\g.ad n true=none/\h.get? a=some {cls:=.type "dict",data:=.dict cR k}/\jv c g es cR.toList/\lY c.N es/\es.length<=bu
 |.set l=>∃a o S k,g.ad n false=some a/\g.ad n true=none/\h.get? a=some o/\o.cls=.type "set"/\h.SetOf (intKind c.prog c.w) a S k/\k<=l.length/\∀i,S i=true↔∃z,V.int z∈l/\z.val c.N=i
 |.inst cl fs=>∃a d m,g.ad n false=some a/\g.ad n true=some d/\h.get? a=some (instObj (c.N.cl cl) d)/\h.Ns d m/\h.DictLe d fs.length/\(∀y,m y≠none->∃f,c.M.P.eE cl f=true/\y=c.N.fd f)/\
   ∀f x,fld f fs=some x->c.M.P.eE cl f=true/\∃v,m (c.N.fd f)=some v/\cj c.N g x v
structure Rel{H:Type}(c:Cx H)(g:G)(s:St H)(h:Heap):Prop where
 inj:∀n b n' b' a,g.ad n b=some a->g.ad n' b'=some a->n.live=true->n=n'/\b=b'
 obj:∀n,gS c g h n (c.M.get s.h n)
 tup:∀a vs,g.tp a=some vs->h.IsTuple a vs.toArray
 old:∀a o,c.h₀.get? a=some o->h.get? a=some o
 fresh:∀n b a,g.ad n b=some a->n.live=true->c.h₀.get? a=none
 ok:∀n b a,g.ad n b=some a->c.M.ok n=true
 sys:∀n b,g.ad n b≠some sysModules
 sep:∀n b a,g.ad n b=some a->g.tp a=none
 oY:∀n b a,c.iz.ad n b=some a->g.ad n b=some a
 oZ:∀a vs,c.iz.tp a=some vs->g.tp a=some vs
structure dh(L:Addr)(g:G)(h:Heap)(g':G)(h':Heap):Prop where
 ad:∀n b a,g.ad n b=some a->g'.ad n b=some a
 tp:∀a vs,g.tp a=some vs->g'.tp a=some vs
 o8:∀n b a,g'.ad n b=some a->g.ad n b=some a∨h.get? a=none
 pQ:∀a vs,g'.tp a=some vs->g.tp a=some vs∨h.get? a=none
 live:∀a o,h.get? a=some o->∃o',h'.get? a=some o'
 keep:∀a o,h.get? a=some o->(∀n b,g.ad n b≠some a)->a≠L->h'.get? a=some o
theorem dh.refl(L:Addr)(g:G)(h:Heap):dh L g h g h:=
 ⟨fun _ _ _ e=>e,fun _ _ e=>e,fun _ _ _ e=>.inl e,fun _ _ e=>.inl e,fun _ o e=>⟨o,e⟩,fun _ _ e _ _=>e⟩
theorem dh.none_of{L:Addr}{g g':G}{h h':Heap}(x:dh L g h g' h'){a:Addr}(e:h'.get? a=none):h.get? a=none:=by cases q:h.get? a with|none=>rfl|some o=>obtain⟨o',j⟩:=x.live a o q;rw[e]at j;cases j
theorem dh.trans{L:Addr}{g g' j:G}{h h' p:Heap}(x:dh L g h g' h')(y:dh L g' h' j p):dh L g h j p where
 ad:=fun n b a e=>y.ad n b a (x.ad n b a e)
 tp:=fun a vs e=>y.tp a vs (x.tp a vs e)
 o8:=fun n b a e=>(y.o8 n b a e).elim (x.o8 n b a) fun q=>.inr (x.none_of q)
 pQ:=fun a vs e=>(y.pQ a vs e).elim (x.pQ a vs) fun q=>.inr (x.none_of q)
 live:=fun a o e=>let⟨o',z⟩:=x.live a o e;y.live a o' z
 keep:=fun a o e t hl=>y.keep a o (x.keep a o e t hl) (fun n b q=>by
  rcases x.o8 n b a q with q|q
  ·exact t n b q
  ·rw[e]at q;cases q) hl
section
variable{N:Nm}{g g':G}
mutual
theorem cj.mono(eo:∀n b a,g.ad n b=some a->g'.ad n b=some a)(j:∀a vs,g.tp a=some vs->g'.tp a=some vs):∀(x:V)(v:Value),cj N g x v->cj N g' x v
 |.no,_,h=>h
 |.none,_,h=>h
 |.bool _,_,h=>h
 |.int _,_,h=>h
 |.str _,_,h=>h
 |.tup l,_,⟨a,vs,e,t,r⟩=>⟨a,vs,e,j _ _ t,cE.mono eo j l vs r⟩
 |.lst _,_,h=>h
 |.ref _,_,⟨a,e,t⟩=>⟨a,e,eo _ _ _ t⟩
theorem cE.mono(eo:∀n b a,g.ad n b=some a->g'.ad n b=some a)(j:∀a vs,g.tp a=some vs->g'.tp a=some vs):∀(x:List V)(v:List Value),cE N g x v->cE N g' x v
 |[],_,h=>h
 |x::xs,_,⟨v,r,e,a,b⟩=>⟨v,r,e,cj.mono eo j x v a,cE.mono eo j xs r b⟩
end
end
theorem dh.mf{L:Addr}{N:Nm}{g g':G}{h h':Heap}(x:dh L g h g' h'){v:V}{u:Value}(r:cj N g v u):cj N g' v u:=cj.mono x.ad x.tp v u r
theorem dh.sP{L:Addr}{N:Nm}{g g':G}{h h':Heap}(x:dh L g h g' h'){v:List V}{u:List Value}(r:cE N g v u):cE N g' v u:=cE.mono x.ad x.tp v u r
theorem jv.mono{H:Type}{c:Cx H}{g g':G}(eo:∀n b a,g.ad n b=some a->g'.ad n b=some a)(j:∀a vs,g.tp a=some vs->g'.tp a=some vs){es:List (V×V)}{q:List DictEntry}(h:jv c g es q):jv c g' es q:=by
 induction h with|nil=>exact .nil|cons a b d e _ o=>exact .cons a b (cj.mono eo j _ _ d) (cj.mono eo j _ _ e) o
theorem cE.len{N:Nm}{g:G}:∀{l:List V}{vs:List Value},cE N g l vs->vs.length=l.length
 |[],_,h=>by cases h;rfl
 |x::xs,_,⟨v,r,e,_,b⟩=>by subst e;simp[cE.len b]
theorem cE.at{N:Nm}{g:G}:∀{l:List V}{vs:List Value}{i:Nat}{x:V},cE N g l vs->bA l i=some x->∃v,vs[i]?=some v/\cj N g x v
 |x::xs,_,0,_,⟨v,r,e,a,_⟩,h=>by subst e;cases h;exact⟨v,rfl,a⟩
 |x::xs,_,i+1,y,⟨v,r,e,_,b⟩,h=>by subst e;obtain⟨u,p,q⟩:=cE.at (i:=i) b h;exact⟨u,by simpa using p,q⟩
 |[],_,_,_,_,h=>by cases h
theorem cE.none{N:Nm}{g:G}:∀{l:List V}{vs:List Value}{i:Nat},cE N g l vs->bA l i=none->vs[i]?=none
 |[],_,_,h,_=>by cases h;rfl
 |_::_,_,0,_,h=>by cases h
 |x::xs,_,i+1,⟨v,r,e,_,b⟩,h=>by subst e;simpa using cE.none (i:=i) b h
theorem cE.append{N:Nm}{g:G}:∀{l o:List V}{vs j:List Value},cE N g l vs->cE N g o j->cE N g (l++o) (vs++j)
 |[],_,_,_,h,k=>by cases h;exact k
 |x::xs,_,_,_,⟨v,r,e,a,b⟩,k=>by subst e;exact⟨v,_,rfl,a,cE.append b k⟩
theorem cE.one{N:Nm}{g:G}{x:V}{v:Value}(h:cj N g x v):cE N g [x] [v]:=⟨v,[],rfl,h,rfl⟩
section
variable{H:Type}{c:Cx H}{g g':G}{s:St H}{h h':Heap}
theorem Rel.owned(R:Rel c g s h){n:Ad}{b:Bool}{a:Addr}(e:g.ad n b=some a):∃o,h.get? a=some o:=by
 have z:=R.obj n;cases q:c.M.get s.h n with
 |free=>rw[q]at z;cases b<;>simp_all [gS]
 |list l=>rw[q]at z;obtain⟨x,vs,k,j,p,t,_⟩:=z;cases b with|false=>rw[j]at e;cases e;exact⟨_,t⟩|true=>rw[p]at e;cases e
 |dict l ep=>rw[q]at z;obtain⟨x,vs,j,p,t,_⟩:=z;cases b with|false=>rw[j]at e;cases e;exact⟨_,t⟩|true=>rw[p]at e;cases e
 |set l=>rw[q]at z;obtain⟨x,o,S,k,j,p,t,y,_⟩:=z;cases b with|false=>rw[j]at e;cases e;exact⟨_,t⟩|true=>rw[p]at e;cases e
 |inst cl fs=>rw[q]at z;obtain⟨x,d,m,j,p,t,⟨B,cR,k,y,_⟩,_⟩:=z;cases b with|false=>rw[j]at e;cases e;exact⟨_,t⟩|true=>rw[p]at e;cases e;exact⟨_,y⟩
theorem Rel.Wj(R:Rel c g s h){n:Ad}{b:Bool}{a:Addr}(e:g.ad n b=some a):g.tp a=none:=R.sep n b a e
theorem Rel.C0(R:Rel c g s h){a:Addr}{vs:List Value}(e:g.tp a=some vs):∃o,h.get? a=some o:=let⟨o,k,_⟩:=R.tup a vs e;⟨o,k⟩
theorem ur{h h':Heap}{a:Addr}{vs:Array Value}(x:h.IsTuple a vs)(k:∀o,h.get? a=some o->h'.get? a=some o):h'.IsTuple a vs:=let⟨o,e,r⟩:=x;⟨o,k o e,r⟩
theorem gS.keep{n:Ad}{o:O}(x:gS c g h n o)(k:∀b a ob,g.ad n b=some a->h.get? a=some ob->h'.get? a=some ob):gS c g h' n o:=by cases o with|free=>exact x|list l=>obtain⟨a,vs,q,e,j,p,r⟩:=x;exact⟨a,vs,q,e,j,k _ _ _ e p,r⟩|dict l ep=>obtain⟨a,vs,e,j,p,r⟩:=x;exact⟨a,vs,e,j,k _ _ _ e p,r⟩|set l=>obtain⟨a,o,S,q,e,j,p,z,⟨o',es,ep,t,B,I⟩,r⟩:=x;exact⟨a,o,S,q,e,j,k _ _ _ e p,z,⟨o',es,ep,t,k _ _ _ e B,I⟩,r⟩|inst cl fs=>obtain⟨a,d,m,e,j,p,⟨J,es,ep,y,K⟩,U,r⟩:=x;exact⟨a,d,m,e,j,k _ _ _ e p,⟨J,es,ep,k _ _ _ j y,K⟩,U.of_same y (k _ _ _ j y),r⟩
theorem gS.mono{n:Ad}{o:O}(x:gS c g h n o)(eo:∀n b a,g.ad n b=some a->g'.ad n b=some a)(e:∀b,g.ad n b=none->g'.ad n b=none)(j:∀a vs,g.tp a=some vs->g'.tp a=some vs):gS c g' h n o:=by cases o with|free=>exact⟨e _ x.1,e _ x.2⟩|list l=>obtain⟨a,vs,q,B,I,J,r,z⟩:=x;exact⟨a,vs,q,eo _ _ _ B,e _ I,J,cE.mono eo j _ _ r,z⟩|dict l ep=>obtain⟨a,vs,B,I,J,r,z⟩:=x;exact⟨a,vs,eo _ _ _ B,e _ I,J,r.mono eo j,z⟩|set l=>obtain⟨a,o,S,q,B,I,r⟩:=x;exact⟨a,o,S,q,eo _ _ _ B,e _ I,r⟩|inst cl fs=>obtain⟨a,d,m,B,I,J,K,U,W,r⟩:=x;exact⟨a,d,m,eo _ _ _ B,eo _ _ _ I,J,K,U,W,fun f y q=>let⟨w,v,p,t⟩:=r f y q;⟨w,v,p,cj.mono eo j _ _ t⟩⟩
structure fZ(c:Cx H)(g:G)(L a:Addr):Prop where
 own:∀n b,g.ad n b≠some a
 tp:g.tp a=none
 old:c.h₀.get? a=none
 ne:a≠L
theorem fZ.da{L a:Addr}{o:Obj}(t:fZ c g L a)(x:dh L g h g' h')(e:h.get? a=some o):fZ c g' L a where
 own:=fun n b q=>(x.o8 n b a q).elim (t.own n b) fun z=>by rw[e]at z;cases z
 tp:=by cases q:g'.tp a with|none=>rfl|some vs=>exact(x.pQ a vs q).elim (fun z=>by rw[t.tp]at z;cases z) fun z=>by rw[e]at z;cases z
 old:=t.old
 ne:=t.ne
theorem fZ.at{L a:Addr}{o:Obj}(t:fZ c g L a)(x:dh L g h g' h')(e:h.get? a=some o):h'.get? a=some o:=x.keep a o e t.own t.ne
theorem Rel.ext(R:Rel c g s h){L a:Addr}(t:fZ c g L a)(k:∀b o,b≠a->h.get? b=some o->h'.get? b=some o):Rel c g s h' where
 inj:=R.inj
 obj:=fun n=>(R.obj n).keep fun b x ob e q=>k x ob (fun z=>t.own n b (z▸e)) q
 tup:=fun x vs e=>ur (R.tup x vs e) fun o q=>k x o (fun z=>by rw[z,t.tp]at e;cases e) q
 old:=fun x o e=>k x o (fun z=>by rw[z,t.old]at e;cases e) (R.old x o e)
 fresh:=R.fresh
 ok:=R.ok
 sys:=R.sys
 sep:=R.sep
 oY:=R.oY
 oZ:=R.oZ
theorem Rel.grow(R:Rel c g s h)(k:∀b o,h.get? b=some o->h'.get? b=some o):Rel c g s h' where
 inj:=R.inj
 obj:=fun n=>(R.obj n).keep fun _ x ob _ q=>k x ob q
 tup:=fun x vs e=>ur (R.tup x vs e) fun o q=>k x o q
 old:=fun x o e=>k x o (R.old x o e)
 fresh:=R.fresh
 ok:=R.ok
 sys:=R.sys
 sep:=R.sep
 oY:=R.oY
 oZ:=R.oZ
theorem dh.grow{L:Addr}(k:∀b o,h.get? b=some o->h'.get? b=some o):dh L g h g h':=
 ⟨fun _ _ _ e=>e,fun _ _ e=>e,fun _ _ _ e=>.inl e,fun _ _ e=>.inl e,fun a o e=>⟨o,k a o e⟩,fun a o e _ _=>k a o e⟩
end
theorem gc{m n:Nat}:Nat.beq m n=true↔m=n:=⟨Nat.eq_of_beq_eq_true,fun h=>h▸Nat.beq_refl m⟩
theorem Ad.beq_iff{a b:Ad}:Ad.beq a b=true↔a=b:=by cases a<;>cases b<;>simp[Ad.beq]
theorem Ad.Mn{a b:Ad}(h:a≠b):Ad.beq a b=false:=by cases q:Ad.beq a b with|false=>rfl|true=>exact absurd (Ad.beq_iff.mp q) h
section
variable{H:Type}{c:Cx H}{g g':G}{s:St H}{h h':Heap}{L:Addr}
theorem Mc.C1(M:Mc H){hp:H}{n:Ad}{o:O}(k:M.ok n=true):M.get (M.set hp n o) n=o:=by rw[M.EF hp n o n k,Ad.beq_iff.mpr rfl];rfl
theorem Mc.Dt(M:Mc H){hp:H}{n m:Ad}{o:O}(k:M.ok n=true)(e:m≠n):M.get (M.set hp n o) m=M.get hp m:=by rw[M.EF hp n o m k,Ad.Mn e];rfl
theorem Rel.upd(R:Rel c g s h){n:Ad}{b:Bool}{a:Addr}{o':O}{k:Nat}(e:g.ad n b=some a)(hl:n.live=true)(hs:Heap.SameBut a h h')(x:gS c g h' n o'):Rel c g ⟨c.M.set s.h n o',k⟩ h' where
 inj:=R.inj
 obj:=fun m=>by
  by_cases j:m=n
  ·subst j;rw[Mc.C1 _ (R.ok _ _ _ e)];exact x
  ·rw[Mc.Dt _ (R.ok _ _ _ e) j];exact(R.obj m).keep fun y p ob t q=>(hs.2 p fun z=>j (R.inj _ _ _ _ _ e (z▸t) hl).1.symm).trans q
 tup:=fun x vs q=>ur (R.tup x vs q) fun o z=>(hs.2 x fun w=>by rw[w,R.Wj e]at q;cases q).trans z
 old:=fun x o q=>(hs.2 x fun w=>by rw[w,R.fresh _ _ _ e hl]at q;cases q).trans (R.old x o q)
 fresh:=R.fresh
 ok:=R.ok
 sys:=R.sys
 sep:=R.sep
 oY:=R.oY
 oZ:=R.oZ
theorem Rel.Wk{p:St H}(t:Rel c g p h'){n:Ad}{b:Bool}{a:Addr}(e:g.ad n b=some a)(hs:Heap.SameBut a h h'):dh L g h g h' where
 ad:=fun _ _ _ e=>e
 tp:=fun _ _ e=>e
 o8:=fun _ _ _ e=>.inl e
 pQ:=fun _ _ e=>.inl e
 live:=fun x o q=>by
  by_cases j:x=a
  ·subst j;exact t.owned e
  ·exact⟨o,(hs.2 x j).trans q⟩
 keep:=fun x o q y _=>(hs.2 x fun w=>y n b (w▸e)).trans q
theorem Rel.new(R:Rel c g s h){n:Ad}{o':O}{k:Nat}(B:c.M.get s.h n=.free)(dG:c.M.ok n=true)
  (y:∀m b,m≠n->g'.ad m b=g.ad m b) (p:g'.tp=g.tp) (iA:∀b a,g'.ad n b=some a->h.get? a=none) (K:∀b S a,g'.ad n b=some a->g'.ad n S=some a->b=S)
  (U:∃o,c.h₀.get? sysModules=some o) (W:∀b o,h.get? b=some o->h'.get? b=some o) (x:gS c g' h' n o'):Rel c g' ⟨c.M.set s.h n o',k⟩ h'/\dh L g h g' h':=by
 have gn:∀b,g.ad n b=none:=fun b=>by have z:=R.obj n;rw[B]at z;cases b with|false=>exact z.1|true=>exact z.2
 have eo:∀m b a,g.ad m b=some a->g'.ad m b=some a:=fun m b a e=>by
  by_cases j:m=n
  ·subst j;rw[gn]at e;cases e
  ·rw[y m b j];exact e
 refine⟨⟨?_,?_,?_,?_,?_,?_,?_,?_,fun m b a e=>eo m b a (R.oY m b a e),fun a vs e=>by rw[p];exact R.oZ a vs e⟩,⟨eo,fun a vs e=>by rw[p];exact e,?_,fun a vs e=>.inl (by rw[p]at e;exact e),fun a o e=>⟨o,W a o e⟩,fun a o e _ _=>W a o e⟩⟩
 ·intro m b Y S a e J I
  by_cases j:m=n
  ·by_cases t:Y=n
   ·subst j;subst t;exact⟨rfl,K _ _ _ e J⟩
   ·subst j;rw[y Y S t]at J;obtain⟨o,q⟩:=R.owned J;rw[iA _ _ e]at q;cases q
  ·rw[y m b j]at e
   by_cases t:Y=n
   ·subst t;obtain⟨o,q⟩:=R.owned e;rw[iA _ _ J]at q;cases q
   ·rw[y Y S t]at J;exact R.inj _ _ _ _ _ e J I
 ·intro m
  by_cases j:m=n
  ·subst j;rw[Mc.C1 _ dG];exact x
  ·rw[Mc.Dt _ dG j];exact(gS.mono (R.obj m) eo (fun b q=>by rw[y m b j];exact q) fun a vs q=>by rw[p];exact q).keep fun _ a ob _ q=>W a ob q
 ·intro a vs e;rw[p]at e;exact ur (R.tup a vs e) fun o q=>W a o q
 ·exact fun a o e=>W a o (R.old a o e)
 ·intro m b a e hl
  by_cases j:m=n
  ·subst j;cases q:c.h₀.get? a with|none=>rfl|some o=>have:=R.old a o q;rw[iA _ _ e]at this;cases this
  ·rw[y m b j]at e;exact R.fresh _ _ _ e hl
 ·intro m b a e
  by_cases j:m=n
  ·subst j;exact dG
  ·rw[y m b j]at e;exact R.ok _ _ _ e
 ·intro m b e
  by_cases j:m=n
  ·subst j;obtain⟨o,q⟩:=U;have:=R.old _ _ q;rw[iA _ _ e]at this;cases this
  ·rw[y m b j]at e;exact R.sys _ _ e
 ·intro m b a e;rw[p]
  by_cases j:m=n
  ·subst j;cases q:g.tp a with|none=>rfl|some vs=>obtain⟨o,z⟩:=R.C0 q;rw[iA _ _ e]at z;cases z
  ·rw[y m b j]at e;exact R.sep _ _ _ e
 ·intro m b a e
  by_cases j:m=n
  ·subst j;exact .inr (iA _ _ e)
  ·rw[y m b j]at e;exact .inl e
def G.put(g:G)(n:Ad)(a:Addr)(d:Option Addr):G where
 ad:=fun m b=>bif Ad.beq m n then(bif b then d else some a)else g.ad m b
 tp:=g.tp
theorem G.qW{n m:Ad}{a:Addr}{d:Option Addr}{b:Bool}(h:m≠n):(g.put n a d).ad m b=g.ad m b:=by simp[G.put,Ad.Mn h]
theorem G.ka{n:Ad}{a:Addr}{d:Option Addr}:(g.put n a d).ad n false=some a:=by simp[G.put,Ad.beq_iff.mpr rfl]
theorem G.kM{n:Ad}{a:Addr}{d:Option Addr}:(g.put n a d).ad n true=d:=by simp[G.put,Ad.beq_iff.mpr rfl]
theorem Rel.push(R:Rel c g s h){n:Ad}{o':O}{k:Nat}{ob:Obj}(j:c.M.get s.h n=.free)(dG:c.M.ok n=true)(p:∃o,c.h₀.get? sysModules=some o)
  (x:gS c (g.put n h.objs.size none) (h.push ob) n o'):Rel c (g.put n h.objs.size none) ⟨c.M.set s.h n o',k⟩ (h.push ob)/\dh L g h (g.put n h.objs.size none) (h.push ob):=
 R.new j dG (fun _ _ y=>G.qW y) rfl (fun b a e=>by
  cases b with
  |true=>rw[G.kM]at e;cases e
  |false=>
   rw[G.ka]at e;cases e;cases q:h.get? h.objs.size with
   |none=>rfl
   |some o=>exact absurd (nc q) (Nat.lt_irrefl _)) (fun b z a e t=>by
  cases b<;>cases z<;>first|rfl|(rw[G.kM]at e;cases e)|(rw[G.kM]at t;cases t)) p (fun _ _ e=>iV _ e) x
theorem m4{h:Heap}:h.get? h.objs.size=none:=by cases q:h.get? h.objs.size with|none=>rfl|some o=>exact absurd (nc q) (Nat.lt_irrefl _)
def G.lN(g:G)(a:Addr)(vs:List Value):G where
 ad:=g.ad
 tp:=fun b=>bif Nat.beq b a then some vs else g.tp b
theorem G.zy{a:Addr}{vs:List Value}:(g.lN a vs).tp a=some vs:=by simp[G.lN]
theorem G.qj{a b:Addr}{vs:List Value}(h:b≠a):(g.lN a vs).tp b=g.tp b:=by
 have:Nat.beq b a=false:=by cases q:Nat.beq b a with|false=>rfl|true=>exact absurd (gc.mp q) h
 simp[G.lN,this]
theorem Rel.tuple(R:Rel c g s h){a:Addr}{vs:List Value}(ha:h.get? a=none)(j:∀b o,h.get? b=some o->h'.get? b=some o)(t:h'.IsTuple a vs.toArray):
  Rel c (g.lN a vs) s h'/\dh L g h (g.lN a vs) h':=by
 have mono:∀b us,g.tp b=some us->(g.lN a vs).tp b=some us:=fun b us e=>by
  rw[G.qj fun z=>?_]
  ·exact e
  ·subst z;obtain⟨o,q⟩:=R.C0 e;rw[ha]at q;cases q
 refine⟨⟨R.inj,fun n=>(gS.mono (g':=g.lN a vs) (R.obj n) (fun _ _ _ e=>e) (fun _ e=>e) mono).keep fun _ x ob _ q=>j x ob q,fun x us e=>?_,fun x o e=>j x o (R.old x o e),R.fresh,R.ok,R.sys,fun n b x e=>?_,R.oY,fun x us e=>mono x us (R.oZ x us e)⟩,
  ⟨fun _ _ _ e=>e,mono,fun _ _ _ e=>.inl e,fun x us e=>?_,fun x o e=>⟨o,j x o e⟩,fun x o e _ _=>j x o e⟩⟩
 ·by_cases p:x=a
  ·subst p;rw[G.zy]at e;cases e;exact t
  ·rw[G.qj p]at e;exact ur (R.tup x us e) fun o q=>j x o q
 ·rw[G.qj fun z=>?_]
  ·exact R.sep n b x e
  ·subst z;obtain⟨o,q⟩:=R.owned e;rw[ha]at q;cases q
 ·by_cases p:x=a
  ·subst p;exact .inr ha
  ·rw[G.qj p]at e;exact .inl e
theorem dh.but{bG:Heap}{a:Addr}(x:dh L g h g' h')(ha:h.get? a=none)(k:∀b o,b≠a->h'.get? b=some o->bG.get? b=some o):dh L g h g' bG where
 ad:=x.ad
 tp:=x.tp
 o8:=x.o8
 pQ:=x.pQ
 live:=fun b o e=>let⟨o',j⟩:=x.live b o e;⟨o',k b o' (fun z=>by rw[z,ha]at e;cases e) j⟩
 keep:=fun b o e p hl=>k b o (fun z=>by rw[z,ha]at e;cases e) (x.keep b o e p hl)
end
structure Frm(env:Env)(nm:Nat->Option Str):Prop where
 kind:env.scope.kind=.function
 glob:env.globals=mainGlobals
 AV:env.builtins=builtinsNs
 inj:∀i j y,nm i=some y->nm j=some y->i=j
structure Loc{H:Type}(c:Cx H)(env:Env)(nm:Nat->Option Str)(g:G)(h:Heap)(l:L):Prop where
 ns:∃m,h.Ns env.locals m/\∀i x y,bA l i=some x->x≠ .no->nm i=some y->
  (env.kindOf y=some .local/\∃v,m y=some v/\cj c.N g x v)∨
  ((env.kindOf y=some .cell∨env.kindOf y=some .free)/\∃q v,env.cells.lookup y=some q/\h.IsCell q (some v)/\fZ c g env.locals q/\cj c.N g x v)
 own:∀n b,g.ad n b≠some env.locals
 tp:g.tp env.locals=none
 old:c.h₀.get? env.locals=none
 kW:∀y q,env.cells.lookup y=some q->∃o,h.get? q=some o
section
variable{H:Type}{c:Cx H}{g g':G}{s:St H}{h h':Heap}{env:Env}{nm:Nat->Option Str}{l:L}
theorem Loc.alive(x:Loc c env nm g h l):∃o,h.get? env.locals=some o:=let⟨_,⟨o,_,_,e,_⟩,_⟩:=x.ns;⟨o,e⟩
theorem Loc.da(x:Loc c env nm g h l)(z:dh env.locals g h g' h')(k:∀o,h.get? env.locals=some o->h'.get? env.locals=some o):Loc c env nm g' h' l where
 ns:=by
  obtain⟨m,⟨o,es,ep,I,J⟩,r⟩:=x.ns;refine⟨m,⟨o,es,ep,k o I,J⟩,fun i v y a b d=>?_⟩;rcases r i v y a b d with⟨p,u,q,t⟩|⟨p,q,u,K,O,j,S⟩
  ·exact .inl ⟨p,u,q,z.mf t⟩
  ·obtain⟨U,B,rc⟩:=O;exact .inr ⟨p,q,u,K,⟨U,j.at z B,rc⟩,j.da z B,z.mf S⟩
 own:=fun n b q=>by
  obtain⟨o,e⟩:=x.alive;rcases z.o8 n b _ q with q|q
  ·exact x.own n b q
  ·rw[e]at q;cases q
 tp:=by
  obtain⟨o,e⟩:=x.alive;cases q:g'.tp env.locals with
  |none=>rfl
  |some vs=>
   rcases z.pQ _ _ q with q|q
   ·rw[x.tp]at q;cases q
   ·rw[e]at q;cases q
 old:=x.old
 kW:=fun y q e=>by obtain⟨o,W⟩:=x.kW y q e;exact z.live q o W
theorem dh.call{L':Addr}{bG:Heap}(k:∀b o,h.get? b=some o->bG.get? b=some o)(t:h.get? L'=none)(z:dh L' g bG g' h'):
  (∀L,dh L g h g' h')/\∀a o,h.get? a=some o->(∀n b,g.ad n b≠some a)->h'.get? a=some o:=by
 have p:∀a o,h.get? a=some o->(∀n b,g.ad n b≠some a)->h'.get? a=some o:=fun a o e j=>z.keep a o (k a o e) j fun q=>by rw[q,t]at e;cases e
 have no:∀a,bG.get? a=none->h.get? a=none:=fun a e=>by cases q:h.get? a with|none=>rfl|some o=>rw[k a o q]at e;cases e
 exact⟨fun L=>⟨z.ad,z.tp,fun n b a e=>(z.o8 n b a e).imp id (no a),fun a vs e=>(z.pQ a vs e).imp id (no a),fun a o e=>z.live a o (k a o e),fun a o e j _=>p a o e j⟩,p⟩
end
def yy(K:Frag)(C:Addr)(name:Str):Bool:=plainGet K C name&&hasDictIn K C&&(match findIn K (.ref C) name with|some e=>noGet K e|none=>false)&&
 (match findIn K (.ref C) "__setattr__" with|some (some v)=>v==.builtin "object.__setattr__"|_=>false)&&plainOver K C&&(match takerIn K C name with|some none=>true|_=>false)
def Bt(K:Frag)(C:Addr)(name:Str)(f:Addr):Bool:=plainGet K C name&&(match findIn K (.ref C) name with|some (some v)=>v==.ref f|_=>false)&&(match typeIn K (.ref f)with|some v=>v==.type "function"|none=>false)&&keepIn K (.ref f)
def EO(K:Frag)(C:Addr)(f:Addr):Bool:=makesIn K C&&(match findIn K (.ref C) "__init__" with|some (some v)=>v==.ref f|_=>false)&&(match typeIn K (.ref f)with|some v=>v==.type "function"|none=>false)&&keepIn K (.ref C)
structure Gd{H:Type}(c:Cx H):Prop where
 MQ:c.h₀.NoLimit
 sys:∃o,c.h₀.get? sysModules=some o
 zb:∀k,c.M.F.lo k<=c.N.zv k/\c.N.zv k<=c.M.F.hi k
 fact:∀o a b r,c.M.F.fact o a b c.M.F.op=some r->b.val c.N≠0/\(o=0->Int.fdiv (a.val c.N) (b.val c.N)=r.val c.N)/\(o=1->Int.fmod (a.val c.N) (b.val c.N)=r.val c.N)
 cls:∀a,∃i∈c.M.F.cl a,i<1000/\c.N.tab a=c.N.tab i
 tx:∀k W l,(k,W,l)∈c.M.F.tx->∃n s,(n,s)∈l/\c.N.zv k=n/\c.N.tab W=c.N.tab s
 cat:∀a b r,c.M.P.cat a b=some r->c.N.tab a++c.N.tab b=c.N.tab r/\(c.N.tab a).length+(c.N.tab b).length<=sizeLine
 IM:∀k,PyData.strOk (c.N.tab k)=true
 lit:∀a b,a<1000->b<1000->c.N.tab a=c.N.tab b->a=b
 sl:∀a b r,c.M.P.sl a b=some r->decide ((c.N.tab a).cps.toList<(c.N.tab b).cps.toList)=r
 chr:∀a n b,c.M.P.chr a n=some b->∃x,(c.N.tab a).cps[n]?=some x/\(c.N.tab b).cps=#[x]/\n<1000
 dec:∀i b,c.M.P.dec i=some b->0<=i/\i<1000/\Str.ofString (toString i)=c.N.tab b
 pM:c.K.In c.h₀
 OR:∀j,c.M.P.gv j≠ .no->∃v,c.N.gl (c.N.gn j)=some v/\cj c.N c.iz (c.M.P.gv j) v
 acc:∀i f,c.M.P.eE i f=true->yy c.K (c.N.cl i) (c.N.fd f)=true
 NB:∀i f f',c.M.P.eE i f=true->c.M.P.eE i f'=true->c.N.fd f=c.N.fd f'->f=f'
 ic:∀i m f,c.M.P.me i m=some f->Bt c.K (c.N.cl i) (c.N.md m) (c.N.fa f)=true/\∀f',c.M.P.eE i f'=true->c.N.fd f'≠c.N.md m
 make:∀i f,c.M.P.rp i=some f->EO c.K (c.N.cl i) (c.N.fa f)=true
 Y3:∀f d,c.M.P.fn f=some d->keepIn c.K (.ref (c.N.fa f))=true
 glob:∀x v,c.N.gl x=some v->∀(A:Around)(env:Env)(Q:cV)(E:cV)(s:Shared),env.globals=mainGlobals->env.builtins=builtinsNs->
  (∀a o,c.h₀.get? a=some o->s.heap.get? a=some o)->Q v s->wpAny c.md A (loadGlobal env x) Q E s
structure jj(env:Env)(nm:Nat->Option Str):Prop extends Frm env nm where
 EP:∀i y,nm i=some y->(y==("__debug__":Str))=false
 OS:∀i y,nm i=some y->(y==("__classdict__":Str))=false
structure Rm(A:Around)(n:Nat):Prop where
 hd:A.handled=none
 dp:A.depth+10*n+20<recursionLimit
 un:A.units+100*n+200<cLine
theorem Gd.word{H:Type}{c:Cx H}(gd:Gd c)(a b:Nat)(h:∀i∈c.M.F.cl a,∀j∈c.M.F.cl b,i≠j):c.N.tab a≠c.N.tab b:=by intro e;obtain⟨i,o,p,q⟩:=gd.cls a;obtain⟨j,k1,k2,k3⟩:=gd.cls b;exact h i o j k1 (gd.lit i j p k2 (by rw[←q,←k3,e]))
section
variable{H:Type}(c:Cx H)(A:Around)(env:Env)(nm:Nat->Option Str)
def dv(e:Expr)(x:X H V):Prop:=∀(Q:cV)(E:cV)(s:Shared)(g:G)(σ:St H)(l:L)(v:V)(bx:St H),
 Rel c g σ s.heap->Loc c env nm g s.heap l->x l σ=some (v,bx)->
 (∀g' h' tk u,dh env.locals g s.heap g' h'->Rel c g' bx h'->Loc c env nm g' h' l->cj c.N g' v u->Q u {s with heap:=h',toks:=tk})->
 wpAny c.md A (eval e env) Q E s
def nf(e:Expr)(x:X H Bool):Prop:=∀(Q:Bool->Shared->Prop)(E:cV)(s:Shared)(g:G)(σ:St H)(l:L)(v:Bool)(bx:St H),
 Rel c g σ s.heap->Loc c env nm g s.heap l->x l σ=some (v,bx)->
 (∀g' h' tk,dh env.locals g s.heap g' h'->Rel c g' bx h'->Loc c env nm g' h' l->Q v {s with heap:=h',toks:=tk})->
 wpAny c.md A (PySem.isTrue e env (eval e env)) Q E s
def qy(es:List Expr)(x:X H (List V)):Prop:=∀(pos:Pos)(Q:List Value->Shared->Prop)(E:cV)(s:Shared)(g:G)(σ:St H)(l:L)(v:List V)(bx:St H),
 Rel c g σ s.heap->Loc c env nm g s.heap l->x l σ=some (v,bx)->
 (∀g' h' tk u,dh env.locals g s.heap g' h'->Rel c g' bx h'->Loc c env nm g' h' l->cE c.N g' v u->u.length=es.length->Q u {s with heap:=h',toks:=tk})->
 wpAny c.md A (spliced (backTo pos (starEach es env))) Q E s
end
theorem cP{H α e:Type}{x:R H α}{f:α->St H->R H e}{r:e×St H}(h:bO x f=some r):∃a s,x=some (a,s)/\f a s=some r:=by cases x with|none=>cases h|some p=>exact⟨p.1,p.2,rfl,h⟩
theorem C2{H:Type}{x:Option V}{s e:St H}{v:V}(h:iX x s=some (v,e)):x=some v/\v≠ .no/\e=s:=by
 cases x with
 |none=>cases h
 |some u=>cases u<;>first|(cases h;done)|(cases h;exact⟨rfl,by simp,rfl⟩)
def jd:Expr->Bool
 |.Starred ..=>false
 |_=>true
theorem zl{e:Expr}{r:List Expr}{env:Env}(h:jd e=true):starEach (e::r) env=(false,eval e env)::starEach r env:=by cases e<;>first|(cases h;done)|rfl
section
variable{H:Type}{c:Cx H}{A:Around}{env:Env}{nm:Nat->Option Str}
theorem CM(v:V)(u:Const)(k:Nat)(pos:Pos)(h:∀{Q:cV}{E:cV}{s:Shared}{g:G},(∀w tk,cj c.N g v w->Q w {s with toks:=tk})->wpAny c.md A (constValue env u) Q E s):
  dv c A env nm (.Constant u k pos) (xC v):=by
 intro Q E s g σ l j bx R F e q;cases e;exact h fun w tk r=>q g s.heap tk w (.refl _ _ _) R F r
theorem TR(k:Nat)(pos:Pos):dv c A env nm (.Constant .none k pos) (xC .none):=CM _ _ _ _ fun h=>bU (h _ _ rfl)
theorem TS(b:Bool)(k:Nat)(pos:Pos):dv c A env nm (.Constant (.bool b) k pos) (xC (.bool b)):=CM _ _ _ _ fun h=>bU (h _ _ rfl)
theorem LR(i:Int)(k:Nat)(pos:Pos):dv c A env nm (.Constant (.int i) k pos) (xC (.int (.l i))):=CM _ _ _ _ fun h=>wpAny_mkInt (h _ _ ⟨_,rfl⟩)
theorem U1(i:Nat)(t:Str)(k:Nat)(pos:Pos)(e:c.N.tab i=t):dv c A env nm (.Constant (.str t) k pos) (xC (.str i)):=
 CM _ _ _ _ fun h=>wpAny_mkText (h _ _ ⟨_,by rw[e]⟩)
theorem SO(f:jj env nm)(i:Nat)(y:Str)(pos:Pos)(hi:nm i=some y):dv c A env nm (.Name y pos) (xL i):=by
 intro Q E s g σ l v bx R F e q;obtain⟨z,B,rfl⟩:=C2 e;obtain⟨m,I,r⟩:=F.ns;rcases r i v y z B hi with⟨p,u,q1,t⟩|⟨p|p,a,u,j,o,J,x⟩
 ·exact wpAny_Name (wpAny_loadName_local f.kind p I q1 (q g s.heap s.toks u (.refl _ _ _) R F t)) (f.EP i y hi)
 ·exact wpAny_Name (wpAny_loadName_cell f.kind p j o (q g s.heap s.toks u (.refl _ _ _) R F x)) (f.EP i y hi)
 ·exact wpAny_Name (wpAny_loadName_free f.kind p j o (q g s.heap s.toks u (.refl _ _ _) R F x) (f.OS i y hi)) (f.EP i y hi)
theorem U2:qy c A env nm [] xN:=by intro pos Q E s g σ l v bx R F e q;cases e;exact bU (q g s.heap s.toks [] (.refl _ _ _) R F rfl rfl)
theorem TU{e:Expr}{r:List Expr}{x:X H V}{y:X H (List V)}(hn:jd e=true)(h:dv c A env nm e x)(k:qy c A env nm r y):qy c A env nm (e::r) (xK x y):=by
 intro pos Q E s g σ l v bx R F o q;obtain⟨a,S,e1,o⟩:=cP o;obtain⟨b,U,e2,o⟩:=cP o;cases o;rw[zl hn];show wpAny _ _ (spliced ((false,eval e env)::backTo pos (starEach r env))) Q E s
 unfold spliced;refine bC (h _ _ _ _ _ _ _ _ R F e1 fun W bG Y u p t z B=>?_);refine bC (bU (bC (iy (k pos _ _ _ _ _ _ _ _ t z e2 fun Z aa ab us j I J K O=>?_))));exact bU (q _ _ _ _ (p.trans j) I J ⟨u,us,rfl,j.mf B,K⟩ (by simp[O]))
theorem Loc.grow{g:G}{h h':Heap}{l:L}(x:Loc c env nm g h l)(k:∀b o,h.get? b=some o->h'.get? b=some o):Loc c env nm g h' l:=x.da (.grow k) fun o e=>k _ o e
theorem LS{n m:Nat}(h:n=m)(k:m<=1000):n<=sizeLine:=by rw[v9];omega
theorem rH{n:Nat}(k:n<=bu):n<=sizeLine:=by rw[v9];unfold bu at k;omega
theorem SP{es:List Expr}{x:X H (List V)}(k:Nat)(pos:Pos)(W:es.length<=1000)(h:qy c A env nm es x):dv c A env nm (.Tuple es k pos) (EI x):=by
 intro Q E s g σ l v bx R F J q;obtain⟨a,K,Y,J⟩:=cP J;cases J;refine Tuple_ (h pos _ _ _ _ _ _ _ _ R F Y fun O bG S us p t y z B=>?_);refine xR ?_ (LS (by simpa using B) W);have U:∀b o,bG.get? b=some o->(bG.push {cls:=.type "tuple",data:=.seq us.toArray}).get? b=some o:=fun b o e=>iV _ e
 obtain⟨I,j⟩:=t.tuple (L:=env.locals) (vs:=us) m4 U ⟨_,kO _ rfl,rfl,0,rfl⟩;exact q _ _ _ _ (p.trans j) I (y.da j fun o e=>U _ o e) ⟨_,us,rfl,G.zy,j.sP z⟩
theorem Sa{M:Mc H}{a:Ad}{o:O}{σ bx:St H}{v:V}(h:ya M a o σ=some (v,bx)):
  v=.ref a/\M.get σ.h a=.free/\M.ok a=true/\a.live=true/\bx=⟨M.set σ.h a o,σ.nx+1⟩:=by
 unfold ya at h;cases q:M.get σ.h a with
 |free=>simp only[q]at h;cases p:(M.ok a&&a.live&&Nat.blt σ.nx bu)with|false=>rw[p]at h;cases h|true=>rw[p]at h;cases h;simp only[cY]at p;exact⟨rfl,rfl,p.1.1,p.1.2,rfl⟩
 |_=>simp only[q]at h;cases h
theorem zJ{M:Mc H}{k:Option Nat}{o:O}{σ bx:St H}{v:V}(h:new M k o σ=some (v,bx)):
  ∃a,v=.ref a/\M.get σ.h a=.free/\M.ok a=true/\a.live=true/\bx=⟨M.set σ.h a o,σ.nx+1⟩:=by
 cases k<;>exact⟨_,Sa h⟩
theorem xA(gd:Gd c){g:G}{σ bx:St H}{h:Heap}{l:L}{k:Option Nat}{o:O}{v:V}{ob:Obj}(R:Rel c g σ h)(F:Loc c env nm g h l)(q:new c.M k o σ=some (v,bx))
  (x:∀n,dh env.locals g h (g.put n h.objs.size none) (h.push ob)->gS c (g.put n h.objs.size none) (h.push ob) n o):
  ∃g',dh env.locals g h g' (h.push ob)/\Rel c g' bx (h.push ob)/\Loc c env nm g' (h.push ob) l/\cj c.N g' v (.ref h.objs.size):=by
 obtain⟨n,rfl,hf,ho,hl,rfl⟩:=zJ q;have z:=R.obj n;rw[hf]at z;have T:dh env.locals g h (g.put n h.objs.size none) (h.push ob):=by
  refine⟨fun m b a e=>?_,fun _ _ e=>e,fun m b a e=>?_,fun _ _ e=>.inl e,fun a o e=>⟨o,iV _ e⟩,fun a o e _ _=>iV _ e⟩
  ·by_cases j:m=n
   ·subst j;cases b<;>simp_all [gS]
   ·rw[G.qW j];exact e
  ·by_cases j:m=n
   ·subst j;cases b with|false=>rw[G.ka]at e;cases e;exact .inr m4|true=>rw[G.kM]at e;cases e
   ·rw[G.qW j]at e;exact .inl e
 obtain⟨t,p⟩:=R.push (L:=env.locals) (k:=σ.nx+1) hf ho gd.sys (x n T);exact⟨_,p,t,F.da p fun o e=>iV _ e,_,rfl,G.ka⟩
theorem GC{g g':G}{h:Heap}{n:Ad}{us:List Value}{vs:List V}(T:dh env.locals g h g' (h.push {cls:=.type "list",data:=.seq us.toArray}))(e:g'.ad n false=some h.objs.size)(j:g'.ad n true=none)
  (r:cE c.N g vs us) (o:vs.length<=bu):gS c g' (h.push {cls:=.type "list",data:=.seq us.toArray}) n (.list vs):=
 ⟨_,_,_,e,j,kO _ rfl,by simpa using T.sP r,o⟩
theorem TV(gd:Gd c){es:List Expr}{x:X H (List V)}(k:Option Nat)(pos:Pos)(W:es.length<=1000)(h:qy c A env nm es x):dv c A env nm (.List es pos) (Oz c.M k x):=by
 intro Q E s g σ l v bx R F J q;obtain⟨a,K,Y,J⟩:=cP J;refine List_ (h pos _ _ _ _ _ _ _ _ R F Y fun O bG S us j o p e t=>?_);refine xR ?_ (LS (by simpa using t) W);obtain⟨U,y,z,B,I⟩:=xA gd (ob:={cls:=.type "list",data:=.seq us.toArray}) o p J fun n T=>GC T G.ka G.kM e (by have:=cE.len e;unfold bu;omega)
 exact q _ _ _ _ (j.trans y) z B I
end
def ER:Bo->Operator
 |.add=>.Add
 |.sub=>.Sub
 |.mul=>.Mult
 |.div=>.FloorDiv
 |.mod=>.Mod
 |.band=>.BitAnd
theorem Gf{z:Int}:small z=true↔-1000000<z/\z<1000000:=by simp[small]
theorem Ry{a:Int}(h:small a=true):Builtin.Int.intBits a<=64:=by rw[Gf]at h;exact intBits_le_64 (by omega) (by omega)
theorem Wl{a b:Int}(h:small a=true):IntMulOk a b:=by unfold IntMulOk;have:=Ry h;simp[shortFactorBits];omega
theorem Sb(a b:Nat):Builtin.bitAnd (.ofNat a) (.ofNat b)=.ofNat (Nat.land a b):=by unfold Builtin.bitAnd;have e:(0:Int)<=Int.ofNat a:=Int.natCast_nonneg a;have j:(0:Int)<=Int.ofNat b:=Int.natCast_nonneg b;rw[oJ e,oJ j];rfl
section
variable{H:Type}{c:Cx H}{A:Around}{E:cV}{s:Shared}{Q:cV}
theorem SQ(gd:Gd c){o:Bo}{x y z:Z}{t u:Tok}(h:hV c.M.F o x y=some z)(q:∀tk j,Q (.int (z.val c.N) j) {s with toks:=tk}):
  wpAny c.md A (binaryOp (ER o) (.int (x.val c.N) t) (.int (y.val c.N) u)) Q E s:=by
 have J:∀{a b r:Int},b≠0->small b=true->Int.fdiv a b=r->(∀tk j,Q (.int r j) {s with toks:=tk})->wpAny c.md A (binaryOp .FloorDiv (.int a t) (.int b u)) Q E s:=fun B hs e q=>floordiv_int B (e▸q _ _) (.inl (PyProof.noPylong_small (by have:=Gf.mp hs;omega)))
 have md:∀{a b r:Int},b≠0->Int.fmod a b=r->(∀tk j,Q (.int r j) {s with toks:=tk})->wpAny c.md A (binaryOp .Mod (.int a t) (.int b u)) Q E s:=fun B e q=>mod_int' B (e▸q _ _)
 have ad:∀{a b r:Int},a+b=r->(∀tk j,Q (.int r j) {s with toks:=tk})->wpAny c.md A (binaryOp .Add (.int a t) (.int b u)) Q E s:=fun e q=>add_int (e▸q _ _)
 have K:∀{a b r:Int},a-b=r->(∀tk j,Q (.int r j) {s with toks:=tk})->wpAny c.md A (binaryOp .Sub (.int a t) (.int b u)) Q E s:=fun e q=>sub_int (e▸q _ _)
 cases o with
 |add=>cases x<;>cases y<;>first|(cases h;done)|(cases h;refine ad ?_ q;simp only[Z.val];try omega)
 |sub=>cases x<;>cases y<;>first|(cases h;done)|(cases h;refine K ?_ q;simp only[Z.val];try omega)
 |mul=>
  cases x with
  |y=>cases h
  |l a=>cases y with
   |y=>cases h
   |l b=>simp only[hV]at h;cases p:(small a&&small b)with|false=>rw[p]at h;cases h|true=>rw[p]at h;cases h;exact mul_int (q _ _) (Wl (Bool.and_eq_true_iff.mp p).1)
 |div=>
  cases y with
  |y=>cases x<;>cases h
  |l b=>cases x with
   |l a=>simp only[hV]at h;cases p:(b==0||!(small b))with|true=>rw[p]at h;cases h|false=>rw[p]at h;cases h;simp only[DE,km,Bool.not_eq_false']at p;exact J p.1 p.2 rfl q
   |y k d=>simp only[hV]at h;cases p:small b with|false=>rw[p]at h;cases h|true=>rw[p]at h;obtain⟨I,O,_⟩:=gd.fact _ _ _ _ h;exact J I p (O rfl) q
 |mod=>
  cases y with
  |y=>cases x<;>cases h
  |l b=>cases x with
   |l a=>simp only[hV]at h;cases p:(b==0)with|true=>rw[p]at h;cases h|false=>rw[p]at h;cases h;exact md (by simpa[Z.val]using p) rfl q
   |y k d=>obtain⟨I,_,S⟩:=gd.fact _ _ _ _ h;exact md I (S rfl) q
 |band=>
  cases x with
  |y=>cases y<;>cases h
  |l a=>cases y with
   |y=>cases a<;>cases h
   |l b=>cases a<;>cases b<;>first|(cases h;done)|(cases h;refine and_int ?_;simp only[Z.val];rw[Sb];exact q _ _)
theorem RV{prog:Program}{w:World}{A:Around}{E:cV}{s:Shared}{Q:cV}{l b:Addr}{vs e:Array Value}{n n':Nat}
  (hl:s.heap.get? l=some {cls:=.type "list",data:=.seq vs n}) (j:s.heap.get? b=some {cls:=.type "list",data:=.seq e n'}) (hsz:vs.size+e.size<=sizeLine)
  (h:Q (.ref s.heap.objs.size) {s with heap:=s.heap.push {cls:=.type "list",data:=.seq (vs++e)}}):wpAny (model prog w) A (binaryOp .Add (.ref l) (.ref b)) Q E s:=
 concat_meets ⟨_,hl,rfl⟩ ⟨_,j,rfl⟩ noFill_list_add seq_list_add PySem.F.slot_list_add PySem.F.entry_list_add (PySem.F.args_list_add_2 _ _) (list_addW l b vs e n n' none none #[] #[] hsz) ⟨hl,j,h⟩
theorem RH{prog:Program}{w:World}{A:Around}{E:cV}{s:Shared}{Q:cV}{l:Addr}{eD:Array Value}{x:Int}{k:Nat}{u:Tok}
  (hl:s.heap.get? l=some {cls:=.type "list",data:=.seq eD k}) (e:-(2^63:Int)<=x) (j:x<2^63) (hsz:eD.size*x.toNat<=2^24)
  (h:Q (.ref s.heap.objs.size) {s with heap:=s.heap.push {cls:=.type "list",data:=.seq (List.foldl (fun o p=>o++p) #[] (List.replicate (if eD.isEmpty=true then 0 else x.toNat) eD))}}):
  wpAny (model prog w) A (binaryOp .Mult (.ref l) (.int x u)) Q E s:=
 wpAny_binaryOp_repeat_ref (T:="list") (U:="int") (by decide) ⟨_,hl,rfl⟩ (fun q=>typeIs_int q x u) noFill_list_mul PySem.F.fills_int_mul PySem.F.slot_int_rmul repeat_list PySem.F.slot_int_index.lookup
  (call_meets PySem.F.slot_int_rmul (typeIs_int s x u) PySem.F.entry_int_rmul (PySem.F.args_int_rmul_2 _ _) (int___rmul___int_list x u l eD k)
   ⟨hl,rfl,⟨_,hl,rfl⟩,call_meets PySem.F.slot_list_mul ⟨_,hl,rfl⟩ PySem.F.entry_list_mul (PySem.F.args_list_mul_2 _ _)
    (AutoListH.list___mul___list_int_3 l eD k x u (by simp[Builtin.List.listFitsIndex];omega) (by omega) (by simp[Builtin.List.listTooLong,sizeLine];omega)) ⟨hl,h⟩⟩)
theorem RW{prog:Program}{w:World}{A:Around}{E:cV}{s:Shared}{Q:cV}{l:Addr}{v:Value}{n k:Nat}{u:Tok}
  (hl:s.heap.get? l=some {cls:=.type "list",data:=.seq #[v] k}) (z:n<1000000)
  (h:Q (.ref s.heap.objs.size) {s with heap:=s.heap.push {cls:=.type "list",data:=.seq (List.replicate n v).toArray}}):wpAny (model prog w) A (binaryOp .Mult (.ref l) (.int (.ofNat n) u)) Q E s:=by
 have p:((Int.ofNat n):Int)=(n:Int):=rfl;have q:(Int.ofNat n).toNat=n:=rfl;have t:(#[v]:Array Value).size=1:=rfl;refine RH hl (by rw[p];omega) (by rw[p];omega) (by rw[t,q];omega) ?_;have e:List.foldl (fun(j o:Array Value)=>j++o) #[] (List.replicate (if(#[v]:Array Value).isEmpty=true then 0 else(Int.ofNat n).toNat) #[v])=(List.replicate n v).toArray:=by
  have go:∀(n:Nat)(acc:Array Value),List.foldl (fun(j o:Array Value)=>j++o) acc (List.replicate n #[v])=acc++(List.replicate n v).toArray:=by
   intro n
   induction n with|zero=>intro acc;simp|succ n x=>intro acc;rw[List.replicate_succ,tG,x,List.replicate_succ];apply Array.ext';simp
  have y:(#[v]:Array Value).isEmpty=false:=rfl;rw[y,bL xS,go,q];simp
 rw[e];exact h
theorem cE.rep{N:Nm}{g:G}{x:V}{v:Value}(h:cj N g x v):∀n:Nat,cE N g (List.replicate n x) (List.replicate n v)
 |0=>rfl
 |n+1=>⟨v,_,rfl,h,cE.rep h n⟩
theorem mD{m n:Nat}:Nat.blt m n=true↔m<n:=⟨fun h=>nU h,fun h=>Am h⟩
theorem gZ{α:Type}{b:Bool}{x:Option α}{r:α}(h:(bif b then x else none)=some r):b=true/\x=some r:=by cases b with|true=>exact⟨rfl,h⟩|false=>cases h
theorem SR(gd:Gd c){env:Env}{nm:Nat->Option Str}{o:Bo}{x y v:V}{σ bx:St H}{g:G}{l:L}{a b:Value}(R:Rel c g σ s.heap)(F:Loc c env nm g s.heap l)
  (ha:cj c.N g x a) (W:cj c.N g y b) (h:q9 c.M o x y σ=some (v,bx))
  (q:∀g' h' tk u,dh env.locals g s.heap g' h'->Rel c g' bx h'->Loc c env nm g' h' l->cj c.N g' v u->Q u {s with heap:=h',toks:=tk}):
  wpAny c.md A (binaryOp (ER o) a b) Q E s:=by
 cases x with
 |int x=>
  cases y with
  |int y=>obtain⟨t,rfl⟩:=ha;obtain⟨u,rfl⟩:=W;simp only[q9]at h;cases p:hV c.M.F o x y with|none=>rw[p]at h;cases h|some z=>rw[p]at h;cases h;exact SQ gd p fun tk t'=>q g s.heap tk _ (.refl _ _ _) R F ⟨t',rfl⟩
  |_=>cases h
 |str x=>
  cases y with
  |str y=>
   obtain⟨t,rfl⟩:=ha;obtain⟨u,rfl⟩:=W;cases o with
   |add=>simp only[q9]at h;cases p:c.M.P.cat x y with|none=>rw[p]at h;cases h|some z=>rw[p]at h;cases h;obtain⟨Y,f2⟩:=gd.cat _ _ _ p;exact add_str (fun t' tk=>q g s.heap tk _ (.refl _ _ _) R F ⟨t',by rw[Y]⟩) f2
   |_=>cases h
  |_=>cases h
 |ref x=>
  cases y with
  |ref y=>
   cases o with
   |add=>
    obtain⟨a',rfl,ea⟩:=ha;obtain⟨b',rfl,eb⟩:=W;simp only[q9,D5]at h;have K:=R.obj x;have zb:=R.obj y;cases O:c.M.get σ.h x with
    |list l1=>
     rw[O]at h K;cases p2:c.M.get σ.h y with
     |list l2=>
      rw[p2]at h zb;obtain⟨a1,vs,k,S,_,e3,Z,_⟩:=K;obtain⟨b1,ws,k',Y,_,f3,f4,_⟩:=zb;rw[ea]at S;cases S;rw[eb]at Y;cases Y;obtain⟨hl,h⟩:=gZ h;rw[mD]at hl;have n1:=cE.len Z;have n2:=cE.len f4;simp only[qo]at n1 n2;refine RV e3 f3 (by rw[v9];unfold bu at hl;omega) ?_;have e:vs++ws=(vs.toList++ws.toList).toArray:=by simp
      rw[e];obtain⟨U,j,B,I,J⟩:=xA gd R F h fun n T=>GC T G.ka G.kM (cE.append Z f4) (by simp;omega)
      exact q _ _ _ _ j B I J
     |_=>rw[p2]at h;cases h
    |_=>rw[O]at h;cases h
   |_=>cases h
  |int y=>
   cases y with
   |y=>cases h
   |l i=>
    cases i with
    |negSucc=>cases h
    |ofNat n=>
     cases o with
     |mul=>
      obtain⟨a',rfl,ea⟩:=ha;obtain⟨u,rfl⟩:=W;simp only[q9,NA]at h;have K:=R.obj x;cases O:c.M.get σ.h x with
      |list l1=>
       rw[O]at h K;obtain⟨a1,vs,k,S,_,e3,Z,_⟩:=K;rw[ea]at S;cases S;cases l1 with
       |nil=>cases h
       |cons v0 r0=>cases r0 with
        |cons=>cases h
        |nil=>
         obtain⟨hl,h⟩:=gZ h;rw[mD]at hl;obtain⟨w0,r1,e5,e6,e7⟩:=Z;have aa:r1=[]:=e7;subst aa;obtain rfl:vs=#[w0]:=Array.ext' e5;refine RW e3 (by unfold bu at hl;omega) ?_;obtain⟨U,j,B,I,J⟩:=xA gd R F h fun n' T=>GC T G.ka G.kM (cE.rep e6 n) (by simp;omega)
         exact q _ _ _ _ j B I J
      |_=>rw[O]at h;cases h
     |_=>cases h
  |_=>cases h
 |_=>cases h
end
section
variable{H:Type}{c:Cx H}{A:Around}{env:Env}{nm:Nat->Option Str}
theorem U3(gd:Gd c){o:Bo}{a b:Expr}{x y:X H V}(op:Operator)(pos:Pos)(ho:op=ER o)(h:dv c A env nm a x)(k:dv c A env nm b y):dv c A env nm (.BinOp a op b pos) (Ox c.M o x y):=by
 intro Q E s g σ l v bx R F j q;obtain⟨v1,Y,e1,j⟩:=cP j;obtain⟨v2,Z,e2,j⟩:=cP j;subst ho;refine wpAny_BinOp (h _ _ _ _ _ _ _ _ R F e1 fun aa bG ab ae p t z B=>?_);refine k _ _ _ _ _ _ _ _ t z e2 fun af ag ah ai e I J K=>?_
 exact SR gd I J (e.mf B) K j fun aj ak al am O S U W=>q _ _ _ _ ((p.trans e).trans O) S U W
theorem LU{a:Expr}{x:X H V}(pos:Pos)(h:dv c A env nm a x):dv c A env nm (.UnaryOp .USub a pos) (Oy x):=by
 intro Q E s g σ l v bx R F e q;obtain⟨S,I,U,e⟩:=cP e;refine wpAny_UnaryOp (h _ _ _ _ _ _ _ _ R F U fun J bG K O j o p B=>?_);cases S with
 |int z=>cases z with|l i=>cases e;obtain⟨t,rfl⟩:=B;exact neg_int (q _ _ _ _ j o p ⟨_,rfl⟩)|y=>cases e
 |_=>cases e
end
mutual
def pd(N:Nm):V->PyData
 |.none=>.none
 |.bool b=>.bool b
 |.int z=>.int (z.val N)
 |.str k=>.str (N.tab k)
 |.tup l=>.tuple (iY N l)
 |.lst l=>.list (iY N l)
 |_=>.none
termination_by structural x=>x
def iY(N:Nm):List V->List PyData
 |[]=>[]
 |x::xs=>pd N x::iY N xs
termination_by structural x=>x
end
section
variable{H:Type}{c:Cx H}
theorem zz(gd:Gd c){a b:Z}{r:Bool}(h:qC c.M.F a b=some r):(a.val c.N==b.val c.N)=r:=by
 cases a with
 |l i=>
  cases b with
  |l j=>cases h;rfl
  |y k d=>simp only[qC]at h;cases p:(decide (i-d<c.M.F.lo k)||decide (c.M.F.hi k<i-d))with|false=>rw[p]at h;cases h|true=>rw[p]at h;cases h;have:=gd.zb k;simp only[m7,iG]at p;simp only[Z.val,km,ne_eq];omega
 |y k d=>
  cases b with
  |l i=>simp only[qC]at h;cases p:(decide (i-d<c.M.F.lo k)||decide (c.M.F.hi k<i-d))with|false=>rw[p]at h;cases h|true=>rw[p]at h;cases h;have:=gd.zb k;simp only[m7,iG]at p;simp only[Z.val,km,ne_eq];omega
  |y o q=>
   simp only[qC]at h;cases p:Nat.beq k o with
   |false=>rw[p]at h;cases h
   |true=>
    rw[p]at h;cases h;have:=gc.mp p;subst this;simp only[Z.val]
    by_cases e:d=q
    ·subst e;simp
    ·rw[km.mpr e];simp only[km];omega
theorem CN(gd:Gd c){a b:Z}{r:Bool}(h:u7 c.M.F a b=some r):decide (a.val c.N<b.val c.N)=r:=by
 cases a with
 |l i=>
  cases b with
  |l j=>cases h;rfl
  |y k d=>
   have:=gd.zb k;simp only[u7]at h;cases p:decide (i<c.M.F.lo k+d)with
   |true=>rw[p]at h;cases h;exact oJ (by simp only[iG]at p;show i<c.N.zv k+d;omega)
   |false=>rw[p]at h;cases q:decide (c.M.F.hi k+d<=i)with|true=>rw[q]at h;cases h;exact m9 (by simp only[iG]at q;show¬i<c.N.zv k+d;omega)|false=>rw[q]at h;cases h
 |y k d=>
  have:=gd.zb k;cases b with
  |l i=>
   simp only[u7]at h;cases p:decide (c.M.F.hi k+d<i)with
   |true=>rw[p]at h;cases h;exact oJ (by simp only[iG]at p;show c.N.zv k+d<i;omega)
   |false=>rw[p]at h;cases q:decide (i<=c.M.F.lo k+d)with|true=>rw[q]at h;cases h;exact m9 (by simp only[iG]at q;show¬c.N.zv k+d<i;omega)|false=>rw[q]at h;cases h
  |y=>cases h
theorem Sd(gd:Gd c){a b:Nat}{r:Bool}(h:wa c.M.F a b=some r):(c.N.tab a==c.N.tab b)=r:=by unfold wa at h;cases p:Nat.beq a b with|true=>rw[p]at h;cases h;rw[gc.mp p];exact vR _|false=>rw[p]at h;obtain⟨q,h⟩:=gZ h;cases h;refine km.mpr (gd.word a b fun i hi j o e=>?_);have:=gR.mp (gR.mp q i hi) j o;rw[gc.mpr e]at this;cases this
mutual
theorem CP(gd:Gd c):∀(a b:V)(r:Bool),eqv c.M.F a b=some r->PyData.eqv (pd c.N a) (pd c.N b)=r
 |.none,b,r,h=>by cases b<;>first|(cases h;done)|(cases h;rfl)
 |.bool x,b,r,h=>by
  cases b with
  |int z=>have:=zz gd h;cases x<;>exact this
  |_=>first|(cases h;done)|(cases h;rfl)
 |.int x,b,r,h=>by
  cases b with
  |int z=>exact zz gd h
  |bool y=>have:=zz gd h;cases y<;>exact this
  |_=>first|(cases h;done)|(cases h;rfl)
 |.str x,b,r,h=>by
  cases b with
  |str z=>exact Sd gd h
  |_=>first|(cases h;done)|(cases h;rfl)
 |.tup x,b,r,h=>by
  cases b with
  |tup y=>exact F4 gd x y r h
  |_=>first|(cases h;done)|(cases h;rfl)
 |.lst x,b,r,h=>by
  cases b with
  |lst y=>exact F4 gd x y r h
  |_=>first|(cases h;done)|(cases h;rfl)
 |.no,_,_,h=>by cases h
 |.ref _,_,_,h=>by cases h
theorem F4(gd:Gd c):∀(a b:List V)(r:Bool),nV c.M.F a b=some r->PyData.eqvAll (iY c.N a) (iY c.N b)=r
 |[],b,r,h=>by cases b<;>(cases h;rfl)
 |x::xs,b,r,h=>by
  cases b with
  |nil=>cases h;rfl
  |cons y ys=>
   simp only[nV]at h;cases p:eqv c.M.F x y with
   |none=>rw[p]at h;cases h
   |some q=>
    rw[p]at h;have e:=CP gd x y q p;show(PyData.eqv (pd c.N x) (pd c.N y)&&PyData.eqvAll (iY c.N xs) (iY c.N ys))=r
    rw[e];cases q with|true=>rw[mE];exact F4 gd xs ys r h|false=>cases h;rfl
end
def IP(c:Cx H)(g:G)(h:Heap)(r:Nat->Ad->Option V):Prop:=∀n a y,r n a=some y->∀v,cj c.N g (.ref a) v->(∃as,Reads h v (pd c.N y) as)/\(pd c.N y).canLay0=true/\(pd c.N y).depth<=n
mutual
theorem F5(gd:Gd c){g:G}{σ:St H}{h:Heap}(R:Rel c g σ h){r:Nat->Ad->Option V}(hr:IP c g h r):∀(x:V)(n:Nat)(y:V),nW r x n=some y->∀v,cj c.N g x v->
  (∃as,Reads h v (pd c.N y) as)/\(pd c.N y).canLay0=true/\(pd c.N y).depth<=n
 |.none,n,y,e,v,w=>by cases e;cases w;exact⟨⟨[],.none⟩,rfl,mF _⟩
 |.bool b,n,y,e,v,w=>by cases e;cases w;exact⟨⟨[],.bool b⟩,rfl,mF _⟩
 |.int z,n,y,e,v,w=>by cases e;obtain⟨t,rfl⟩:=w;exact⟨⟨[],.int _ t⟩,rfl,mF _⟩
 |.str k,n,y,e,v,w=>by cases e;obtain⟨t,rfl⟩:=w;exact⟨⟨[],.str _ t⟩,gd.IM k,mF _⟩
 |.tup l,n,y,e,v,w=>by
  obtain⟨a,vs,rfl,j,hl⟩:=w;cases n with
  |zero=>cases e
  |succ n=>simp only[nW]at e;cases p:nO r l n with|none=>rw[p]at e;cases e|some B=>rw[p]at e;cases e;obtain⟨o,I,J,k,K⟩:=R.tup a vs j;obtain⟨⟨as,q⟩,q2,q3⟩:=FZ gd R hr l n B p vs hl;exact⟨⟨as,.tuple I J K (by simpa using q)⟩,q2,Nat.succ_le_succ q3⟩
 |.ref a,n,y,e,v,w=>hr n a y e v w
 |.no,_,_,e,_,_=>by cases e
 |.lst _,_,_,e,_,_=>by cases e
theorem FZ(gd:Gd c){g:G}{σ:St H}{h:Heap}(R:Rel c g σ h){r:Nat->Ad->Option V}(hr:IP c g h r):∀(x:List V)(n:Nat)(y:List V),nO r x n=some y->∀v,cE c.N g x v->
  (∃as,ReadsAll h v (iY c.N y) as)/\PyData.canLayAll0 (iY c.N y)=true/\PyData.depthAll (iY c.N y)<=n
 |[],n,y,e,v,w=>by cases e;cases w;exact⟨⟨[],.nil⟩,rfl,mF _⟩
 |x::xs,n,y,e,v,w=>by
  obtain⟨u,us,rfl,o,t⟩:=w;simp only[nO]at e;cases p:nW r x n with
  |none=>rw[p]at e;cases e
  |some z=>
   rw[p]at e;cases q:nO r xs n with
   |none=>rw[q]at e;cases e
   |some j=>
    rw[q]at e;cases e;obtain⟨⟨as,a1⟩,B,a3⟩:=F5 gd R hr x n z p u o;obtain⟨⟨O,I⟩,J,K⟩:=FZ gd R hr xs n j q us t;refine⟨⟨_,.cons a1 I⟩,?_,Nat.max_le.mpr ⟨a3,K⟩⟩;show(PyData.canLay0 _&&PyData.canLayAll0 _)=true
    rw[B,J];rfl
end
theorem Gg(gd:Gd c){g:G}{σ:St H}{h:Heap}(R:Rel c g σ h):∀k,IP c g h (mi c.M.toHOps σ.h k)
 |0=>fun n a y e=>by cases e
 |k+1=>fun n a y e v w=>by
  obtain⟨b,rfl,o⟩:=w;simp only[mi]at e;have z:=R.obj a;cases p:c.M.get σ.h a with
  |list l=>
   rw[p]at z;simp only[p]at e;cases n with
   |zero=>cases e
   |succ n=>simp only at e;cases q:nO (mi c.M.toHOps σ.h k) l n with|none=>rw[q]at e;cases e|some t=>rw[q]at e;cases e;obtain⟨a1,vs,i,j,_,x,B,_⟩:=z;rw[o]at j;cases j;obtain⟨⟨as,r1⟩,I,J⟩:=FZ gd R (Gg gd R k) l n t q _ B;exact⟨⟨_,.list x rfl rfl r1⟩,I,Nat.succ_le_succ J⟩
  |_=>simp only[p]at e;cases e
variable{A:Around}{E:cV}{s:Shared}
theorem Rm.units{n:Nat}(r:Rm A n):A.units+100<cLine:=by have:=r.un;omega
theorem SS(gd:Gd c){n:Nat}(rm:Rm A n){g:G}{σ:St H}(R:Rel c g σ s.heap){a b:V}{r:Bool}{u v:Value}(h:qD c.M σ.h a b=some r)(ha:cj c.N g a u)(t:cj c.N g b v):
  ∃e j as o,Reads s.heap u e as/\Reads s.heap v j o/\e.canLay0=true/\j.canLay0=true/\A.units+min e.depth j.depth<cLine/\PyData.eqv e j=r:=by
 unfold qD at h;cases p:nW (mi c.M.toHOps σ.h 3) a 20 with
 |none=>rw[p]at h;cases h
 |some x=>rw[p]at h;cases q:nW (mi c.M.toHOps σ.h 3) b 20 with|none=>rw[q]at h;cases h|some y=>rw[q]at h;obtain⟨⟨as,r1⟩,z,J⟩:=F5 gd R (Gg gd R 3) a 20 x p u ha;obtain⟨⟨o,B⟩,I,K⟩:=F5 gd R (Gg gd R 3) b 20 y q v t;refine⟨_,_,as,o,r1,B,z,I,?_,CP gd x y r h⟩;have:=rm.units;have:=An (pd c.N x).depth (pd c.N y).depth;omega
end
mutual
def canon:PyData->Nat->Option PyData
 |.int i,_=>some (.int i)
 |.bool b,_=>some (.int (bif b then 1 else 0))
 |.str s,_=>some (.str s)
 |.tuple l,n=>match n with
  |0=>none
  |n+1=>match m5 l n with|some e=>some (.tuple e)|none=>none
 |_,_=>none
termination_by structural x=>x
def m5:List PyData->Nat->Option (List PyData)
 |[],_=>some []
 |x::xs,n=>match canon x n with
  |some k=>match m5 xs n with|some ks=>some (k::ks)|none=>none
  |none=>none
termination_by structural x=>x
end
mutual
def draws:PyData->Nat
 |.tuple l=>Du l+1
 |_=>1
termination_by structural x=>x
def Du:List PyData->Nat
 |[]=>0
 |x::xs=>draws x+Du xs
termination_by structural x=>x
end
theorem tg{l:List PyData}{n:Nat}{k:PyData}(h:canon (.tuple l) n=some k):∃m e,n=m+1/\m5 l m=some e/\k=.tuple e:=by
 cases n with
 |zero=>cases h
 |succ m=>simp only[canon]at h;cases p:m5 l m with|none=>rw[p]at h;cases h|some e=>rw[p]at h;cases h;exact⟨m,e,rfl,p,rfl⟩
theorem vz{x:PyData}{l:List PyData}{n:Nat}{k:List PyData}(h:m5 (x::l) n=some k):∃y r,canon x n=some y/\m5 l n=some r/\k=y::r:=by
 simp only[m5]at h;cases p:canon x n with
 |none=>rw[p]at h;cases h
 |some y=>rw[p]at h;cases q:m5 l n with|none=>rw[q]at h;cases h|some r=>rw[q]at h;cases h;exact⟨y,r,rfl,rfl,rfl⟩
mutual
theorem Gh:∀(x y:PyData)(n m:Nat)(k j:PyData),canon x n=some k->canon y m=some j->(PyData.eqv x y=true↔k=j)
 |.int a,y,n,m,k,j,h,h'=>by cases h;cases y with|int b=>cases h';simp[PyData.eqv]|bool b=>cases h';cases b<;>simp[PyData.eqv]|str=>cases h';simp[PyData.eqv]|tuple=>obtain⟨_,_,_,_,rfl⟩:=tg h';simp[PyData.eqv]|_=>cases h'
 |.bool a,y,n,m,k,j,h,h'=>by cases h;cases y with|int b=>cases h';cases a<;>simp[PyData.eqv]|bool b=>cases h';cases a<;>cases b<;>simp[PyData.eqv]|str=>cases h';simp[PyData.eqv]|tuple=>obtain⟨_,_,_,_,rfl⟩:=tg h';simp[PyData.eqv]|_=>cases h'
 |.str a,y,n,m,k,j,h,h'=>by cases h;cases y with|int b=>cases h';simp[PyData.eqv]|bool b=>cases h';simp[PyData.eqv]|str=>cases h';simp[PyData.eqv]|tuple=>obtain⟨_,_,_,_,rfl⟩:=tg h';simp[PyData.eqv]|_=>cases h'
 |.tuple a,y,n,m,k,j,h,h'=>by obtain⟨n',e,rfl,ha,rfl⟩:=tg h;cases y with|int b=>cases h';simp[PyData.eqv]|bool b=>cases h';simp[PyData.eqv]|str=>cases h';simp[PyData.eqv]|tuple b=>obtain⟨o,p,rfl,q,rfl⟩:=tg h';rw[PyData.eqv,Kl a b n' o e p ha q];simp|_=>cases h'
 |.none,_,_,_,_,_,h,_=>by cases h
 |.list _,_,_,_,_,_,h,_=>by cases h
 |.dict _,_,_,_,_,_,h,_=>by cases h
theorem Kl:∀(x y:List PyData)(n m:Nat)(k j:List PyData),m5 x n=some k->m5 y m=some j->(PyData.eqvAll x y=true↔k=j)
 |[],y,n,m,k,j,h,h'=>by cases h;cases y with|nil=>cases h';simp[PyData.eqvAll]|cons b e=>obtain⟨_,_,_,_,rfl⟩:=vz h';simp[PyData.eqvAll]
 |x::xs,y,n,m,k,j,h,h'=>by obtain⟨a,r,ha,hr,rfl⟩:=vz h;cases y with|nil=>cases h';simp[PyData.eqvAll]|cons b e=>obtain⟨o,s,p,hs,rfl⟩:=vz h';rw[PyData.eqvAll,cY,Gh x b n m a o ha p,Kl xs e n m r s hr hs];simp
end
theorem RX{prog:Program}{w:World}{A:Around}{E:cV}{s:Shared}{b:Bool}{Q:Int->Shared->Prop}(e:A.units<cLine)(h:Q (hashInt (bif b then 1 else 0)) {s with toks:=s.toks+1}):
  wpAny (model prog w) A (pyHash (.bool b)) Q E s:=by
 show wpAny _ _ (pyHashByItsType (.bool b)) Q E s
 refine pyHash_slot (T:="bool") rfl PySem.F.slot_bool_hash entry_int_hash (args_int_hash _) (beq_builtin_none _) (.inr e) ?_;cases b
 ·exact(show wpAny _ _ (do PySem.ret (←mkInt 0)) _ _ s from bC (wpAny_mkInt (bU ⟨_,_,rfl,h⟩)))
 ·exact(show wpAny _ _ (do PySem.ret (←mkInt 1)) _ _ s from bC (wpAny_mkInt (bU ⟨_,_,rfl,h⟩)))
section
variable{prog:Program}{w:World}{E:cV}
mutual
theorem F6:∀(d:PyData)(n:Nat)(k:PyData)(v:Value)(as:List Addr)(A:Around)(s:Shared)(Q:Int->Shared->Prop),canon d n=some k->Reads s.heap v d as->A.units+n<cLine->
  Q (rP w k) {s with toks:=s.toks+draws k}->wpAny (model prog w) A (pyHash v) Q E s
 |.int i,n,k,v,as,A,s,Q,e,hr,j,h=>by cases e;cases hr;exact wpAny_pyHash_int h
 |.bool b,n,k,v,as,A,s,Q,e,hr,j,h=>by cases e;cases hr;exact RX (by omega) h
 |.str b,n,k,v,as,A,s,Q,e,hr,j,h=>by cases e;cases hr;exact wpAny_pyHash_str h
 |.tuple l,n,k,v,as,A,s,Q,e,hr,j,h=>by
  obtain⟨m,q,rfl,hl,rfl⟩:=tg e;cases hr with
  |@tuple a o vs i _ _ p t x y=>
   show wpAny _ _ (pyHashByItsType (.ref a)) Q E s
   refine pyHash_slot (T:="tuple") ⟨_,p,t⟩ PySem.F.slot_tuple_hash PySem.F.entry_tuple_hash (PySem.F.args_tuple_hash_1 _) (beq_builtin_none _) (.inr (by omega)) ?_;show wpAny _ _ (Builtin.Tuple.tupleItemsOf (.ref a)>>=_) _ _ s
   refine bC (wpAny_tupleItemsOf p x ?_);refine bC ?_;rw[←Array.forIn_toList];refine J3 l m q vs.toList _ A.in1 s #[] _ hl y (by show A.units+1+m<cLine;omega) fun b z=>?_
   show wpAny _ _ (retInt (Builtin.Tuple.tupleHashOf b.toList)) _ _ _
   rw[z];refine bC (wpAny_mkInt (bU ⟨_,_,rfl,?_⟩));exact h
 |.none,_,_,_,_,_,_,_,e,_,_,_=>by cases e
 |.list _,_,_,_,_,_,_,_,e,_,_,_=>by cases e
 |.dict _,_,_,_,_,_,_,_,e,_,_,_=>by cases e
theorem J3:∀(l:List PyData)(n:Nat)(k:List PyData)(vs:List Value)(as:List Addr)(A:Around)(s:Shared)(b:Array Int)(Q:Array Int->Shared->Prop),m5 l n=some k->ReadsAll s.heap vs l as->A.units+n<cLine->
  (∀e,e.toList=b.toList++zX w k->Q e {s with toks:=s.toks+Du k})->
  wpAny (model prog w) A (forIn vs b fun x r=>do let h ←pyHash x;pure PUnit.unit;pure (ForInStep.yield (r.push h))) Q E s
 |[],n,k,vs,as,A,s,b,Q,j,hr,o,h=>by cases j;cases hr;exact bU (h b (by simp[zX]))
 |x::xs,n,k,vs,as,A,s,b,Q,j,hr,o,h=>by
  obtain⟨y,r,p,q,rfl⟩:=vz j;cases hr with
  |@cons v us _ _ t z r1 B=>
   rw[List.forIn_cons];refine bC (bC (F6 x n y v _ A s _ p r1 o ?_));refine bC (bU (bU ?_));refine J3 xs n r us _ A {s with toks:=s.toks+draws y} _ Q q B o fun e I=>?_
   have:=h e (by simp[I,zX]);simp only[Du]at this;rw[←Nat.add_assoc]at this;exact this
end
mutual
theorem KH:∀(d:PyData)(n:Nat)(k:PyData)(v:Value)(as:List Addr)(A:Around)(s:Shared)(Q:Bool->Shared->Prop)(i:Nat),canon d n=some k->Reads s.heap v d as->n<=i->Q true s->
  wpAny (model prog w) A (eqIsQuiet i v) Q E s
 |.int _,n,k,v,as,A,s,Q,i,e,hr,hi,h=>by cases hr;rw[eqIsQuiet_byValue _ rfl];exact bU h
 |.bool _,n,k,v,as,A,s,Q,i,e,hr,hi,h=>by cases hr;rw[eqIsQuiet_byValue _ rfl];exact bU h
 |.str _,n,k,v,as,A,s,Q,i,e,hr,hi,h=>by cases hr;rw[eqIsQuiet_byValue _ rfl];exact bU h
 |.tuple l,n,k,v,as,A,s,Q,i,e,hr,hi,h=>by
  obtain⟨m,y,rfl,hl,rfl⟩:=tg e;cases i with
  |zero=>omega
  |succ i=>
   cases hr with
   |@tuple a o vs j _ _ t z B I=>
    have x:s.TypeIs (.ref a) "tuple":=⟨_,t,z⟩
    unfold eqIsQuiet;refine bC (wpAny_specialOf x PySem.F.slot_tuple_eq.lookup ?_);show wpAny _ _ (isInstance (.ref a) (.type "tuple")>>=_) _ _ s
    refine bC (Ao x isSubtype_tuple_tuple ?_);simp only[ft,mG,lr];refine bC (wpAny_seqItems t B ?_);refine bC ?_;show wpAny _ _ (forIn vs _ _) _ _ s
    rw[←Array.forIn_toList];refine wpAny_forIn_list _ (fun rest r q=>r.1=none/\q=s/\∀v∈rest,∀Q:Bool->Shared->Prop,Q true s->wpAny (model prog w) A (eqIsQuiet i v) Q E s) _ ?_ ?_ _ _
     ⟨rfl,rfl,fun v J Q K=>Km l m y vs.toList _ A s i hl I (by omega) v J Q K⟩
    ·rintro v rest r q ⟨hr,rfl,p⟩;refine bC (p v fB _ ?_);simp only[ft,mG,lr];exact bU ⟨rfl,rfl,fun u O=>p u (hO _ O)⟩
    ·rintro⟨r1,S⟩ q ⟨hr,rfl,_⟩;simp only at hr;subst hr;exact bU h
 |.none,_,_,_,_,_,_,_,_,e,_,_,_=>by cases e
 |.list _,_,_,_,_,_,_,_,_,e,_,_,_=>by cases e
 |.dict _,_,_,_,_,_,_,_,_,e,_,_,_=>by cases e
theorem Km:∀(l:List PyData)(n:Nat)(k:List PyData)(vs:List Value)(as:List Addr)(A:Around)(s:Shared)(i:Nat),m5 l n=some k->ReadsAll s.heap vs l as->n<=i->
  ∀v∈vs,∀Q:Bool->Shared->Prop,Q true s->wpAny (model prog w) A (eqIsQuiet i v) Q E s
 |[],n,k,vs,as,A,s,i,j,hr,hi,v,hv,Q,h=>by cases hr;cases hv
 |x::xs,n,k,vs,as,A,s,i,j,hr,hi,v,hv,Q,h=>by
  obtain⟨y,r,o,p,rfl⟩:=vz j;cases hr with
  |@cons u us _ _ q t r1 z=>
   rcases gx.mp hv with e|hv
   ·rw[e];exact KH x n y u _ A s Q i o r1 hi h
   ·exact Km xs n r us _ A s i p z hi v hv Q h
end
end
mutual
theorem Gi:∀(d:PyData)(n:Nat)(k:PyData),canon d n=some k->d.depth<=n
 |.int _,_,_,_=>mF _
 |.bool _,_,_,_=>mF _
 |.str _,_,_,_=>mF _
 |.tuple l,n,k,h=>by obtain⟨m,e,rfl,hl,rfl⟩:=tg h;exact Nat.succ_le_succ (F7 l m e hl)
 |.none,_,_,h=>by cases h
 |.list _,_,_,h=>by cases h
 |.dict _,_,_,h=>by cases h
theorem F7:∀(d:List PyData)(n:Nat)(k:List PyData),m5 d n=some k->PyData.depthAll d<=n
 |[],_,_,_=>mF _
 |x::xs,n,k,h=>by obtain⟨y,r,e,j,rfl⟩:=vz h;exact Nat.max_le.mpr ⟨Gi x n y e,F7 xs n r j⟩
end
mutual
theorem Kn:∀(d:PyData)(n:Nat)(k:PyData)(v:Value)(as:List Addr)(h h':Heap)(q:Addr)(o:Obj)(es:Array DictEntry)(ep:Nat),canon d n=some k->Reads h v d as->h.get? q=some o->o.data=.dict es ep->Heap.SameBut q h h'->Reads h' v d as
 |.int _,n,k,v,as,h,h',q,o,es,ep,p,hr,ho,hd,hs=>by cases hr;exact .int _ _
 |.bool _,n,k,v,as,h,h',q,o,es,ep,p,hr,ho,hd,hs=>by cases hr;exact .bool _
 |.str _,n,k,v,as,h,h',q,o,es,ep,p,hr,ho,hd,hs=>by cases hr;exact .str _ _
 |.tuple l,n,k,v,as,h,h',q,o,es,ep,p,hr,ho,hd,hs=>by obtain⟨m,y,rfl,hl,rfl⟩:=tg p;cases hr with|@tuple a o' vs j _ _ t z x B=>refine .tuple ((hs.2 a fun e=>?_).trans t) z x (J4 l m y _ _ h h' q o es ep hl B ho hd hs);rw[e,ho]at t;cases t;rw[hd]at x;cases x
 |.none,_,_,_,_,_,_,_,_,_,_,p,_,_,_,_=>by cases p
 |.list _,_,_,_,_,_,_,_,_,_,_,p,_,_,_,_=>by cases p
 |.dict _,_,_,_,_,_,_,_,_,_,_,p,_,_,_,_=>by cases p
theorem J4:∀(d:List PyData)(n:Nat)(k:List PyData)(v:List Value)(as:List Addr)(h h':Heap)(q:Addr)(o:Obj)(es:Array DictEntry)(ep:Nat),m5 d n=some k->ReadsAll h v d as->h.get? q=some o->o.data=.dict es ep->Heap.SameBut q h h'->ReadsAll h' v d as
 |[],n,k,v,as,h,h',q,o,es,ep,e,hr,ho,hd,hs=>by cases hr;exact .nil
 |x::xs,n,k,v,as,h,h',q,o,es,ep,e,hr,ho,hd,hs=>by obtain⟨y,r,j,p,rfl⟩:=vz e;cases hr with|cons r1 t=>exact .cons (Kn x n y _ _ h h' q o es ep j r1 ho hd hs) (J4 xs n r _ _ h h' q o es ep p t ho hd hs)
end
def MR(h:Heap)(k:PyData)(a:Addr):Prop:=∃d as,Reads h (.ref a) d as/\d.canLay0=true/\canon d 6=some k
abbrev LV(prog:Program)(w:World):@HeapKind prog w PyData (Classical.typeDecidableEq PyData):=
 letI:=Classical.typeDecidableEq PyData
 {is:=MR
  hash:=rP w
  draws:=draws
  room:=fun A=>A.units+10<cLine
  inj:=fun{h a x y} ⟨d,as,r,l,e⟩ ⟨j,p,z,_,t⟩=>by have:d=j:=SeqAt.Reads.unique d j _ _ _ l r z;subst this;rw[e]at t;exact nM t
  keeps:=fun{h h' k a d o es ep} ⟨B,as,r,l,e⟩ ho hd hs=>⟨B,as,Kn B 6 k _ as h h' d o es ep e r ho hd hs,l,e⟩
  pyHash:=fun{A E s k a Q} I ⟨d,as,r,l,e⟩ h=>F6 d 6 k _ as A s Q e r (by omega) h
  eqBool:=fun{A E s x y a b Q} I ⟨d,as,r,l,e⟩ ⟨j,p,z,J,t⟩ h=>by
   refine SeqAt.eqBoolOverData prog w A E s _ _ d j as p Q r z l J ?_ ?_
   ·have:=Gi d 6 x e;have:=An d.depth j.depth;omega
   ·have q:PyData.eqv d j=decide (x=y):=by
     rw[rM,decide_eq_true_iff];exact Gh d j 6 6 x y e t
    rw[q];exact h
  quiet:=fun{A E s k a Q} ⟨d,as,r,l,e⟩ h=>KH d 6 k _ as A s Q 8 e r (by omega) h}
theorem oG{α:Type}:∀(l:List α)(i:Nat),bA l i=l[i]?
 |[],_=>by simp[bA]
 |_::_,0=>rfl
 |a::r,n+1=>by rw[bA,oG r n];simp
mutual
theorem sC(N:Nm):∀(v:V)(n:Nat),jW v n=true->canon (pd N v) n=dt N v/\∃k,dt N v=some k
 |.int z,n,_=>⟨rfl,_,rfl⟩
 |.str k,n,_=>⟨rfl,_,rfl⟩
 |.bool b,n,_=>⟨rfl,_,rfl⟩
 |.tup l,0,h=>by cases h
 |.tup l,n+1,h=>by
  obtain⟨e,k,o⟩:=F0 N l n h;refine⟨?_,.tuple k,?_⟩
  ·show(match m5 (iY N l) n with|some j=>some (PyData.tuple j)|none=>none)=(match uG N l with|some j=>some (PyData.tuple j)|.none=>.none)
   rw[e]
  ·show(match uG N l with|some j=>some (PyData.tuple j)|.none=>.none)=_
   rw[o]
 |.no,_,h=>by cases h
 |.none,_,h=>by cases h
 |.lst _,_,h=>by cases h
 |.ref _,_,h=>by cases h
theorem F0(N:Nm):∀(v:List V)(n:Nat),sO v n=true->m5 (iY N v) n=uG N v/\∃k,uG N v=some k
 |[],n,_=>⟨rfl,_,rfl⟩
 |x::xs,n,h=>by
  simp only[sO,cY]at h;obtain⟨o,k1,e⟩:=sC N x n h.1;obtain⟨p,k2,j⟩:=F0 N xs n h.2;refine⟨?_,k1::k2,?_⟩
  ·simp only[iY,m5,uG,o,p,e,j]
  ·simp only[uG,e,j]
end
section
variable{H:Type}{c:Cx H}
mutual
theorem uv(gd:Gd c){g:G}{σ:St H}{h:Heap}(R:Rel c g σ h):∀(x:V)(n:Nat),jW x n=true->∀v,cj c.N g x v->(∃as,Reads h v (pd c.N x) as)/\(pd c.N x).canLay0=true
 |.bool b,n,_,v,w=>by cases w;exact⟨⟨[],.bool b⟩,rfl⟩
 |.int z,n,_,v,w=>by obtain⟨t,rfl⟩:=w;exact⟨⟨[],.int _ t⟩,rfl⟩
 |.str k,n,_,v,w=>by obtain⟨t,rfl⟩:=w;exact⟨⟨[],.str _ t⟩,gd.IM k⟩
 |.tup l,0,e,v,w=>by cases e
 |.tup l,n+1,e,v,w=>by obtain⟨a,vs,rfl,j,hl⟩:=w;obtain⟨o,p,y,k,B⟩:=R.tup a vs j;obtain⟨⟨as,q⟩,q2⟩:=CJ gd R l n e vs hl;exact⟨⟨as,.tuple p y B (by simpa using q)⟩,q2⟩
 |.no,_,e,_,_=>by cases e
 |.none,_,e,_,_=>by cases e
 |.lst _,_,e,_,_=>by cases e
 |.ref _,_,e,_,_=>by cases e
theorem CJ(gd:Gd c){g:G}{σ:St H}{h:Heap}(R:Rel c g σ h):∀(x:List V)(n:Nat),sO x n=true->∀v,cE c.N g x v->(∃as,ReadsAll h v (iY c.N x) as)/\PyData.canLayAll0 (iY c.N x)=true
 |[],n,_,v,w=>by cases w;exact⟨⟨[],.nil⟩,rfl⟩
 |x::xs,n,e,v,w=>by
  obtain⟨u,us,rfl,j,o⟩:=w;simp only[sO,cY]at e;obtain⟨⟨as,a1⟩,p⟩:=uv gd R x n e.1 u j;obtain⟨⟨y,q⟩,t⟩:=CJ gd R xs n e.2 us o;refine⟨⟨_,.cons a1 q⟩,?_⟩;show(PyData.canLay0 _&&PyData.canLayAll0 _)=true
  rw[p,t];rfl
end
theorem Dd(gd:Gd c){a k:V}{r:Bool}(h:eqv c.M.F a k=some r)(ha:jW a 6=true)(hk:jW k 6=true):r=true↔dt c.N a=dt c.N k:=by obtain⟨o,k1,e⟩:=sC c.N a 6 ha;obtain⟨p,k2,j⟩:=sC c.N k 6 hk;have:=CP gd a k r h;rw[←this,Gh _ _ 6 6 k1 k2 (o.trans e) (p.trans j),e,j];simp
theorem jv.at{g:G}{es:List (V×V)}{q:List DictEntry}(h:jv c g es q):∀{j:Nat}{e:V×V},es[j]?=some e->∃(o:DictEntry)(kd:PyData),q[j]?=some o/\dt c.N e.1=some kd/\o.hash=rP c.w kd/\cj c.N g e.1 o.key/\cj c.N g e.2 o.val:=by
 induction h with
 |nil=>intro j e p;simp at p
 |cons a b d e _ t=>intro j x p;cases j with|zero=>simp only[List.getElem?_cons_zero,Ap]at p;subst p;exact⟨_,_,rfl,a,b,d,e⟩|succ j=>simp only[List.getElem?_cons_succ]at p;obtain⟨o,kd,z⟩:=t p;exact⟨o,kd,by simpa using z⟩
theorem jv.len{g:G}{es:List (V×V)}{q:List DictEntry}(h:jv c g es q):q.length=es.length:=by
 induction h with|nil=>rfl|cons _ _ _ _ _ e=>simp[e]
theorem jv.mem{g:G}{es:List (V×V)}{q:List DictEntry}(h:jv c g es q){o:DictEntry}(hd:o∈q):∃(j:Nat)(e:V×V)(kd:PyData),es[j]?=some e/\q[j]?=some o/\dt c.N e.1=some kd/\o.hash=rP c.w kd/\cj c.N g e.1 o.key/\cj c.N g e.2 o.val:=by
 obtain⟨j,p⟩:=xT.mp hd;have hl:j<es.length:=by
  rw[←h.len];rcases Nat.lt_or_ge j q.length with x|x
  ·exact x
  ·rw[xU x]at p;cases p
 obtain⟨y,kd,t,z⟩:=h.at (qZ hl);rw[p]at t;cases t;exact⟨j,_,kd,qZ hl,p,z⟩
theorem jv.modify{g:G}{es:List (V×V)}{q:List DictEntry}(h:jv c g es q){v:V}{x:Value}(o:cj c.N g v x):∀j:Nat,jv c g (es.modify j fun e=>(e.1,v)) (q.modify j fun e=>{e with val:=x}):=by
 induction h with
 |nil=>intro j;simp;exact .nil
 |cons a b d e r p=>intro j;cases j with|zero=>exact .cons a b d o r|succ j=>exact .cons a b d e (p j)
theorem jv.push{g:G}{es:List (V×V)}{q:List DictEntry}(h:jv c g es q){k v:V}{u x:Value}{kd:PyData}(hk:cj c.N g k u)(j:cj c.N g v x)(o:dt c.N k=some kd):jv c g (es++[(k,v)]) (q++[⟨rP c.w kd,u,x⟩]):=by
 induction h with|nil=>exact .cons o rfl hk j .nil|cons a b d e r p=>exact .cons a b d e p
theorem jv.erase{g:G}{es:List (V×V)}{q:List DictEntry}(h:jv c g es q):∀j:Nat,jv c g (es.eraseIdx j) (q.eraseIdx j):=by
 induction h with
 |nil=>intro j;simp;exact .nil
 |cons a b d e r o=>intro j;cases j with|zero=>exact r|succ j=>exact .cons a b d e (o j)
theorem FV{es:List (V×V)}{v:V}:∀{j:Nat}{e:V×V},e∈es.modify j (fun e=>(e.1,v))->∃o∈es,e.1=o.1:=by
 induction es with
 |nil=>intro j e h;simp at h
 |cons x r p=>
  intro j e h;cases j with
  |zero=>
   rcases gx.mp (show e∈(x.1,v)::r from h)with rfl|h
   ·exact⟨x,fB,rfl⟩
   ·exact⟨e,hO _ h,rfl⟩
  |succ j=>
   rcases gx.mp (show e∈x::r.modify j _ from h)with rfl|h
   ·exact⟨e,fB,rfl⟩
   ·obtain⟨o,q,t⟩:=p h;exact⟨o,hO _ q,t⟩
theorem Rv{es:List (V×V)}{v:V}{o:Type}(f:V->o):∀j:Nat,(es.modify j (fun e=>(e.1,v))).map (fun e=>f e.1)=es.map fun e=>f e.1:=by
 induction es with
 |nil=>intro j;simp
 |cons x r p=>intro j;cases j with|zero=>rfl|succ j=>show f x.1::(r.modify j _).map _=_;rw[p j];rfl
theorem lY.modify{N:Nm}{es:List (V×V)}(h:lY N es)(j:Nat)(v:V):lY N (es.modify j fun e=>(e.1,v)) where
 kind:=fun e p I q=>by obtain⟨x,t,rfl'⟩:=FV p;obtain⟨y,z,o⟩:=FV q;rw[rfl',o];exact h.kind x t y z
 ok:=fun e p=>by obtain⟨x,t,B⟩:=FV p;rw[B];exact h.ok x t
 nd:=by rw[Rv (f:=dt N)];exact h.nd
theorem nH{k:V}{es:List (V×V)}(h:jx k es=true):jW k 6=true/\kk k≠0/\∀e r,es=e::r->kk e.1=kk k:=by
 simp only[jx,cY,pI]at h;refine⟨h.1.1,fun e=>?_,fun e r q=>?_⟩
 ·rw[e]at h;exact absurd h.1.2 (by decide)
 ·subst q;exact gc.mp h.2
theorem lY.same{N:Nm}{es:List (V×V)}(h:lY N es){k:V}(hk:jx k es=true):∀e∈es,kk e.1=kk k:=fun e j=>by cases es with|nil=>cases j|cons x r=>rw[h.kind e j x fB];exact(nH hk).2.2 x r rfl
theorem lY.push{N:Nm}{es:List (V×V)}(h:lY N es){k:V}(hk:jx k es=true)(v:V)(p:∀e∈es,dt N e.1≠dt N k):lY N (es++[(k,v)]) where
 kind:=fun e he j wH=>by
  have z:=h.same hk;rcases pJ.mp he with he|he<;>rcases pJ.mp wH with wH|wH
  ·exact h.kind e he j wH
  ·cases kP.mp wH;exact z e he
  ·cases kP.mp he;exact(z j wH).symm
  ·cases kP.mp he;cases kP.mp wH;rfl
 ok:=fun e he=>by
  rcases pJ.mp he with he|he
  ·exact h.ok e he
  ·cases kP.mp he;exact⟨(nH hk).1,(nH hk).2.1⟩
 nd:=by rw[lJ,List.nodup_append];refine⟨h.nd,by simp,fun a ha b o q=>?_⟩;obtain⟨e,he,rfl⟩:=kq.mp ha;simp only[gf,m8,kP]at o;subst o;exact p e he q
theorem lY.erase{N:Nm}{es:List (V×V)}(h:lY N es)(j:Nat):lY N (es.eraseIdx j) where
 kind:=fun e o q p=>h.kind e (List.mem_of_mem_eraseIdx o) q (List.mem_of_mem_eraseIdx p)
 ok:=fun e o=>h.ok e (List.mem_of_mem_eraseIdx o)
 nd:=h.nd.sublist ((List.eraseIdx_sublist es j).map _)
theorem lY.uniq{N:Nm}{es:List (V×V)}(h:lY N es){i j:Nat}{x y:V×V}(q:es[i]?=some x)(t:es[j]?=some y)(e:dt N x.1=dt N y.1):i=j:=by
 have o:(es.map fun e=>dt N e.1)[i]?=some (dt N x.1):=by rw[sL,q];rfl
 have p:(es.map fun e=>dt N e.1)[j]?=some (dt N x.1):=by rw[sL,t,e];rfl
 exact(List.getElem?_inj (lK.mp o).1 h.nd).mp (o.trans p.symm)
theorem CK(gd:Gd c){k:V}(hk:jW k 6=true):∀{es:List (V×V)}{r:Option V},(∀e∈es,jW e.1 6=true)->jH c.M.F k es=some r->
  (∃(j:Nat)(e:V×V),es[j]?=some e/\dt c.N e.1=dt c.N k/\r=some e.2)∨((∀e∈es,dt c.N e.1≠dt c.N k)/\r=.none)
 |[],r,_,h=>.inr ⟨by simp,by cases h;rfl⟩
 |(a,b)::es,r,hh,h=>by
  simp only[jH]at h;cases p:eqv c.M.F a k with
  |none=>rw[p]at h;cases h
  |some q=>
   have z:=Dd gd p (hh _ fB) hk;rw[p]at h;cases q with
   |true=>cases h;exact .inl ⟨0,_,rfl,z.mp rfl,rfl⟩
   |false=>
    rcases CK gd hk (fun e he=>hh e (hO _ he)) h with⟨j,e,o,t⟩|⟨o,t⟩
    ·exact .inl ⟨j+1,e,o,t⟩
    ·refine .inr ⟨fun e he=>?_,t⟩;rcases gx.mp he with rfl|he
     ·exact fun x=>by have:=z.mpr x;cases this
     ·exact o e he
theorem KI(gd:Gd c){k v:V}(hk:jW k 6=true):∀{es o:List (V×V)},(∀e∈es,jW e.1 6=true)->qv c.M.F k v es=some o->
  (∃(j:Nat)(e:V×V),es[j]?=some e/\dt c.N e.1=dt c.N k/\o=es.modify j fun e=>(e.1,v))∨((∀e∈es,dt c.N e.1≠dt c.N k)/\o=es++[(k,v)])
 |[],r,_,h=>.inr ⟨by simp,by cases h;rfl⟩
 |(a,b)::es,r,hh,h=>by
  simp only[qv]at h;cases p:eqv c.M.F a k with
  |none=>rw[p]at h;cases h
  |some q=>
   have z:=Dd gd p (hh _ fB) hk;rw[p]at h;cases q with
   |true=>cases h;exact .inl ⟨0,_,rfl,z.mp rfl,rfl⟩
   |false=>
    simp only at h;cases t:qv c.M.F k v es with
    |none=>rw[t]at h;cases h
    |some I=>
     rw[t]at h;cases h;rcases KI gd hk (fun e he=>hh e (hO _ he)) t with⟨j,e,y,B,J⟩|⟨y,B⟩
     ·exact .inl ⟨j+1,e,y,B,by rw[J];rfl⟩
     ·refine .inr ⟨fun e he=>?_,by rw[B];rfl⟩;rcases gx.mp he with rfl|he
      ·exact fun x=>by have:=z.mpr x;cases this
      ·exact y e he
theorem KJ(gd:Gd c){k:V}(hk:jW k 6=true):∀{es o:List (V×V)},(∀e∈es,jW e.1 6=true)->qw c.M.F k es=some o->
  (∃(j:Nat)(e:V×V),es[j]?=some e/\dt c.N e.1=dt c.N k/\o=es.eraseIdx j)∨((∀e∈es,dt c.N e.1≠dt c.N k)/\o=es)
 |[],r,_,h=>.inr ⟨by simp,by cases h;rfl⟩
 |(a,b)::es,r,hh,h=>by
  simp only[qw]at h;cases p:eqv c.M.F a k with
  |none=>rw[p]at h;cases h
  |some q=>
   have z:=Dd gd p (hh _ fB) hk;rw[p]at h;cases q with
   |true=>cases h;exact .inl ⟨0,_,rfl,z.mp rfl,rfl⟩
   |false=>
    simp only at h;cases t:qw c.M.F k es with
    |none=>rw[t]at h;cases h
    |some I=>
     rw[t]at h;cases h;rcases KJ gd hk (fun e he=>hh e (hO _ he)) t with⟨j,e,y,B,J⟩|⟨y,B⟩
     ·exact .inl ⟨j+1,e,y,B,by rw[J];rfl⟩
     ·refine .inr ⟨fun e he=>?_,by rw[B]⟩;rcases gx.mp he with rfl|he
      ·exact fun x=>by have:=z.mpr x;cases this
      ·exact y e he
theorem Hj{v:V}(h:kk v=1):∃z,v=.int z:=by cases v<;>simp_all [kk]
theorem Hk{v:V}(h:kk v=2):∃z,v=.str z:=by cases v<;>simp_all [kk]
theorem Mo{v:V}(h:kk v=3):∃z,v=.tup z:=by cases v<;>simp_all [kk]
theorem Y4(v:V)(h:kk v≠0):kk v=1∨kk v=2∨kk v=3:=by cases v<;>simp_all [kk]
variable{A:Around}{E:cV}{s:Shared}
theorem jv.heap(gd:Gd c){g:G}{σ:St H}{h:Heap}(R:Rel c g σ h){es:List (V×V)}{q:List DictEntry}(x:jv c g es q)(hk:∀e∈es,kk e.1=3/\jW e.1 6=true):
  ∃xs:List (PyData×Addr×Value),q=xs.map (letI:=Classical.typeDecidableEq PyData;entryOfKey (LV c.prog c.w))/\(∀x∈xs,MR h x.1 x.2.1)/\es.map (fun e=>dt c.N e.1)=xs.map fun x=>some x.1:=by
 induction x with
 |nil=>exact⟨[],rfl,by simp,rfl⟩
 |@cons k v u x i kd r q a b d e z j=>
  obtain⟨xs,o,p,t⟩:=j fun e B=>hk e (hO _ B)
  obtain⟨k3,hh⟩:=hk _ fB;obtain⟨l,rfl⟩:=Mo k3;obtain⟨⟨as,r1⟩,I⟩:=uv gd R _ 6 hh u d;obtain⟨ad,vs,rfl,_⟩:=d;refine⟨(kd,ad,x)::xs,?_,?_,?_⟩
  ·rw[gf,←o,b];rfl
  ·intro y hy;rcases gx.mp hy with rfl|hy
   ·exact⟨_,as,r1,I,(sC c.N _ 6 hh).1.trans a⟩
   ·exact p y hy
  ·rw[gf,gf,t,a]
theorem FW(gd:Gd c)(hu:A.units+10<cLine){g:G}{σ:St H}(R:Rel c g σ s.heap){d:Addr}{es:List (V×V)}{cR:Array DictEntry}{ep:Nat}
  (ho:s.heap.get? d=some {cls:=.type "dict",data:=.dict cR ep}) (hr:jv c g es cR.toList) (hk:lY c.N es) {k:V} {u:Value} (mI:cj c.N g k u) (dG:jx k es=true) {kd:PyData} (o:dt c.N k=some kd)
  {Q:Option Nat->Shared->Prop} (B:(∀e∈es,dt c.N e.1≠dt c.N k)->Q none s) (I:∀j e,es[j]?=some e->dt c.N e.1=dt c.N k->Q (some j) s):
  wpAny c.md A (dictFind d u (rP c.w kd)) Q E s:=by
 obtain⟨h6,h0,_⟩:=nH dG;have hs:=hk.same dG;have aa:∀p:DictEntry->Bool,(∀(j:Nat)(e:V×V)(K:DictEntry),es[j]?=some e->cR.toList[j]?=some K->(p K=true↔dt c.N e.1=dt c.N k))->Q (cR.findIdx? p) s:=by
  intro p hp;cases q:cR.findIdx? p with
  |none=>
   refine B fun e J hc=>?_
   obtain⟨j,hj⟩:=xT.mp J;obtain⟨K,_,hd,_⟩:=hr.at hj;have:=Array.findIdx?_eq_none_iff.mp q K (DF.mp (iw hd));rw[(hp j e K hj hd).mpr hc]at this;cases this
  |some j=>
   obtain⟨ae,hi,_⟩:=Array.findIdx?_eq_some_iff_getElem.mp q;have hl:j<es.length:=by have:=hr.len;simp only[qo]at this;omega
   have hd:cR.toList[j]?=some cR[j]:=by simp[ae]
   exact I j es[j] (qZ hl) ((hp j _ _ (qZ hl) hd).mp hi)
 rcases Y4 k h0 with h1|h1|h1
 ·obtain⟨z,rfl⟩:=Hj h1;cases o;obtain⟨t,rfl⟩:=mI;refine wpAny_dictFind_of (knd:=intKind c.prog c.w) (k:=z.val c.N) (by simp[intKind,Value.isInt]) ho rfl ?_ (aa _ ?_)
  ·intro K Y;obtain⟨j,e,Z,O,_,S,e3,U,_⟩:=hr.mem (DF.mpr Y);obtain⟨y,hy⟩:=Hj ((hs e (iw O)).trans h1);rw[hy]at S U;cases S;obtain⟨t',U⟩:=U;exact⟨y.val c.N,by rw[U];simp[intKind,Value.isInt],e3⟩
  ·intro j e K O S;obtain⟨af,Z,f1,f2,f3,W,_⟩:=hr.at O;rw[S]at f1;cases f1;obtain⟨y,hy⟩:=Hj ((hs e (iw O)).trans h1);rw[hy]at W⊢;obtain⟨t',W⟩:=W;rw[W];simp[intKind,Value.isInt,dt]
 ·obtain⟨z,rfl⟩:=Hk h1;cases o;obtain⟨t,rfl⟩:=mI;refine wpAny_dictFind_of (knd:=strKind c.prog c.w) (k:=c.N.tab z) (strKind_is _ _ _ _) ho rfl ?_ (aa _ ?_)
  ·intro K Y;obtain⟨j,e,Z,O,_,S,e3,U,_⟩:=hr.mem (DF.mpr Y);obtain⟨y,hy⟩:=Hk ((hs e (iw O)).trans h1);rw[hy]at S U;cases S;obtain⟨t',U⟩:=U;exact⟨c.N.tab y,by rw[U];exact strKind_is _ _ _ _,e3⟩
  ·intro j e K O S;obtain⟨af,Z,f1,f2,f3,W,_⟩:=hr.at O;rw[S]at f1;cases f1;obtain⟨y,hy⟩:=Hk ((hs e (iw O)).trans h1);rw[hy]at W⊢;obtain⟨t',W⟩:=W;rw[W];simp[PySem.strKind,PySem.Value.isStrOf,dt]
 ·obtain⟨z,rfl⟩:=Mo h1;obtain⟨xs,y1,y2,y3⟩:=hr.heap gd R fun e J=>⟨(hs e J).trans h1,(hk.ok e J).1⟩
  obtain⟨⟨as,r1⟩,r2⟩:=uv gd R _ 6 h6 u mI;obtain⟨a,vs,rfl,_⟩:=mI
  letI:=Classical.typeDecidableEq PyData
  have ab:∀j:Nat,(es[j]?).map (fun e:V×V=>dt c.N e.1)=(xs[j]?).map fun x:PyData×Addr×Value=>some x.1:=fun j=>by rw[←sL,y3,sL]
  refine wpAny_dictFind_heap (knd:=LV c.prog c.w) (k:=kd) (xs:=xs) hu ⟨_,as,r1,r2,(sC c.N _ 6 h6).1.trans o⟩ ho rfl y1 y2 ?_ (fun ag=>B fun e J hc=>?_) fun j p hj=>?_
  ·have nd:=hk.nd;rw[y3]at nd;rw[List.nodup_iff_pairwise_ne,List.pairwise_map]at nd⊢;exact nd.imp fun h q=>h (lu some q)
  ·obtain⟨j,hj⟩:=xT.mp J;have:=ab j;rw[hj]at this;cases hx:xs[j]? with|none=>rw[hx]at this;cases this|some x=>rw[hx]at this;simp only[Option.map_some,Ap]at this;rw[hc,o]at this;cases this;exact ag j x.2 hx
  ·have:=ab j;rw[hj]at this;cases J:es[j]? with|none=>rw[J]at this;cases this|some e=>rw[J]at this;simp only[Option.map_some,Ap]at this;exact I j e J (this.trans o.symm)
theorem GD(gd:Gd c)(o:A.units+10<cLine){g:G}{σ:St H}(R:Rel c g σ s.heap){k:V}{u:Value}(mI:cj c.N g k u)(j:jW k 6=true){kd:PyData}(e:dt c.N k=some kd)
  {Q:Int->Shared->Prop} (q:∀tk,Q (rP c.w kd) {s with toks:=tk}):wpAny c.md A (pyHash u) Q E s:=by
 obtain⟨⟨as,r1⟩,_⟩:=uv gd R _ 6 j u mI;exact F6 (pd c.N k) 6 kd u as A s Q ((sC c.N _ 6 j).1.trans e) r1 (by omega) (q _)
end
section
variable{H:Type}{c:Cx H}{A:Around}{E:cV}{s:Shared}
structure nk(c:Cx H)(g:G)(h:Heap)(d:Addr)(es:List (V×V))(cR:Array DictEntry)(ep:Nat):Prop where
 ho:h.get? d=some {cls:=.type "dict",data:=.dict cR ep}
 hr:jv c g es cR.toList
 hk:lY c.N es
 hl:es.length<=bu
theorem Rel.dict{g:G}{σ:St H}{h:Heap}(R:Rel c g σ h){n:Ad}{d:Addr}{es:List (V×V)}{ep:Nat}(e:c.M.get σ.h n=.dict es ep)(ha:g.ad n false=some d):∃cR,nk c g h d es cR ep:=by have z:=R.obj n;rw[e]at z;obtain⟨a,cR,j,_,o,p,q,t⟩:=z;rw[ha]at j;cases j;exact⟨cR,o,p,q,t⟩
theorem Rel.NC{g:G}{σ:St H}{h:Heap}(R:Rel c g σ h){n:Ad}{es:List (V×V)}{ep:Nat}(e:c.M.get σ.h n=.dict es ep):∃d,g.ad n false=some d/\g.ad n true=none:=by have z:=R.obj n;rw[e]at z;obtain⟨a,cR,j,o,_⟩:=z;exact⟨a,j,o⟩
theorem nk.size{g:G}{h:Heap}{d:Addr}{es:List (V×V)}{cR:Array DictEntry}{ep:Nat}(D:nk c g h d es cR ep):cR.size=es.length:=by have:=D.hr.len;simpa using this
theorem Rel.sH{g:G}{σ:St H}{h:Heap}(R:Rel c g σ h){n:Ad}{b:Bool}{d:Addr}(ha:g.ad n b=some d):(d==sysModules)=false:=
 km.mpr fun e=>R.sys n b (e▸ha)
theorem nk.rep{g:G}{h':Heap}{n:Ad}{d:Addr}{es:List (V×V)}{cR:Array DictEntry}{ep:Nat}(D:nk c g h' d es cR ep)(ha:g.ad n false=some d)(e:g.ad n true=none):gS c g h' n (.dict es ep):=
 ⟨d,cR,ha,e,D.ho,D.hr,D.hk,D.hl⟩
variable(gd:Gd c){g:G}{σ:St H}(R:Rel c g σ s.heap){d:Addr}{es:List (V×V)}{cR:Array DictEntry}{ep:Nat}(D:nk c g s.heap d es cR ep){k:V}{u:Value}(mI:cj c.N g k u)(dG:jx k es=true)
include gd R D mI dG
theorem CD(y:A.units+10<cLine){Q:Option Value->Shared->Prop}(o:(∀e∈es,dt c.N e.1≠dt c.N k)->∀tk,Q none {s with toks:=tk})
  (p:∀e∈es,dt c.N e.1=dt c.N k->∀x,cj c.N g e.2 x->∀tk,Q (some x) {s with toks:=tk}):wpAny c.md A (dictGet d u) Q E s:=by
 obtain⟨kd,q⟩:=(sC c.N k 6 (nH dG).1).2;unfold dictGet
 try with_reducible refine iy ?_
 refine bC (GD gd y R mI (nH dG).1 q fun tk=>?_);refine bC (FW (s:={s with toks:=tk}) gd y R D.ho D.hr D.hk mI dG q (fun B=>bU (o B tk)) fun j e z I=>?_);refine bC (uC (s:={s with toks:=tk}) D.ho rfl ?_);obtain⟨J,K,O,_,_,_,S⟩:=D.hr.at z;have t:cR[j]?=some J:=by simpa using O
 rw[t];exact bU (p e (iw z) I _ S tk)
theorem RI(O:A.units+20<cLine){Q:cV}{e:V×V}(z:e∈es)(B:dt c.N e.1=dt c.N k)(q:∀x tk,cj c.N g e.2 x->Q x {s with toks:=tk}):wpAny c.md A (getItem (.ref d) u) Q E s:=by
 have o:s.TypeIs (.ref d) "dict":=⟨_,D.ho,rfl⟩
 unfold getItem
 try with_reducible refine iy ?_
 refine bC (wpAny_sequenceKey o (by decide) ?_);refine bC (Aq (name:=Str.ofString "__getitem__") o slot_dict_getitem
  (pK slot_dict_getitem o entry_dict_getitem ?_ (args_dict_getitem _ _)))
 show wpAny _ _ (dictGet d u>>=_) _ _ s
 refine bC (CD gd R D mI dG (by show A.units+1+10<cLine;omega) (fun I=>absurd B (I e z)) fun J p t x K tk=>?_);have:J=e:=by obtain⟨i,hi⟩:=xT.mp z;obtain⟨j,y⟩:=xT.mp p;have:=D.hk.uniq hi y (B.trans t.symm);subst this;rw[hi]at y;exact(nM y).symm
 subst this;exact bU ⟨x,rfl,bU (q x tk K)⟩
theorem in_dict(J:A.units+20<cLine)(hd:(d==sysModules)=false){Q:cV}{b:Bool}(t:b=true↔∃e∈es,dt c.N e.1=dt c.N k)(q:∀tk,Q (.bool b) {s with toks:=tk}):wpAny c.md A (compareOp .In u (.ref d)) Q E s:=by
 have j:s.TypeIs (.ref d) "dict":=⟨_,D.ho,rfl⟩
 show wpAny _ _ (do return .bool (←contains (.ref d) u)) Q E s
 refine bC ?_;unfold contains
 try with_reducible refine iy ?_
 refine bC (wpAny_specialOf j xV.lookup ?_);show wpAny _ _ (if(some (Value.builtin "dict.__contains__")==some Value.none)=true then _ else _) _ E s
 rw[bL (by rw[beq_builtin_none];exact xS)];refine bC (wpAny_callSpecialUnlessNone?_slot (name:=Str.ofString "__contains__") j xV
  (pK xV j entry_dict_contains ?_ (args_dict_contains _ _)))
 show wpAny _ _ (dictGet d u>>=_) _ _ s
 refine bC (CD gd R D mI dG (by show A.units+1+10<cLine;omega) (fun y tk=>?_) fun z o p x K tk=>?_)
 ·have:b=false:=by cases b with|false=>rfl|true=>obtain⟨e,B,I⟩:=t.mp rfl;exact absurd I (y e B)
  subst this;show wpAny _ _ (Builtin.Dict.pendingKey? d u>>=_) _ _ _
  exact bC (wpAny_pendingKey_other hd (bU ⟨_,rfl,Ar (bU (q tk))⟩))
 ·have:=t.mpr ⟨z,o,p⟩;subst this;show wpAny _ _ (ret (.bool true)) _ _ _
  exact bU ⟨_,rfl,Ar (bU (q tk))⟩
theorem Se(J:A.units+20<cLine)(hd:(d==sysModules)=false){Q:cV}{b:Bool}(t:b=true↔∃e∈es,dt c.N e.1=dt c.N k)(q:∀tk,Q (.bool (!b)) {s with toks:=tk}):wpAny c.md A (compareOp .NotIn u (.ref d)) Q E s:=by
 have j:s.TypeIs (.ref d) "dict":=⟨_,D.ho,rfl⟩
 show wpAny _ _ (do return .bool (!(←contains (.ref d) u))) Q E s
 refine bC ?_;unfold contains
 try with_reducible refine iy ?_
 refine bC (wpAny_specialOf j xV.lookup ?_);show wpAny _ _ (if(some (Value.builtin "dict.__contains__")==some Value.none)=true then _ else _) _ E s
 rw[bL (by rw[beq_builtin_none];exact xS)];refine bC (wpAny_callSpecialUnlessNone?_slot (name:=Str.ofString "__contains__") j xV
  (pK xV j entry_dict_contains ?_ (args_dict_contains _ _)))
 show wpAny _ _ (dictGet d u>>=_) _ _ s
 refine bC (CD gd R D mI dG (by show A.units+1+10<cLine;omega) (fun y tk=>?_) fun z o p x K tk=>?_)
 ·have:b=false:=by cases b with|false=>rfl|true=>obtain⟨e,B,I⟩:=t.mp rfl;exact absurd I (y e B)
  subst this;show wpAny _ _ (Builtin.Dict.pendingKey? d u>>=_) _ _ _
  exact bC (wpAny_pendingKey_other hd (bU ⟨_,rfl,Ar (bU (q tk))⟩))
 ·have:=t.mpr ⟨z,o,p⟩;subst this;show wpAny _ _ (ret (.bool true)) _ _ _
  exact bU ⟨_,rfl,Ar (bU (q tk))⟩
theorem RJ(hu:A.units+20<cLine){v:V}{x:Value}(Y:cj c.N g v x){o:List (V×V)}(hp:qv c.M.F k v es=some o)(Z:es.length<bu){Q:Unit->Shared->Prop}
  (q:∀h' tk y,Heap.SameBut d s.heap h'->nk c g h' d o y (bif Nat.beq o.length es.length then ep else ep+1)->Q () {s with heap:=h',toks:=tk}):wpAny c.md A (setItem (.ref d) u x) Q E s:=by
 have B:s.TypeIs (.ref d) "dict":=⟨_,D.ho,rfl⟩
 obtain⟨kd,t⟩:=(sC c.N k 6 (nH dG).1).2;have hsz:cR.size<=sizeLine:=by rw[D.size];exact rH D.hl
 unfold setItem
 try with_reducible refine iy ?_
 refine bC (wpAny_sequenceKey B (by decide) ?_);refine bC (Aq (name:=Str.ofString "__setitem__") B slot_dict_setitem
  (pK slot_dict_setitem B entry_dict_setitem ?_ (args_dict_setitem _ _ _)))
 show wpAny _ _ (Builtin.Dict.notOrdered "__setitem__" ⟨[.ref d,u,x],[]⟩>>=_) _ _ s
 refine bC (xW B ?_);show wpAny _ _ (dictSet d u x>>=_) _ _ s
 refine bC ?_;have z:A.in1.units+10<cLine:=by show A.units+1+10<cLine;omega
 unfold dictSet
 try with_reducible refine iy ?_
 refine bC (GD gd z R mI (nH dG).1 t fun tk=>?_);unfold dictSetHashed
 try with_reducible refine iy ?_
 have sp:=KI gd (nH dG).1 (fun e I=>(D.hk.ok e I).1) hp;have O:ep+1=(bif Nat.beq (es++[(k,v)]).length es.length then ep else ep+1):=by cases p:Nat.beq (es++[(k,v)]).length es.length with|false=>rfl|true=>have:=gc.mp p;simp at this
 have S:∀j:Nat,ep=(bif Nat.beq (es.modify j fun e=>(e.1,v)).length es.length then ep else ep+1):=fun j=>by rw[gc.mpr (by simp)];rfl
 refine bC (FW (s:={s with toks:=tk}) gd z R D.ho D.hr D.hk mI dG t (fun J=>?_) fun j e hj I=>?_)
 ·rcases sp with⟨j,e,U,W,_⟩|⟨_,rfl⟩
  ·exact absurd W (J e (iw U))
  ·refine bC (wpAny_rule (wpAny_updateDictKeys (hz:=hsz) (s:={s with toks:=tk}) D.ho rfl (bU ⟨.none,rfl,bU (q _ tk (cR.push ⟨rP c.w kd,u,x⟩) (tH ..) (O▸⟨?_,?_,?_,?_⟩))⟩)))
   ·exact vS _ D.ho rfl
   ·simpa using D.hr.push mI Y t
   ·exact D.hk.push dG v J
   ·simp;omega
 ·rcases sp with⟨K,e',U,W,rfl⟩|⟨J,_⟩
  ·have:=D.hk.uniq U hj (W.trans I.symm);subst this;refine bC (wpAny_rule (bC (wpAny_updateDict (s:={s with toks:=tk}) D.ho rfl (wpAny_point (bU ⟨.none,rfl,bU (q _ tk (cR.modify K fun e=>{e with val:=x}) (tH ..) (S K▸⟨?_,?_,?_,?_⟩))⟩)))))
   ·exact vS _ D.ho rfl
   ·simpa using D.hr.modify Y K
   ·exact D.hk.modify K v
   ·simpa using D.hl
  ·exact absurd I (J e (iw hj))
theorem Rz(I:A.units+10<cLine){Q:Option DictEntry->Shared->Prop}(o:(∀e∈es,dt c.N e.1≠dt c.N k)->∀tk,Q none {s with toks:=tk})
  (p:∀j e,es[j]?=some e->dt c.N e.1=dt c.N k->∀t h' tk x,cj c.N g e.2 t.val->Heap.SameBut d s.heap h'->nk c g h' d (es.eraseIdx j) x (ep+1)->Q (some t) {s with heap:=h',toks:=tk}):
  wpAny c.md A (Builtin.Dict.takeOut d u) Q E s:=by
 obtain⟨kd,y⟩:=(sC c.N k 6 (nH dG).1).2;have hsz:cR.size<=sizeLine:=by rw[D.size];exact rH D.hl
 unfold Builtin.Dict.takeOut
 try with_reducible refine iy ?_
 refine bC (GD gd I R mI (nH dG).1 y fun tk=>?_);refine bC (FW (s:={s with toks:=tk}) gd I R D.ho D.hr D.hk mI dG y (fun K=>bU (o K tk)) fun j e J O=>?_);refine bC (uC (s:={s with toks:=tk}) D.ho rfl ?_);obtain⟨t,S,U,_,_,_,W⟩:=D.hr.at J;have q:cR[j]?=some t:=by simpa using U
 rw[q];have B:j<cR.size:=by
  rcases Nat.lt_or_ge j cR.size with z|z
  ·exact z
  ·rw[Array.getElem?_eq_none z]at q;cases q
 refine bC (wpAny_updateDictKeys (hz:=hsz) (hf:=by simp[Array.eraseIdxIfInBounds,B];omega) (s:={s with toks:=tk}) D.ho rfl (bU (p j e J O t _ tk (cR.eraseIdxIfInBounds j) W (tH ..) ⟨?_,?_,?_,?_⟩)))
 ·exact vS _ D.ho rfl
 ·have:=D.hr.erase j;obtain⟨l⟩:=cR;simpa using this
 ·exact D.hk.erase j
 ·have:=List.length_eraseIdx_le es j;have:=D.hl;omega
end
section
variable{H:Type}{c:Cx H}{A:Around}{E:cV}{s:Shared}{env:Env}{nm:Nat->Option Str}
theorem C3{M:Mc H}{a:Ad}{o:O}{σ bx:St H}{u:Unit}(h:upd M a o σ=some (u,bx)):a.live=true/\M.ok a=true/\bx=⟨M.set σ.h a o,σ.nx+1⟩:=by unfold upd at h;obtain⟨p,h⟩:=gZ h;cases h;simp only[cY]at p;exact⟨p.1.1,p.1.2,rfl⟩
theorem zA{M:Mc H}{a:Ad}{o:O}{w v:V}{σ bx:St H}(h:pL M a o w σ=some (v,bx)):v=w/\a.live=true/\M.ok a=true/\bx=⟨M.set σ.h a o,σ.nx+1⟩:=by unfold pL at h;obtain⟨u,s,e,j⟩:=cP h;cases j;exact⟨rfl,C3 e⟩
theorem uy{g:G}{σ:St H}{h h':Heap}{l:L}(R:Rel c g σ h)(F:Loc c env nm g h l){n:Ad}{b:Bool}{a:Addr}{o':O}{k:Nat}(e:g.ad n b=some a)(hl:n.live=true)(hs:Heap.SameBut a h h')(x:gS c g h' n o'):
  Rel c g ⟨c.M.set σ.h n o',k⟩ h'/\dh env.locals g h g h'/\Loc c env nm g h' l:=by
 have j:=R.upd (k:=k) e hl hs x;have T:dh env.locals g h g h':=j.Wk e hs;exact⟨j,T,F.da T fun o q=>(hs.2 _ fun z=>F.own n b (by rw[z];exact e)).trans q⟩
theorem CQ{h:Heap}{a:Addr}{o:Obj}(e:h.get? a=some o)(k:o.dict=none):∀b,Value.ref a=.ref b->∃ob,h.get? b=some ob/\ob.dict=none:=
 fun b q=>by cases q;exact⟨o,e,k⟩
theorem cE.inv1{N:Nm}{g:G}{x:V}{vs:List Value}(h:cE N g [x] vs):∃u,vs=[u]/\cj N g x u:=by obtain⟨u,r,rfl,e,j⟩:=h;have:r=[]:=j;subst this;exact⟨u,rfl,e⟩
theorem cE.inv2{N:Nm}{g:G}{x y:V}{vs:List Value}(h:cE N g [x,y] vs):∃u v,vs=[u,v]/\cj N g x u/\cj N g y v:=by obtain⟨u,r,rfl,e,j⟩:=h;obtain⟨v,rfl,o⟩:=j.inv1;exact⟨u,v,rfl,e,o⟩
theorem cE.last{N:Nm}{g:G}:∀{l:List V}{vs:List Value}{x:V},cE N g l vs->l.getLast?=some x->∃v,vs[vs.length-1]?=some v/\cj N g x v
 |[],_,_,_,h=>by simp at h
 |[a],vs,x,h,e=>by obtain⟨u,rfl,p⟩:=h.inv1;simp only[List.getLast?_singleton,Ap]at e;subst e;exact⟨u,rfl,p⟩
 |a::b::r,vs,x,⟨u,q,t,_,j⟩,e=>by
  subst t;rw[List.getLast?_cons_cons]at e;obtain⟨v,o,y⟩:=cE.last j e;have:q.length≠0:=by have:=j.len;simp at this;omega
  refine⟨v,?_,y⟩;rw[cT,Nat.add_sub_cancel];obtain⟨m,z⟩:=Nat.exists_eq_succ_of_ne_zero this;rw[z]at o⊢;simpa using o
theorem cE.dropLast{N:Nm}{g:G}:∀{l:List V}{vs:List Value},cE N g l vs->cE N g l.dropLast (vs.eraseIdx (vs.length-1))
 |[],vs,h=>by cases h;rfl
 |[a],vs,h=>by obtain⟨u,rfl,e⟩:=h.inv1;rfl
 |a::b::r,vs,⟨u,q,t,e,j⟩=>by
  subst t;have:q.length≠0:=by have:=j.len;simp at this;omega
  obtain⟨m,o⟩:=Nat.exists_eq_succ_of_ne_zero this;rw[cT,Nat.add_sub_cancel,o];have p:=cE.dropLast j;rw[o,Nat.succ_sub_one]at p;exact⟨u,q.eraseIdx m,rfl,e,p⟩
def yc:Nat->Option Str
 |0=>some "append"
 |1=>some "pop"
 |2=>some "get"
 |3=>some "add"
 |_=>none
def MS(k m:Nat):String:=match k,m with
 |0,0=>"list.append"
 |0,_=>"list.pop"
 |1,1=>"dict.pop"
 |1,_=>"dict.get"
 |_,_=>"set.add"
theorem Ru{g:G}{σ:St H}(R:Rel c g σ s.heap){r:Ad}{a:Addr}(ha:g.ad r false=some a){k m:Nat}(hk:lx (c.M.get σ.h r)=k){name:Str}(x:yc m=some name)
  (y:(k=0/\(m=0∨m=1))∨(k=1/\(m=1∨m=2))∨(k=2/\m=3)) {pl:Sem Bool} {Q:Value×List Value->Shared->Prop} (q:Q (.builtin (MS k m),[.ref a]) s):
  wpAny c.md A (getMethod (.ref a) name pl) Q E s:=by
 have z:=R.obj r;rcases y with⟨rfl,t⟩|⟨rfl,t⟩|⟨rfl,rfl⟩
 ·cases p:c.M.get σ.h r with
  |list l=>
   rw[p]at z;obtain⟨a1,vs,k,j,_,e,_⟩:=z;rw[ha]at j;cases j;rcases t with rfl|rfl
   ·cases x;exact getMethod_builtin ⟨_,e,rfl⟩ PySem.F.plainAttrs_list PySem.F.slot_list_append PySem.F.type_list_append (CQ e rfl) q
   ·cases x;exact getMethod_builtin ⟨_,e,rfl⟩ PySem.F.plainAttrs_list PySem.F.slot_list_pop PySem.F.type_list_pop (CQ e rfl) q
  |_=>rw[p]at hk;cases hk
 ·cases p:c.M.get σ.h r with
  |dict l ep=>
   rw[p]at z;obtain⟨a1,vs,j,_,e,_⟩:=z;rw[ha]at j;cases j;rcases t with rfl|rfl
   ·cases x;exact getMethod_builtin ⟨_,e,rfl⟩ PySem.F.plainAttrs_dict PySem.F.slot_dict_pop PySem.F.type_dict_pop (CQ e rfl) q
   ·cases x;exact getMethod_builtin ⟨_,e,rfl⟩ PySem.F.plainAttrs_dict PySem.F.slot_dict_get PySem.F.type_dict_get (CQ e rfl) q
  |_=>rw[p]at hk;cases hk
 ·cases p:c.M.get σ.h r with|set l=>rw[p]at z;obtain⟨a1,o,S,k,j,_,e,I,B,_⟩:=z;rw[ha]at j;cases j;cases x;exact getMethod_set_add B q|_=>rw[p]at hk;cases hk
theorem zB(gd:Gd c){z:Z}:∀{l:List V}{b:Bool},oO c.M.F z l=some b->(∀v∈l,∃y,v=.int y)/\(b=true↔∃y,V.int y∈l/\y.val c.N=z.val c.N)
 |[],b,h=>by cases h;simp
 |a::r,b,h=>by
  simp only[oO]at h;cases a with
  |int y=>
   simp only at h;cases p:qC c.M.F y z with
   |none=>rw[p]at h;cases h
   |some q=>
    have e:=zz gd p;rw[p]at h;cases q with
    |true=>
     simp only at h;cases o:oO c.M.F z r with
     |none=>rw[o]at h;cases h
     |some I=>
      rw[o]at h;cases h;obtain⟨t,_⟩:=zB gd o;refine⟨fun v hv=>?_,⟨fun _=>⟨y,fB,by simpa using e⟩,fun _=>rfl⟩⟩;rcases gx.mp hv with rfl|hv
      ·exact⟨y,rfl⟩
      ·exact t v hv
    |false=>
     obtain⟨t,B⟩:=zB gd h;refine⟨fun v hv=>?_,?_⟩
     ·rcases gx.mp hv with rfl|hv
      ·exact⟨y,rfl⟩
      ·exact t v hv
     ·rw[B];refine⟨fun⟨x,hx,j⟩=>⟨x,hO _ hx,j⟩,fun⟨x,hx,j⟩=>?_⟩;rcases gx.mp hx with hx|hx
      ·cases hx;rw[j]at e;simp at e
      ·exact⟨x,hx,j⟩
  |_=>cases h
theorem TX{M:Mc H}{r:Ad}{es:List (V×V)}{e:Nat}{k x v:V}{σ bx:St H}(h:wb M r es e k x σ=some (v,bx)):∃j,qw M.F k es=some j/\pL M r (.dict j (e+1)) x σ=some (v,bx):=by unfold wb at h;cases p:qw M.F k es with|none=>rw[p]at h;cases h|some j=>rw[p]at h;exact⟨j,rfl,h⟩
theorem TY{M:Mc H}{es:List (V×V)}{as:List V}{v:V}{σ bx:St H}(h:AQ M es as σ=some (v,bx)):
  ∃k d o,as=[k,d]/\jx k es=true/\jH M.F k es=some o/\σ=bx/\v=o.getD d:=by
 unfold AQ at h;split at h
 ·rename_i k d;obtain⟨dG,h⟩:=gZ h;cases p:jH M.F k es with
  |none=>rw[p]at h;cases h
  |some o=>rw[p]at h;cases o with|none=>cases h;exact⟨k,_,none,rfl,dG,p,rfl,rfl⟩|some x=>cases h;exact⟨k,d,some _,rfl,dG,p,rfl,rfl⟩
 ·cases h
theorem SU{M:Mc H}{r:Ad}{es:List (V×V)}{ep:Nat}{as:List V}{v:V}{σ bx:St H}(h:vW M r es ep as σ=some (v,bx)):
  ∃(k:V)(o:Option V)(d:Option V),as=k::d.toList/\jx k es=true/\jH M.F k es=some o/\(match o with|some x=>wb M r es ep k x σ=some (v,bx)|none=>σ=bx/\d=some v):=by
 unfold vW at h;split at h
 ·rename_i k;obtain⟨dG,h⟩:=gZ h;cases p:jH M.F k es with
  |none=>rw[p]at h;cases h
  |some o=>rw[p]at h;cases o with|none=>cases h|some x=>exact⟨k,some x,none,rfl,dG,p,h⟩
 ·rename_i k d;obtain⟨dG,h⟩:=gZ h;cases p:jH M.F k es with
  |none=>rw[p]at h;cases h
  |some o=>rw[p]at h;cases o with|none=>cases h;exact⟨k,none,some _,rfl,dG,p,rfl,rfl⟩|some x=>exact⟨k,some x,some d,rfl,dG,p,h⟩
 ·cases h
theorem SV(gd:Gd c)(hu:A.units+30<cLine){g:G}{σ:St H}(R:Rel c g σ s.heap){a:Addr}(hd:(a==sysModules)=false){es:List (V×V)}{cR:Array DictEntry}{ep:Nat}(D:nk c g s.heap a es cR ep){k:V}{u:Value}(hk:cj c.N g k u)(dG:jx k es=true)
  {rest:List Value} (dflt:Option Value) (hr:rest=dflt.toList) {Q:cV} (S:(∀e∈es,dt c.N e.1≠dt c.N k)->∃x,dflt=some x/\∀tk,Q x {s with toks:=tk})
  (W:∀j e,es[j]?=some e->dt c.N e.1=dt c.N k->∀x h' tk p,cj c.N g e.2 x->Heap.SameBut a s.heap h'->nk c g h' a (es.eraseIdx j) p (ep+1)->Q x {s with heap:=h',toks:=tk}):
  wpAny c.md A (call (.builtin "dict.pop") (.ref a::u::rest)) Q E s:=by
 have U:s.TypeIs (.ref a) "dict":=⟨_,D.ho,rfl⟩
 refine pK PySem.F.slot_dict_pop U PySem.F.entry_dict_pop ?_ (by subst hr;cases dflt;exact PySem.F.args_dict_pop_2 _ _;exact PySem.F.args_dict_pop_3 _ _ _);unfold Builtin.«dict.pop»;refine bC ?_;unfold Builtin.Dict.keyAndDefault;refine bC (xW U ?_);have I:A.in1.units+10<cLine:=by show A.units+1+10<cLine;omega
 have q:wpAny c.md A.in1 (do
   let old ←Builtin.Dict.takeOut a u
   if old.isNone then Builtin.Dict.missedRemoval a u
   match old,dflt with
   |some e,_=>letGo [e.key] [e.val];ret e.val
   |none,some x=>rule "dict.pop.default";ret x
   |none,none=>rule "dict.pop.keyerror";raiseNew (←newExc (.type "KeyError") [u])) (fun o B=>∃v,o=.done (.ret v)/\Q v B) E s:=by
  refine bC (Rz gd R D hk dG I (fun J tk=>?_) fun j e Y z Z h' tk p r1 r2 r3=>?_)
  ·obtain⟨x,rfl,K⟩:=S J;exact bC (wpAny_missedRemoval_other hd (bC (wpAny_rule (bU ⟨_,rfl,K tk⟩))))
  ·exact bC (wpAny_letGo (bU ⟨_,rfl,W j e Y z Z.val h' tk p r1 r2 r3⟩))
 have t:cR.isEmpty=true->wpAny c.md A.in1 (do
   let old ←(do rule "dict.pop.empty";pure none:Sem (Option DictEntry))
   if old.isNone then Builtin.Dict.missedRemoval a u
   match old,dflt with
   |some e,_=>letGo [e.key] [e.val];ret e.val
   |none,some x=>rule "dict.pop.default";ret x
   |none,none=>rule "dict.pop.keyerror";raiseNew (←newExc (.type "KeyError") [u])) (fun o B=>∃v,o=.done (.ret v)/\Q v B) E s:=by
  intro z;have O:es=[]:=by have:=D.size;simp at z;subst z;simp at this;exact List.length_eq_zero_iff.mp this.symm
  obtain⟨x,rfl,K⟩:=S (by rw[O];simp);refine bC (bC (wpAny_rule (bU ?_)));exact bC (wpAny_missedRemoval_other hd (bC (wpAny_rule (bU ⟨_,rfl,K _⟩))))
 have o:wpAny c.md A.in1 (do
   let y ←if(keyPart u).isSome then pure false else do pure (←dictEntries a).isEmpty
   let old ←if y then rule "dict.pop.empty";pure none else Builtin.Dict.takeOut a u
   if old.isNone then Builtin.Dict.missedRemoval a u
   match old,dflt with
   |some e,_=>letGo [e.key] [e.val];ret e.val
   |none,some x=>rule "dict.pop.default";ret x
   |none,none=>rule "dict.pop.keyerror";raiseNew (←newExc (.type "KeyError") [u])) (fun o B=>∃v,o=.done (.ret v)/\Q v B) E s:=by
  cases hp:(keyPart u).isSome with
  |true=>refine bC (bU ?_);simpa using q
  |false=>simp only[mG,lr];refine bC (uC D.ho rfl (bC (bU ?_)));cases z:cR.isEmpty with|false=>simpa using q|true=>simpa using t z
 cases dflt with|none=>subst hr;show wpAny _ _ (pure (a,u,none)) _ _ s;exact bU o|some x=>subst hr;show wpAny _ _ (pure (a,u,some x)) _ _ s;exact bU o
theorem SW(gd:Gd c)(z:A.units+30<cLine){g:G}{σ:St H}(R:Rel c g σ s.heap){a:Addr}(hd:(a==sysModules)=false){es:List (V×V)}{cR:Array DictEntry}{ep:Nat}(D:nk c g s.heap a es cR ep){k:V}{u w:Value}(hk:cj c.N g k u)(dG:jx k es=true)
  {Q:cV} (p:(∀e∈es,dt c.N e.1≠dt c.N k)->∀tk,Q w {s with toks:=tk})
  (q:∀e∈es,dt c.N e.1=dt c.N k->∀x tk,cj c.N g e.2 x->Q x {s with toks:=tk}):
  wpAny c.md A (call (.builtin "dict.get") [.ref a,u,w]) Q E s:=by
 have o:s.TypeIs (.ref a) "dict":=⟨_,D.ho,rfl⟩
 refine pK PySem.F.slot_dict_get o PySem.F.entry_dict_get ?_ (PySem.F.args_dict_get_3 _ _ _);show wpAny _ _ (Builtin.Dict.keyAndDefault "get" ⟨[.ref a,u,w],[]⟩>>=_) _ _ s
 refine bC ?_;unfold Builtin.Dict.keyAndDefault;refine bC (xW o ?_);show wpAny _ _ (pure (a,u,some w)) _ _ s
 refine bU ?_;show wpAny _ _ (dictGet a u>>=_) _ _ s
 refine bC (CD gd R D hk dG (by show A.units+1+10<cLine;omega) (fun j tk=>?_) fun e t y x hr tk=>?_)
 ·show wpAny _ _ (Builtin.Dict.missed a u>>=_) _ _ _
  exact bC (wpAny_missed_other hd (bU ⟨w,rfl,p j tk⟩))
 ·exact bU ⟨x,rfl,q e t y x tk hr⟩
section
variable(gd:Gd c){g:G}{σ bx:St H}{l:L}(R:Rel c g σ s.heap)(F:Loc c env nm g s.heap l){r:Ad}{a:Addr}(ha:g.ad r false=some a){as:List V}{us:List Value}{v:V}
  (ho:cE c.N g as us) {Q:cV}
  (q:∀g' h' tk u,dh env.locals g s.heap g' h'->Rel c g' bx h'->Loc c env nm g' h' l->cj c.N g' v u->Q u {s with heap:=h',toks:=tk})
include gd R F ha ho q
omit gd in
theorem RK{xs:List V}(p:c.M.get σ.h r=.list xs)(e:C9 c.M r xs as σ=some (v,bx)):wpAny c.md A (call (.builtin "list.append") (.ref a::us)) Q E s:=by
 have z:=R.obj r;rw[p]at z;obtain⟨a1,vs,i,t,B,I,y,J⟩:=z;rw[ha]at t;cases t;have hsz:vs.size<=sizeLine:=by have:=y.len;simp only[qo]at this;rw[this];exact rH J
 match as,ho,e with
 |[x],ho,e=>
  obtain⟨u,rfl,K⟩:=ho.inv1;obtain⟨j,e⟩:=gZ e;rw[mD]at j;obtain⟨rfl,O,Z,rfl⟩:=zA e;refine wpAny_list_append_plain (hsz:=hsz) ⟨i,I⟩ fun h' ⟨S,o⟩ hs=>?_
  obtain⟨U,W,Y⟩:=uy (k:=σ.nx+1) R F ha O hs (o':=.list (xs++[x])) ⟨a,_,S,ha,B,o,by simpa using cE.append y (cE.one K),by simp;omega⟩;exact q g h' s.toks _ W U Y rfl
omit gd in
theorem Sf{xs:List V}(p:c.M.get σ.h r=.list xs)(e:D9 c.M r xs as σ=some (v,bx)):wpAny c.md A (call (.builtin "list.pop") (.ref a::us)) Q E s:=by
 have z:=R.obj r;rw[p]at z;obtain⟨a1,vs,i,t,I,j,o,J⟩:=z;rw[ha]at t;cases t;have hsz:vs.size<=sizeLine:=by have:=o.len;simp only[qo]at this;rw[this];exact rH J
 match as,ho,e with
 |[],ho,e=>
  have:us=[]:=ho;subst this;simp only[D9]at e;cases pl:xs.getLast? with
  |none=>rw[pl]at e;cases e
  |some x=>
   obtain⟨y,K,O⟩:=o.last pl;have e:pL c.M r (.list xs.dropLast) x σ=some (v,bx):=by rw[pl]at e;cases x<;>first|exact e|cases e
   obtain⟨rfl,S,Z,rfl⟩:=zA e;refine call_meets PySem.F.slot_list_pop ⟨_,j,rfl⟩ PySem.F.entry_list_pop (PySem.F.args_list_pop_1 _) (PySem.MeetsSeq.list_pop_last a vs i y (by simpa using K) (hs1:=hsz)) ⟨j,?_⟩;have hs:=tH s.heap a (Obj.mapSeq fun xs=>xs.eraseIdxIfInBounds (vs.size-1));have B:=vS (Obj.mapSeq fun xs=>xs.eraseIdxIfInBounds (vs.size-1)) j (by simp[Obj.mapSeq,Obj.isFreed]);have ho:∃n',Obj.mapSeq (fun xs=>xs.eraseIdxIfInBounds (vs.size-1)) {cls:=.type "list",data:=.seq vs i}={cls:=.type "list",data:=.seq (vs.eraseIdxIfInBounds (vs.size-1)) n'}:=by simp only[Obj.mapSeq];exact⟨_,rfl⟩
   obtain⟨n',ho⟩:=ho;rw[ho]at B;obtain⟨U,W,Y⟩:=uy (k:=σ.nx+1) R F ha S hs (o':=.list xs.dropLast) ⟨a,vs.eraseIdxIfInBounds (vs.size-1),n',ha,I,B,by
    have:=o.dropLast;obtain⟨vl⟩:=vs
    simpa using this,by simp;omega⟩
   exact q g _ s.toks _ W U Y O
theorem Sg(U:A.units+30<cLine){es:List (V×V)}{ep:Nat}(p:c.M.get σ.h r=.dict es ep)(W:AQ c.M es as σ=some (v,bx)):wpAny c.md A (call (.builtin "dict.get") (.ref a::us)) Q E s:=by
 obtain⟨cR,D⟩:=R.dict p ha;obtain⟨k,d,o,rfl,dG,Y,hs⟩:=TY W;obtain⟨u,w,rfl,Z,h2⟩:=ho.inv2;have K:=CK gd (nH dG).1 (fun e z=>(D.hk.ok e z).1) Y;have y:∀x u tk,v=x->cj c.N g x u->Q u {s with toks:=tk}:=fun x u tk e r=>by rw[←e]at r;exact q g s.heap tk u (.refl _ _ _) (hs.1▸R) F r
 refine SW gd U R (R.sH ha) D Z dG (fun I tk=>?_) fun e z O x tk hr=>?_
 ·rcases K with⟨j,e,B,J,rfl⟩|⟨S,rfl⟩
  ·exact absurd J (I e (iw B))
  ·exact y _ _ tk hs.2 h2
 ·rcases K with⟨j,e',B,J,rfl⟩|⟨S,rfl⟩
  ·obtain⟨j',t⟩:=xT.mp z;have:=D.hk.uniq B t (J.trans O.symm);subst this;rw[B]at t;cases t;exact y _ _ tk hs.2 hr
  ·exact absurd O (S e z)
theorem Sh(hu:A.units+30<cLine){es:List (V×V)}{ep:Nat}(p:c.M.get σ.h r=.dict es ep)(hx:vW c.M r es ep as σ=some (v,bx)):wpAny c.md A (call (.builtin "dict.pop") (.ref a::us)) Q E s:=by
 obtain⟨cR,D⟩:=R.dict p ha;have e2:g.ad r true=none:=let⟨_,_,e⟩:=R.NC p;e;obtain⟨k,o,d,rfl,dG,pf,hs⟩:=SU hx;obtain⟨u,rest,rfl,h1,W⟩:=ho;have Y:=CK gd (nH dG).1 (fun e J=>(D.hk.ok e J).1) pf;have hd:∃dflt:Option Value,rest=dflt.toList/\∀x,d=some x->∃w,dflt=some w/\cj c.N g x w:=by cases d with|none=>exact⟨none,W,fun x e=>by cases e⟩|some d=>obtain⟨w,rfl,z⟩:=cE.inv1 W;exact⟨some w,rfl,fun x e=>by cases e;exact⟨w,rfl,z⟩⟩
 obtain⟨dflt,hr,hd⟩:=hd;refine SV gd hu R (R.sH ha) D h1 dG dflt hr (fun t=>?_) fun j' Z I y2 x' h' tk aa y3 y4 y5=>?_
 ·rcases Y with⟨j,e,y,B,rfl⟩|⟨_,rfl⟩
  ·exact absurd B (t e (iw y))
  ·obtain⟨hs1,K⟩:=hs;obtain⟨w,rfl,z⟩:=hd v K;exact⟨w,rfl,fun tk=>q g s.heap tk w (.refl _ _ _) (hs1▸R) F z⟩
 ·rcases Y with⟨j,e,y,B,rfl⟩|⟨t,rfl⟩
  ·have:=D.hk.uniq y I (B.trans y2.symm);subst this;rw[y]at I;cases I;obtain⟨O,S,U⟩:=TX hs;obtain⟨hv,z,h4,rfl⟩:=zA U;have:O=es.eraseIdx j:=by
    rcases KJ gd (nH dG).1 (fun e J=>(D.hk.ok e J).1) S with⟨j',Z,f1,f2,rfl⟩|⟨hn,_⟩
    ·rw[D.hk.uniq f1 y (f2.trans B.symm)]
    ·exact absurd B (hn _ (iw y))
   subst this;obtain⟨R',T',F'⟩:=uy (k:=σ.nx+1) R F ha z y4 (y5.rep ha e2);exact q g h' tk x' T' R' F' (hv▸y3)
  ·exact absurd y2 (t Z (iw I))
theorem Si{xs:List V}(p:c.M.get σ.h r=.set xs)(e:H9 c.M r xs as σ=some (v,bx)):wpAny c.md A (call (.builtin "set.add") (.ref a::us)) Q E s:=by
 have z:=R.obj r;rw[p]at z;obtain⟨a1,o,S,i,e1,e2,e3,e4,e5,e6,W⟩:=z;rw[ha]at e1;cases e1
 match as,ho,e with
 |[.int z],ho,e=>
  obtain⟨u,rfl,t,rfl⟩:=ho.inv1;have S':∀(U:Int),(S U||decide (U=z.val c.N))=true↔∃y,V.int y∈xs++[V.int z]/\y.val c.N=U:=fun U=>by
   rw[m7,W,iG];constructor
   ·rintro(⟨y,h1,j⟩|h)
    ·exact⟨y,List.mem_append_left _ h1,j⟩
    ·exact⟨z,List.mem_append_right _ fB,h.symm⟩
   ·rintro⟨y,h1,j⟩;rcases pJ.mp h1 with h1|h1
    ·exact .inl ⟨y,h1,j⟩
    ·cases kP.mp h1;exact .inr j.symm
  simp only[H9]at e;cases pm:oO c.M.F z xs with
  |none=>rw[pm]at e;cases e
  |some b=>
   obtain⟨m1,m2⟩:=zB gd pm;rw[pm]at e;cases b with
   |true=>
    obtain⟨x,e⟩:=gZ e;rw[mD]at x;obtain⟨rfl,j,h3,rfl⟩:=zA e;have J:S (z.val c.N)=true:=(W _).mpr (m2.mp rfl);refine call_set_add (knd:=intKind c.prog c.w) (k:=z.val c.N) (by simp[intKind,Value.isInt]) rfl e5 (by unfold scanBound;omega) fun h' hs Y=>?_
    obtain⟨o',B,I,Z,K,O,f3⟩:=Y;obtain⟨R',T',F'⟩:=uy (k:=σ.nx+1) R F ha j hs (o':=.set xs) ⟨a,o',_,_,ha,e2,K,O.1,⟨o',B,I,Z,K,O,f3⟩,by rw[df J];exact e6,fun i=>by
     rw[m7,iG,←W]
     exact⟨fun h=>h.elim id fun h=>h▸J,.inl⟩⟩
    exact q g h' _ _ T' R' F' rfl
   |false=>
    obtain⟨x,e⟩:=gZ e;rw[mD]at x;obtain⟨rfl,j,h3,rfl⟩:=zA e;refine call_set_add (knd:=intKind c.prog c.w) (k:=z.val c.N) (by simp[intKind,Value.isInt]) rfl e5 (by unfold scanBound;omega) fun h' hs Y=>?_
    obtain⟨o',B,I,Z,K,O,f3⟩:=Y;obtain⟨R',T',F'⟩:=uy (k:=σ.nx+1) R F ha j hs (o':=.set (xs++[.int z])) ⟨a,o',_,_,ha,e2,K,O.1,⟨o',B,I,Z,K,O,f3⟩,by simp only[cU,sM];split<;>omega,S'⟩;exact q g h' _ _ T' R' F' rfl
end
theorem RL(gd:Gd c)(j:A.units+30<cLine){g:G}{σ bx:St H}{l:L}(R:Rel c g σ s.heap)(F:Loc c env nm g s.heap l){r:Ad}{a:Addr}(ha:g.ad r false=some a){k m:Nat}{as:List V}{us:List Value}{v:V}
  (ho:cE c.N g as us) (e:gO c.M k r m as σ=some (v,bx)) {Q:cV}
  (q:∀g' h' tk u,dh env.locals g s.heap g' h'->Rel c g' bx h'->Loc c env nm g' h' l->cj c.N g' v u->Q u {s with heap:=h',toks:=tk}):
  wpAny c.md A (call (.builtin (MS k m)) (.ref a::us)) Q E s:=by
 unfold gO at e;cases hk:Nat.beq (lx (c.M.get σ.h r)) k with
 |false=>rw[hk]at e;cases e
 |true=>
  rw[hk]at e;replace hk:=gc.mp hk;simp only[sG]at e;cases p:c.M.get σ.h r with
  |list xs=>
   rw[p]at e hk;have hk:k=0:=hk.symm;subst hk
   match m,e with|0,e=>exact RK R F ha ho q p e|1,e=>exact Sf R F ha ho q p e|(_+2),e=>cases e
  |dict es ep=>
   rw[p]at e hk;have hk:k=1:=hk.symm;subst hk
   match m,e with|0,e=>cases e|1,e=>exact Sh gd R F ha ho q j p e|2,e=>exact Sg gd R F ha ho q j p e|(_+3),e=>cases e
  |set xs=>
   rw[p]at e hk;have hk:k=2:=hk.symm;subst hk
   match m,e with|0,e=>cases e|1,e=>cases e|2,e=>cases e|3,e=>exact Si gd R F ha ho q p e|(_+4),e=>cases e
  |_=>rw[p]at e;cases e
end
section
variable{H:Type}{c:Cx H}{A:Around}{E:cV}{s:Shared}
theorem Rel.list{g:G}{σ:St H}{h:Heap}(R:Rel c g σ h){n:Ad}{a:Addr}{l:List V}(e:c.M.get σ.h n=.list l)(ha:g.ad n false=some a):∃vs k,h.get? a=some {cls:=.type "list",data:=.seq vs k}/\cE c.N g l vs.toList/\l.length<=bu/\g.ad n true=none:=by have z:=R.obj n;rw[e]at z;obtain⟨a1,vs,k,j,o,p,q,t⟩:=z;rw[ha]at j;cases j;exact⟨vs,k,p,q,t,o⟩
theorem CR(gd:Gd c){g:G}{σ:St H}(R:Rel c g σ s.heap){v:V}{u:Value}{b:Bool}(h:tW c.M σ.h v=some b)(j:cj c.N g v u){Q:Bool->Shared->Prop}(q:∀tk,Q b {s with toks:=tk}):wpAny c.md A (truthy u) Q E s:=by
 cases v with
 |none=>cases h;cases j;exact fun _ _ _=>q _
 |bool x=>cases h;cases j;exact fun _ _ _=>q _
 |int z=>
  obtain⟨t,rfl⟩:=j;simp only[tW]at h;cases p:qC c.M.F z (.l 0)with
  |none=>rw[p]at h;cases h
  |some r=>
   rw[p]at h;cases h;refine P.truthy_int ?_;have e:=zz gd p;have:(z.val c.N !=0)=!r:=by rw[←e];rfl
   rw[this];exact q _
 |ref n=>
  obtain⟨a,rfl,ha⟩:=j;simp only[tW]at h;cases p:c.M.get σ.h n with
  |list l=>
   rw[p]at h;cases h;obtain⟨vs,k,y,B,I,_⟩:=R.list p ha;have o:=B.len;simp only[qo]at o;refine wpAny_truthy_list ⟨_,y,rfl,_,rfl⟩ (by rw[o];unfold bu at I;omega) ?_;have:vs.isEmpty=l.isEmpty:=by rw[rM,Array.isEmpty_iff_size_eq_zero,o,List.isEmpty_iff,List.length_eq_zero_iff]
   rw[this];exact q _
  |_=>rw[p]at h;cases h
 |_=>cases h
theorem JT{id:String}{g:G}{a b:Addr}{es:List (V×V)}{cR:Array DictEntry}{ep:Nat}(D:nk c g s.heap a es cR ep){j:Array DictEntry}{o:Nat}(p:nk c g s.heap b [] j o)(ha:(a==sysModules)=false)(t:(b==sysModules)=false)
  {Q:Bool->Shared->Prop} (q:Q es.isEmpty s):wpAny c.md A (Builtin.Dict.samePairs id a b) Q E s:=by
 unfold Builtin.Dict.samePairs Builtin.Dict.showsAll;rw[ha,t];simp only[mG,lr];refine bC (bU (bC (bU ?_)));refine bC (uC D.ho rfl ?_);refine bC (uC p.ho rfl ?_);have x:=D.size;have y:=p.size;rw[x,y];cases es with
 |nil=>simp only[cQ,bne_self_eq_false,mG,lr];refine bC (wpAny_dictEpoch D.ho rfl ?_);refine bC ?_;rw[Std.Legacy.Range.forIn_eq_forIn_range'];simp only[Std.Legacy.Range.size,Nat.sub_self,Nat.zero_add,Nat.div_one,Nat.zero_div,List.range'_zero,List.forIn_nil];exact bU (bU q)
 |cons e r=>
  have:((e::r).length !=([]:List (V×V)).length)=true:=by simp
  rw[this];simp only[if_true];exact bC (wpAny_rule (bU q))
theorem TZ{g:G}{a b:Addr}{es:List (V×V)}{cR:Array DictEntry}{ep:Nat}(y:A.units<cLine)(D:nk c g s.heap a es cR ep){e:Array DictEntry}{o:Nat}(t:nk c g s.heap b [] e o)(ha:(a==sysModules)=false)(z:(b==sysModules)=false)
  {Q:cV} (q:Q (.bool es.isEmpty) s):wpAny c.md A (compareOp .Eq (.ref a) (.ref b)) Q E s:=by
 have p:s.TypeIs (.ref a) "dict":=⟨_,D.ho,rfl⟩
 have j:s.TypeIs (.ref b) "dict":=⟨_,t.ho,rfl⟩
 refine wpAny_richCompare_same_room (op:=.Eq) p j PySem.F.slot_dict_eq (pK PySem.F.slot_dict_eq p PySem.F.entry_dict_eq ?_ (PySem.F.args_dict_eq_2 _ _)) y;show wpAny _ _ (Builtin.Dict.dictSlotArgs "__eq__" ⟨[.ref a,.ref b],[]⟩>>=_) _ _ s
 refine bC ?_;unfold Builtin.Dict.dictSlotArgs;refine bC (xW p ?_);show wpAny _ _ (pure (Value.ref a,Value.ref b)) _ _ s
 refine bU ?_;refine bC (Ao (T:="dict") j PySem.F.sub_dict_dict ?_);simp only[ft,mG,lr];refine bC (bU (bC (bU ?_)));refine bC (JT D t ha z ?_);exact bU ⟨_,rfl,(fun x=>nomatch x),by simpa using q⟩
theorem T9{g:G}{a b:Addr}{es:List (V×V)}{cR:Array DictEntry}{ep:Nat}(y:A.units<cLine)(D:nk c g s.heap a es cR ep){e:Array DictEntry}{o:Nat}(t:nk c g s.heap b [] e o)(ha:(a==sysModules)=false)(z:(b==sysModules)=false)
  {Q:cV} (q:Q (.bool (!es.isEmpty)) s):wpAny c.md A (compareOp .NotEq (.ref a) (.ref b)) Q E s:=by
 have p:s.TypeIs (.ref a) "dict":=⟨_,D.ho,rfl⟩
 have j:s.TypeIs (.ref b) "dict":=⟨_,t.ho,rfl⟩
 refine wpAny_richCompare_same_room (op:=.NotEq) p j PySem.F.slot_dict_ne (pK PySem.F.slot_dict_ne p PySem.F.entry_dict_ne ?_ (PySem.F.args_dict_ne_2 _ _)) y;show wpAny _ _ (Builtin.Dict.dictSlotArgs "__ne__" ⟨[.ref a,.ref b],[]⟩>>=_) _ _ s
 refine bC ?_;unfold Builtin.Dict.dictSlotArgs;refine bC (xW p ?_);show wpAny _ _ (pure (Value.ref a,Value.ref b)) _ _ s
 refine bU ?_;refine bC (Ao (T:="dict") j PySem.F.sub_dict_dict ?_);simp only[ft,mG,lr];refine bC (bU (bC (bU ?_)));refine bC (JT D t ha z ?_);exact bU ⟨_,rfl,(fun x=>nomatch x),by simpa using q⟩
theorem KL(gd:Gd c){n:Nat}(rm:Rm A n){g:G}{σ:St H}(R:Rel c g σ s.heap){x y:V}{u v:Value}{b:Bool}(h:kV c.M σ.h x y=some b)(t:cj c.N g x u)(z:cj c.N g y v):
  (∀{Q:cV},Q (.bool b) s->wpAny c.md A (compareOp .Eq u v) Q E s)/\(∀{Q:cV},Q (.bool (!b)) s->wpAny c.md A (compareOp .NotEq u v) Q E s):=by
 have W:=rm.units;have base:qD c.M σ.h x y=some b->(∀{Q:cV},Q (.bool b) s->wpAny c.md A (compareOp .Eq u v) Q E s)/\(∀{Q:cV},Q (.bool (!b)) s->wpAny c.md A (compareOp .NotEq u v) Q E s):=fun h=>by obtain⟨Y,Z,as,bs,r1,B,I,J,d,e⟩:=SS gd rm R h t z;exact⟨fun q=>SeqAt.compareEq_reads r1 B I J d (by rw[e];exact q),fun q=>SeqAt.compareNe_reads r1 B I J d (by rw[e];exact q)⟩
 unfold kV at h;cases x with
 |ref n=>
  simp only at h;cases p:c.M.get σ.h n with
  |dict l S=>
   rw[p]at h;cases y with
   |ref m=>
    simp only at h;cases o:c.M.get σ.h m with
    |dict r U=>rw[o]at h;cases r with|cons=>cases h|nil=>cases h;obtain⟨a,rfl,ha⟩:=t;obtain⟨a',rfl,j⟩:=z;obtain⟨cR,D⟩:=R.dict p ha;obtain⟨K,O⟩:=R.dict o j;exact⟨fun q=>TZ (by omega) D O (R.sH ha) (R.sH j) q,fun q=>T9 (by omega) D O (R.sH ha) (R.sH j) q⟩
    |_=>rw[o]at h;cases h
   |_=>cases h
  |_=>rw[p]at h;exact base h
 |_=>exact base h
theorem KN(gd:Gd c){k:Nat}{l:List V}{b:Bool}(h:D4 c.M.F k l=some b):(∀v∈l,∃j,v=.str j)/\(b=true↔∃j,V.str j∈l/\c.N.tab j=c.N.tab k):=by
 unfold D4 at h;obtain⟨hl,h⟩:=gZ h;have lit:∀v∈l,∃j,v=.str j/\j<1000:=fun v o=>by have:=gR.mp hl v o;cases v<;>first|(cases this;done)|exact⟨_,rfl,mD.mp this⟩
 refine⟨fun v o=>let⟨j,e,_⟩:=lit v o;⟨j,e⟩,?_⟩;obtain⟨i,x,B,y⟩:=gd.cls k;have one:∀i,(l.any (Bl i))=true↔V.str i∈l:=fun i=>by
  rw[Au];constructor
  ·rintro⟨v,o,e⟩;obtain⟨j,rfl,_⟩:=lit v o;rw[gc.mp e];exact o
  ·exact fun o=>⟨_,o,Nat.beq_refl i⟩
 cases p:(c.M.F.cl k).all (fun i=>l.any (Bl i))with|true=>rw[p]at h;cases h;exact⟨fun _=>⟨i,(one i).mp (gR.mp p i x),y.symm⟩,fun _=>rfl⟩|false=>rw[p]at h;obtain⟨q,h⟩:=gZ h;cases h;refine⟨(fun h=>by cases h),fun⟨j,z,e⟩=>?_⟩;obtain⟨J,I,t⟩:=lit _ z;cases I;have:j=i:=gd.lit j i t B (e.trans y);subst this;have:=gR.mp q j x;rw[(one j).mpr z]at this;cases this
theorem Ua{l:List V}(h:∀v∈l,∃j,v=.str j)(n:Nat):sO l n=true:=by
 induction l with|nil=>rfl|cons a r e=>obtain⟨j,rfl⟩:=h a fB;exact e fun v o=>h v (hO _ o)
theorem Ub{l:List V}(h:∀v∈l,∃j,v=.int j)(n:Nat):sO l n=true:=by
 induction l with|nil=>rfl|cons a r e=>obtain⟨j,rfl⟩:=h a fB;exact e fun v o=>h v (hO _ o)
theorem Uc(N:Nm){l:List V}(h:∀v∈l,∃j,v=.str j)(k:Nat):((iY N l).any fun y=>PyData.eqv y (pd N (.str k)))=true↔∃j,V.str j∈l/\N.tab j=N.tab k:=by
 induction l with
 |nil=>simp[iY]
 |cons a r q=>
  obtain⟨j,rfl⟩:=h a fB;simp only[iY,List.any_cons,m7];rw[q fun v t=>h v (hO _ t)];constructor
  ·rintro(e|⟨p,h1,o⟩)
   ·exact⟨j,fB,by simpa[pd,PyData.eqv]using e⟩
   ·exact⟨p,hO _ h1,o⟩
  ·rintro⟨p,h1,o⟩;rcases gx.mp h1 with h1|h1
   ·cases h1;exact .inl (by simpa[pd,PyData.eqv]using o)
   ·exact .inr ⟨p,h1,o⟩
theorem Ud(N:Nm){l:List V}(h:∀v∈l,∃j,v=.int j)(z:Z):((iY N l).any fun y=>PyData.eqv y (pd N (.int z)))=true↔∃j,V.int j∈l/\j.val N=z.val N:=by
 induction l with
 |nil=>simp[iY]
 |cons a r q=>
  obtain⟨j,rfl⟩:=h a fB;simp only[iY,List.any_cons,m7];rw[q fun v t=>h v (hO _ t)];constructor
  ·rintro(e|⟨p,h1,o⟩)
   ·exact⟨j,fB,by simpa[pd,PyData.eqv]using e⟩
   ·exact⟨p,hO _ h1,o⟩
  ·rintro⟨p,h1,o⟩;rcases gx.mp h1 with h1|h1
   ·cases h1;exact .inl (by simpa[pd,PyData.eqv]using o)
   ·exact .inr ⟨p,h1,o⟩
theorem SX(N:Nm):(∀(v:V)(n:Nat),jW v n=true->(pd N v).depth<=n):=fun v n h=>by obtain⟨e,k,f⟩:=sC N v n h;exact Gi _ n k (e.trans f)
theorem Ko(N:Nm):(∀(v:List V)(n:Nat),sO v n=true->PyData.depthAll (iY N v)<=n):=fun v n h=>by obtain⟨e,k,f⟩:=F0 N v n h;exact F7 _ n k (e.trans f)
theorem KO(gd:Gd c){a:V}{l:List V}{b:Bool}(h:D6 c.M a l=some b):jW a 0=true/\sO l 0=true/\((iY c.N l).any fun y=>PyData.eqv y (pd c.N a))=b:=by unfold D6 at h;cases a with|str k=>obtain⟨e,j⟩:=KN gd h;exact⟨rfl,Ua e 0,by rw[rM,Uc c.N e,j]⟩|int z=>obtain⟨e,j⟩:=zB gd h;exact⟨rfl,Ub e 0,by rw[rM,Ud c.N e,j]⟩|_=>cases h
theorem Lg(gd:Gd c){k:V}(hk:jW k 6=true):∀{l:List V}{b:Bool},(∀a∈l,jW a 6=true)->mem c.M.F k l=some b->(b=true↔∃a∈l,dt c.N a=dt c.N k)
 |[],b,_,h=>by cases h;simp
 |a::r,b,hh,h=>by
  simp only[mem]at h;cases p:eqv c.M.F a k with
  |none=>rw[p]at h;cases h
  |some q=>
   have z:=Dd gd p (hh _ fB) hk;rw[p]at h;cases q with
   |true=>cases h;exact⟨fun _=>⟨a,fB,z.mp rfl⟩,fun _=>rfl⟩
   |false=>
    rw[Lg gd hk (fun e o=>hh e (hO _ o)) h];constructor
    ·exact fun⟨x,h1,j⟩=>⟨x,hO _ h1,j⟩
    ·rintro⟨x,h1,j⟩;rcases gx.mp h1 with rfl|h1
     ·have:=z.mpr j;cases this
     ·exact⟨x,h1,j⟩
theorem SY(gd:Gd c){k:V}{es:List (V×V)}{b:Bool}(hk:jW k 6=true)(hh:∀e∈es,jW e.1 6=true)(h:D7 c.M k (es.map (·.1))=some b):b=true↔∃e∈es,dt c.N e.1=dt c.N k:=by
 have o:(b=true↔∃a∈es.map (·.1),dt c.N a=dt c.N k)->(b=true↔∃e∈es,dt c.N e.1=dt c.N k):=fun x=>by
  rw[x];constructor
  ·rintro⟨a,p,q⟩;obtain⟨e,t,rfl⟩:=kq.mp p;exact⟨e,t,q⟩
  ·exact fun⟨e,p,q⟩=>⟨e.1,kq.mpr ⟨e,p,rfl⟩,q⟩
 have gen:mem c.M.F k (es.map (·.1))=some b->(b=true↔∃e∈es,dt c.N e.1=dt c.N k):=fun h=>o (Lg gd hk (fun a ha=>by
  obtain⟨e,t,rfl⟩:=kq.mp ha
  exact hh e t) h)
 unfold D7 at h;cases k with|str j=>obtain⟨p,q⟩:=KN gd h;refine o (q.trans ⟨fun⟨i,x,y⟩=>⟨_,x,by simp[dt,y]⟩,fun⟨a,x,y⟩=>?_⟩);obtain⟨i,rfl⟩:=p a x;exact⟨i,x,by simpa[dt]using y⟩|_=>exact gen h
theorem Kp(gd:Gd c){n:Nat}(rm:Rm A n){g:G}{σ:St H}(R:Rel c g σ s.heap){x y:V}{u v:Value}{b:Bool}(h:dF c.M σ.h x y=some b)(j:cj c.N g x u)(U:cj c.N g y v):
  (∀{Q:cV},(∀tk,Q (.bool b) {s with toks:=tk})->wpAny c.md A (compareOp .In u v) Q E s)/\(∀{Q:cV},(∀tk,Q (.bool (!b)) {s with toks:=tk})->wpAny c.md A (compareOp .NotIn u v) Q E s):=by
 have hu:=rm.units;unfold dF at h;cases y with
 |tup l=>
  obtain⟨K,B,I⟩:=KO gd h;obtain⟨⟨as,r1⟩,c1⟩:=uv gd R x 0 K u j;obtain⟨a,vs,rfl,t1,t2⟩:=U;obtain⟨o,o1,o2,k,o3⟩:=R.tup a vs t1;obtain⟨⟨W,O⟩,c2⟩:=CJ gd R l 0 B vs t2;have d1:=Ko c.N l 0 B;have hd:A.units+1+min (PyData.depthAll (iY c.N l)) (pd c.N x).depth<cLine:=by have:=An (PyData.depthAll (iY c.N l)) (pd c.N x).depth;omega
  have rt:Reads s.heap (.ref a) (.tuple (iY c.N l)) W:=.tuple o1 o2 o3 (by simpa using O);exact⟨fun q=>SeqAt.in_tuple_reads rt r1 c2 c1 hd (by rw[I];exact q _),fun q=>SeqAt.notIn_tuple_reads rt r1 c2 c1 hd (by rw[I];exact q _)⟩
 |ref n=>
  obtain⟨a,rfl,ha⟩:=U;simp only at h;cases p:c.M.get σ.h n with
  |list l=>
   rw[p]at h;obtain⟨K,B,I⟩:=KO gd h;obtain⟨⟨as,r1⟩,c1⟩:=uv gd R x 0 K u j;obtain⟨vs,k,J,Y,_⟩:=R.list p ha;obtain⟨⟨W,O⟩,c2⟩:=CJ gd R l 0 B _ Y;have d1:=Ko c.N l 0 B;have hd:A.units+1+min (PyData.depthAll (iY c.N l)) (pd c.N x).depth<cLine:=by have:=An (PyData.depthAll (iY c.N l)) (pd c.N x).depth;omega
   have rt:Reads s.heap (.ref a) (.list (iY c.N l)) _:=.list J rfl rfl O;exact⟨fun q=>SeqAt.in_list_reads rt r1 c2 c1 hd (by rw[I];exact q _),fun q=>SeqAt.notIn_list_reads rt r1 c2 c1 hd (by rw[I];exact q _)⟩
  |dict es ep=>rw[p]at h;obtain⟨dG,h⟩:=gZ h;obtain⟨cR,D⟩:=R.dict p ha;have Z:=SY gd (nH dG).1 (fun e he=>(D.hk.ok e he).1) h;exact⟨fun q=>in_dict gd R D j dG (by omega) (R.sH ha) Z q,fun q=>Se gd R D j dG (by omega) (R.sH ha) Z q⟩
  |set l=>
   rw[p]at h;cases x with
   |int z=>
    obtain⟨t,rfl⟩:=j;obtain⟨m1,m2⟩:=zB gd h;have w:=R.obj n;rw[p]at w;obtain⟨a1,o,S,i,J,Y,e3,e4,e5,e6,e7⟩:=w;rw[ha]at J;cases J;have hb:S (z.val c.N)=b:=by rw[rM,e7,m2]
    exact⟨fun q=>wpAny_inSet_of (knd:=intKind c.prog c.w) (k:=z.val c.N) (by simp[intKind,Value.isInt]) rfl e5 (by rw[hb];exact q _),fun q=>wpAny_notInSet_of (knd:=intKind c.prog c.w) (k:=z.val c.N) (by simp[intKind,Value.isInt]) rfl e5 (by rw[hb];exact q _)⟩
   |_=>cases h
  |_=>rw[p]at h;cases h
 |_=>cases h
theorem Gj(gd:Gd c){x y:V}{b:Bool}(h:Bm c.M.F c.M.P.sl x y=some b){g:G}{u v:Value}(e:cj c.N g x u)(j:cj c.N g y v){A:Around}{s:Shared}{Q:cV}(q:Q (.bool b) s):wpAny c.md A (compareOp .Lt u v) Q E s:=by
 unfold Bm at h;cases x with
 |int x=>cases y with|int y=>obtain⟨t,rfl⟩:=e;obtain⟨o,rfl⟩:=j;exact P.lt_int (by rw[CN gd h];exact q)|_=>cases h
 |str x=>cases y with|str y=>obtain⟨t,rfl⟩:=e;obtain⟨o,rfl⟩:=j;exact P.lt_str (by rw[gd.sl _ _ _ h];exact q)|_=>cases h
 |_=>cases h
theorem GF{x:V}(h:AP x=true)(n:Nat):jW x n=true:=by cases x<;>first|rfl|cases h
theorem J5(gd:Gd c){g:G}{σ:St H}{A:Around}{s:Shared}(R:Rel c g σ s.heap){x y:V}(e:AP x=true)(j:AP y=true){r:Bool}(h:eqv c.M.F x y=some r){u v:Value}(o:cj c.N g x u)(p:cj c.N g y v)(B:A.units+5<cLine)
  {Q:Bool->Shared->Prop} (q:Q r s):wpAny c.md A (eqBool u v) Q E s:=by
 obtain⟨⟨as,r1⟩,c1⟩:=uv gd R x 0 (GF e 0) u o;obtain⟨⟨t,z⟩,c2⟩:=uv gd R y 0 (GF j 0) v p;refine SeqAt.eqBoolOverData _ _ A E s _ _ _ _ as t Q r1 z c1 c2 ?_ (by rw[CP gd x y r h];exact q);have:=SX c.N x 0 (GF e 0);have:=An (pd c.N x).depth (pd c.N y).depth;omega
theorem Lh(gd:Gd c){g:G}{σ:St H}{A:Around}{s:Shared}(R:Rel c g σ s.heap)(B:A.units+5<cLine):∀{x y:List V}{b:Bool}{us vs:List Value},yx c.M.F c.M.P.sl x y=some b->cE c.N g x us->cE c.N g y vs->
  wpAny c.md A (forIn (us.zip vs) ((none,()):Option Fin×Unit) fun x __s=>do
    let b ←eqBool x.1 x.2
    if(!b)=true then do
     rule "tuple.compare.by-the-first-pair-that-differs"
     let z ←richCompare .Lt x.1 x.2
     let z ←ret z
     pure (ForInStep.done (some z,()))
    else pure (ForInStep.yield (none,()))) (fun r I=>I=s/\match r.1 with|none=>b=decide (us.length<vs.length)|some f=>f=.done (.ret (.bool b))) E s
 |[],y,b,us,vs,h,o,j=>by have:us=[]:=o;subst this;have n:=j.len;refine bU ⟨rfl,?_⟩;cases y with|nil=>cases h;simp[n]|cons=>cases h;simp[n]
 |x::xs,[],b,us,vs,h,o,j=>by have:vs=[]:=j;subst this;rw[List.zip_nil_right];refine bU ⟨rfl,?_⟩;cases h;simp
 |x::xs,y::ys,b,us,vs,h,⟨u,J,K,o,q⟩,⟨v,O,S,j,t⟩=>by
  subst K;subst S;simp only[yx]at h;obtain⟨hf,h⟩:=gZ h;rw[cY]at hf;rw[DG,List.forIn_cons];cases p:eqv c.M.F x y with
  |none=>rw[p]at h;cases h
  |some r=>
   rw[p]at h;refine bC (bC (J5 gd R hf.1 hf.2 p o j B ?_));cases r with
   |true=>
    simp only[ft,mG,lr];refine bU ?_;refine qp (Lh gd R B h q t) (fun r I h'=>?_) fun _ _ e=>e
    simpa using h'
   |false=>simp only[gy,if_true];refine bC (wpAny_rule (bC (show wpAny _ _ (compareOp .Lt u v) _ _ _ from Gj gd h o j ?_)));exact bC (bU (bU (bU ⟨rfl,rfl⟩)))
theorem S0(gd:Gd c){g:G}{σ:St H}{A:Around}{s:Shared}(R:Rel c g σ s.heap)(hu:A.units+20<cLine){x y:V}{b:Bool}(h:tV c.M.F c.M.P.sl x y=some b){u v:Value}(z:cj c.N g x u)(B:cj c.N g y v){Q:cV}(q:Q (.bool b) s):
  wpAny c.md A (compareOp .Lt u v) Q E s:=by
 cases x with
 |tup x=>
  cases y with
  |tup y=>
   obtain⟨a,us,rfl,O,S⟩:=z;obtain⟨t,vs,rfl,k1,k2⟩:=B;obtain⟨o,I,U,n,W⟩:=R.tup a us O;obtain⟨o',J,Y,n',Z⟩:=R.tup t vs k1;have K:s.TypeIs (.ref a) "tuple":=⟨_,I,U⟩
   have j:s.TypeIs (.ref t) "tuple":=⟨_,J,Y⟩
   refine wpAny_richCompare_same_room (op:=.Lt) K j PySem.F.slot_tuple_lt (pK PySem.F.slot_tuple_lt K PySem.F.entry_tuple_lt ?_ (PySem.F.args_tuple_lt_2 _ _)) (by omega);refine bC (m:=slotArgs "__lt__" 1 ⟨[.ref a,.ref t],[]⟩) (bU ?_);refine bC (Ao (T:="tuple") j isSubtype_tuple_tuple ?_);simp only[ft,mG,lr];refine bC (wpAny_tupleItemsOf I W ?_);refine bC (wpAny_tupleItemsOf J Z ?_);refine bC (qp (Lh gd R (by show A.units+1+5<cLine;omega) h (us:=us) (vs:=vs) S k2) (fun r s' h'=>?_) fun _ _ e=>e);obtain⟨rfl,h'⟩:=h';cases p:r.1 with
   |none=>
    rw[p]at h';simp only at h';refine bU ⟨_,rfl,(fun x=>nomatch x),?_⟩;have:Builtin.Tuple.tupleCompareSizes CmpOp.Lt us.toArray.size vs.toArray.size=.bool b:=by rw[h'];simp[Builtin.Tuple.tupleCompareSizes]
    rw[this];exact q
   |some f=>rw[p]at h';simp only at h';subst h';exact bU ⟨_,rfl,(fun x=>nomatch x),q⟩
  |_=>cases h
 |_=>simp only[tV]at h;exact Gj gd h z B q
def ES:Co->CmpOp
 |.eq=>.Eq
 |.ne=>.NotEq
 |.lt=>.Lt
 |.le=>.LtE
 |.gt=>.Gt
 |.ge=>.GtE
 |.is=>.Is
 |.wF=>.IsNot
 |.gk=>.In
 |.nj=>.NotIn
theorem zu{x:Option Bool}{σ bx:St H}{v:V}(h:q0 x σ=some (v,bx)):∃b,x=some b/\v=.bool b/\bx=σ:=by cases x with|none=>cases h|some b=>cases h;exact⟨b,rfl,rfl,rfl⟩
theorem zw{x:Option Bool}{σ bx:St H}{v:V}(h:q8 x σ=some (v,bx)):∃b,x=some b/\v=.bool (!b)/\bx=σ:=by cases x with|none=>cases h|some b=>cases h;exact⟨b,rfl,rfl,rfl⟩
theorem GG{M:Mc H}{a b:V}{r:Bool}(h:tX M a b=some r):∃x y,a=.int x/\b=.int y/\u7 M.F x y=some r:=by
 unfold tX at h;cases a with
 |int x=>cases b with|int y=>exact⟨x,y,rfl,rfl,h⟩|_=>cases h
 |_=>cases h
theorem Kq{g:G}{x y:V}{u v:Value}{b:Bool}(h:same x y=some b)(e:cj c.N g x u)(j:cj c.N g y v):v=.none/\plainIs u .none=true/\(u==Value.none)=b:=by
 unfold same at h;cases y with
 |none=>cases j;refine⟨rfl,?_⟩;cases x with|none=>cases h;cases e;exact⟨rfl,rfl⟩|bool=>cases h;cases e;exact⟨rfl,rfl⟩|int=>cases h;obtain⟨t,rfl⟩:=e;exact⟨rfl,rfl⟩|str=>cases h;obtain⟨t,rfl⟩:=e;exact⟨rfl,rfl⟩|tup=>cases h;obtain⟨a,vs,rfl,_⟩:=e;exact⟨rfl,rfl⟩|ref=>cases h;obtain⟨a,rfl,_⟩:=e;exact⟨rfl,rfl⟩|lst=>exact absurd e id|no=>cases h
 |_=>cases h
theorem KP(gd:Gd c){n:Nat}(rm:Rm A n){g:G}{σ bx:St H}(R:Rel c g σ s.heap){o:Co}{x y w:V}{u v:Value}(h:lR c.M o x y σ=some (w,bx))(z:cj c.N g x u)(B:cj c.N g y v)
  {Q:cV} (q:∀b tk,w=.bool b->bx=σ->Q (.bool b) {s with toks:=tk}):wpAny c.md A (compareOp (ES o) u v) Q E s:=by
 have S:=rm.units;cases o with
 |eq=>obtain⟨b,p,rfl,rfl⟩:=zu h;exact(KL gd rm R p z B).1 (q b s.toks rfl rfl)
 |ne=>obtain⟨b,p,rfl,rfl⟩:=zw h;exact(KL gd rm R p z B).2 (q _ s.toks rfl rfl)
 |is=>obtain⟨b,p,rfl,rfl⟩:=zu h;obtain⟨rfl,J,K⟩:=Kq p z B;exact wpAny_is_plain J (by rw[K];exact q _ s.toks rfl rfl)
 |wF=>obtain⟨b,p,rfl,rfl⟩:=zw h;obtain⟨rfl,J,K⟩:=Kq p z B;exact wpAny_isNot_plain J (by rw[K];exact q _ s.toks rfl rfl)
 |gk=>obtain⟨b,p,rfl,rfl⟩:=zu h;exact(Kp gd rm R p z B).1 fun tk=>q _ tk rfl rfl
 |nj=>obtain⟨b,p,rfl,rfl⟩:=zw h;exact(Kp gd rm R p z B).2 fun tk=>q _ tk rfl rfl
 |lt=>obtain⟨b,p,rfl,rfl⟩:=zu h;exact S0 gd R (by omega) p z B (q _ s.toks rfl rfl)
 |gt=>obtain⟨b,p,rfl,rfl⟩:=zu h;obtain⟨i,j,rfl,rfl,I⟩:=GG p;obtain⟨t,rfl⟩:=z;obtain⟨O,rfl⟩:=B;have e:=CN gd I;exact P.gt_int (by show Q (.bool (decide (i.val c.N<j.val c.N))) _;rw[e];exact q _ s.toks rfl rfl)
 |le=>
  obtain⟨b,p,rfl,rfl⟩:=zw h;obtain⟨i,j,rfl,rfl,I⟩:=GG p;obtain⟨t,rfl⟩:=z;obtain⟨O,rfl⟩:=B;have e:=CN gd I;have:decide (j.val c.N<=i.val c.N)=!b:=by rw[←e,←decide_not];exact decide_eq_decide.mpr (by omega)
  exact P.le_int (by rw[this];exact q _ s.toks rfl rfl)
 |ge=>
  obtain⟨b,p,rfl,rfl⟩:=zw h;obtain⟨i,j,rfl,rfl,I⟩:=GG p;obtain⟨t,rfl⟩:=z;obtain⟨O,rfl⟩:=B;have e:=CN gd I;have:decide (i.val c.N≥j.val c.N)=!b:=by rw[←e,←decide_not];exact decide_eq_decide.mpr (by omega)
  exact P.ge_int (by rw[this];exact q _ s.toks rfl rfl)
end
section
variable{H:Type}{c:Cx H}{A:Around}{E:cV}{s:Shared}
theorem GH{j qs:Expr}{o i:Value}{T id:String}{Q:cV}(y:s.TypeIs o T)(hl:typeLookup (.type T) "__getitem__"=pure (some (.builtin id)))(h:wpAny c.md A (getItem o i) Q E s):
  wpAny c.md A (subscriptTail j qs o i) Q E s:=by
 unfold subscriptTail;refine bC ?_;rw[getitemInPython_of_ne y.not_modules];refine bC (wpAny_specialOf y hl ?_);have q:wpAny c.md A (subscripted qs false o i) (fun r p=>wpAny c.md A (letTemporaryGo j o r>>=fun _=>pure r) Q E p) E s:=by
  have e:∃vs,subscripted qs false o i=operate vs (getItem o i):=by unfold subscripted;split<;>first|exact⟨_,rfl⟩|(rename_i h;cases h)
  obtain⟨vs,e⟩:=e;rw[e];exact wpAny_operating (qp h (fun r p t=>bC (wpAny_letTemporaryGo (bU t))) fun _ _ x=>x)
 first
  |exact bU (bC q)
  |exact bC (bU (bC q))
  |exact bC q
theorem Ue{h:Heap}{a:Addr}{vs:Array Value}(x:h.IsTuple a vs):IsTup h a vs:=x
theorem GV{l:List V}{i:V}{v:V}(h:jy l i=some v):∃(k:Int)(j:Nat),i=.int (.l k)/\seqIndex? k l.length=some j/\bA l j=some v/\ -(l.length:Int)<=k/\k<l.length/\ -100000<=k/\k<100000:=by
 unfold jy at h;split at h
 ·rename_i n;obtain⟨e,h⟩:=gZ h;rw[mD]at e;unfold bu at e;have hl:n<l.length:=by
   rw[oG]at h;exact(lK.mp h).1
  refine⟨(n:Int),n,rfl,?_,h,by omega,by omega,by omega,by omega⟩;have o:¬((n:Int)<0):=by omega
  simp[seqIndex?,o,hl]
 ·rename_i n;obtain⟨hl,h⟩:=gZ h;rw[cY,mD,mD]at hl;unfold bu at hl;have p:Int.negSucc n= -((n:Int)+1):=rfl;refine⟨.negSucc n,l.length-1-n,rfl,?_,h,by omega,by omega,by omega,by omega⟩;rw[MeetsSeq.seqIndex_neg (by omega) (by omega)];congr 1;omega
 ·cases h
theorem LW{l:List V}{d:Int}:∀{g:List (Int×Nat)}{n:Int}{s:Nat},yl l d g=true->(n,s)∈g->jy l (.int (.l (n+d)))=some (.str s)
 |(m,u)::r,n,s,h,e=>by
  unfold yl at h;rw[cY]at h;rcases gx.mp e with e|e
  ·cases e;have h:=h.1;cases p:jy l (.int (.l (m+d)))with
   |none=>rw[p]at h;cases h
   |some v=>
    rw[p]at h;cases v<;>first|(cases h;done)|skip
    rw[gc.mp (show Nat.beq u _=true from h)]
  ·exact LW h.2 e
theorem Kr{l:List V}{k:Nat}{d:Int}{v:V}:∀{t:List (Nat×Nat×List (Int×Nat))},DL l k d t=some v->∃W g,v=.str W/\(k,W,g)∈t/\yl l d g=true
 |(e,W,g)::r,h=>by unfold DL at h;cases p:(Nat.beq k e&&yl l d g)with|true=>rw[p]at h;cases h;rw[cY]at p;rw[gc.mp p.1];exact⟨W,g,rfl,fB,p.2⟩|false=>rw[p]at h;obtain⟨j,g',o,q,x⟩:=Kr h;exact⟨j,g',o,hO _ q,x⟩
theorem S1(gd:Gd c){l:List V}{i v:V}(h:HY c.M.F l i=some v):∃j y,jy l (.int (.l j))=some y/\(∀g w,cj c.N g i w->∃t,w=.int j t)/\∀g u,cj c.N g y u->cj c.N g v u:=by
 have e:jy l i=some v->∃j y,jy l (.int (.l j))=some y/\(∀g w,cj c.N g i w->∃t,w=.int j t)/\∀g u,cj c.N g y u->cj c.N g v u:=fun h=>by obtain⟨k,j,rfl,_⟩:=GV h;exact⟨k,v,h,fun g w h=>h,fun g u h=>h⟩
 unfold HY at h;split at h
 ·exact e h
 ·split at h
  ·obtain⟨W,gr,rfl,o,p⟩:=Kr h;obtain⟨n,s,q,x,z⟩:=gd.tx _ _ _ o;refine⟨_,_,LW p q,fun g w h=>?_,fun g u h=>?_⟩
   ·obtain⟨t,h⟩:=h;exact⟨t,by rw[h];show Value.int (c.N.zv _+_) t=_;rw[x]⟩
   ·obtain⟨t,h⟩:=h;exact⟨t,by rw[h,z]⟩
  ·exact e h
theorem KQ{i:V}{n:Nat}(h:yj i=some n):i=.int (.l (.ofNat n)):=by
 unfold yj at h;split at h
 ·cases h;rfl
 ·cases h
theorem J6(gd:Gd c)(hu:A.units+30<cLine){g:G}{σ bx:St H}(R:Rel c g σ s.heap){x i v:V}{u w:Value}(h:hQ c.M x i σ=some (v,bx))(O:cj c.N g x u)(hi:cj c.N g i w){Q:cV}(q:∀r tk,bx=σ->cj c.N g v r->Q r {s with toks:=tk}):
  ∃T id,s.TypeIs u T/\typeLookup (.type T) "__getitem__"=pure (some (.builtin id))/\wpAny c.md A (getItem u w) Q E s:=by
 unfold hQ at h;cases x with
 |tup l=>obtain⟨I,e2,rfl⟩:=C2 h;obtain⟨a,vs,rfl,t1,t2⟩:=O;obtain⟨k,y,I,S,hr⟩:=S1 gd I;obtain⟨k',j,ek,J,U,j3,j4,j5,j6⟩:=GV I;cases ek;obtain⟨t,rfl⟩:=S _ _ hi;obtain⟨r,r1,B⟩:=t2.at U;replace B:=hr _ _ B;have ht:=Ue (R.tup a vs t1);have K:=t2.len;refine⟨"tuple",_,ht.typeIs,slot_tuple_getitem.lookup,getItem_tuple ht (by show -(2^63)<=k;omega) (by show k<2^63;omega) (by simpa[Z.val,K]using J) (by simpa using r1) (q r s.toks rfl B)⟩
 |str k=>
  simp only at h;cases p:yj i with
  |none=>rw[p]at h;cases h
  |some n=>
   rw[p]at h;cases KQ p;simp only at h;cases W:c.M.P.chr k n with
   |none=>rw[W]at h;cases h
   |some b=>
    rw[W]at h;cases h;obtain⟨t,rfl⟩:=O;obtain⟨t',rfl⟩:=hi;obtain⟨y,Y,y2,y3⟩:=gd.chr _ _ _ W;have hy:(c.N.tab b)=⟨#[y]⟩:=by cases e:c.N.tab b with|mk cps=>rw[e]at y2;simp only at y2;rw[y2]
    refine⟨"str",_,typeIs_str s _ _,PySem.F.slot_str_getitem.lookup,P.getItem_str ?_ ?_ (q _ _ rfl ⟨_,by rw[hy]⟩)⟩
    ·have:(Z.val c.N (.l (Int.ofNat n)))=(n:Int):=rfl;simp only[this,DE,decide_eq_false_iff_not];constructor<;>omega
    ·have:(Z.val c.N (.l (Int.ofNat n)))=(n:Int):=rfl;rw[this];have hl:n<(c.N.tab k).cps.size:=by
      rcases Nat.lt_or_ge n (c.N.tab k).cps.size with z|z
      ·exact z
      ·rw[Array.getElem?_eq_none z]at Y;cases Y
     have e:seqIndex? (n:Int) (c.N.tab k).length=some n:=by
      unfold seqIndex?;have h1:¬((n:Int)<0):=by omega
      have h2:n<(c.N.tab k).length:=hl;simp[h1,h2]
     rw[e];exact Y
 |ref n=>
  obtain⟨a,rfl,ha⟩:=O;simp only at h;cases p:c.M.get σ.h n with
  |list l=>
   rw[p]at h;obtain⟨I,e2,rfl⟩:=C2 h;obtain⟨k,j,rfl,J,U,j3,j4,j5,j6⟩:=GV I;obtain⟨t,rfl⟩:=hi;obtain⟨vs,m,l1,l2,l3,_⟩:=R.list p ha;obtain⟨r,r1,B⟩:=l2.at U;have K:=l2.len;simp only[qo]at K;have hl:s.heap.IsList a vs:=⟨_,l1,rfl,_,rfl⟩
   have hk:(Z.val c.N (.l k))=k:=rfl;unfold bu at l3;refine⟨"list",_,hl.typeIs,slot_list_getitem.lookup,?_⟩
   by_cases h0:0<=k
   ·have:j=k.toNat:=by
     have hn:¬k<0:=by omega
     have aa:k.toNat<l.length:=by omega
     simp[seqIndex?,hn,aa]at J;omega
    subst this;exact wpAny_getItem_list hl (by rw[hk];exact h0) (by rw[hk];omega) (by rw[hk];simpa using r1) (q r s.toks rfl B)
   ·rw[MeetsSeq.seqIndex_neg (by omega) (by omega)]at J;cases J;exact wpAny_getItem_list_neg hl (by rw[hk];omega) (by rw[hk];omega) (by rw[hk];omega) (by rw[hk,K];simpa using r1) (q r s.toks rfl B)
  |dict es ep=>
   rw[p]at h;simp only[HZ]at h;obtain⟨dG,h⟩:=gZ h;obtain⟨cR,D⟩:=R.dict p ha;cases pf:jH c.M.F i es with
   |none=>rw[pf]at h;cases h
   |some o=>
    have sp:=CK gd (nH dG).1 (fun e he=>(D.hk.ok e he).1) pf;rw[pf]at h;cases o with
    |none=>cases h
    |some z=>
     cases h;rcases sp with⟨j,e,s1,s2,s3⟩|⟨_,s3⟩
     ·cases s3;exact⟨"dict",_,⟨_,D.ho,rfl⟩,slot_dict_getitem.lookup,RI gd R D hi dG (by omega) (iw s1) s2 fun r tk hr=>q r tk rfl hr⟩
     ·cases s3
  |_=>rw[p]at h;cases h
 |_=>cases h
variable{env:Env}{nm:Nat->Option Str}
theorem Wm(gd:Gd c)(hu:A.units+30<cLine){a b:Expr}{x y:X H V}(pos:Pos)(h:dv c A env nm a x)(k:dv c A env nm b y):dv c A env nm (.Subscript a b pos) (EH c.M x y):=by
 intro Q E s g σ l v bx R F p q;obtain⟨v1,U,e1,p⟩:=cP p;obtain⟨v2,W,e2,p⟩:=cP p;refine Subscript_ (h _ _ _ _ _ _ _ _ R F e1 fun Y bG Z aa t z B I=>?_);refine k _ _ _ _ _ _ _ _ z B e2 fun J e K ab j o O S=>?_
 obtain⟨T,id,hT,hl,hw⟩:=J6 (s:={s with heap:=e,toks:=K}) (A:=A) (E:=E) gd hu o p (j.mf I) S fun r tk hs hr=>q J e tk r (t.trans j) (hs▸o) O hr
 exact GH hT hl hw
def AW(c:Cx H)(A:Around)(env:Env)(nm:Nat->Option Str)(e:Option Expr)(x:X H V):Prop:=∀(Q:cV)(E:cV)(s:Shared)(g:G)(σ:St H)(l:L)(v:V)(bx:St H),
 Rel c g σ s.heap->Loc c env nm g s.heap l->x l σ=some (v,bx)->
 (∀g' h' tk u,dh env.locals g s.heap g' h'->Rel c g' bx h'->Loc c env nm g' h' l->cj c.N g' v u->Q u {s with heap:=h',toks:=tk})->
 wpAny c.md A (evalPart e env) Q E s
theorem S2:AW c A env nm none (xC .none):=by intro Q E s g σ l v bx R F e q;cases e;exact bU (q g s.heap s.toks .none (.refl _ _ _) R F rfl)
theorem Gk{e:Expr}{x:X H V}(h:dv c A env nm e x):AW c A env nm (some e) x:=h
theorem Sj{g:G}{d n:Nat}{v:V}{u:Value}(h:bound d v=some n)(e:cj c.N g v u):(v=.none/\u=.none/\n=d/\IsPart u none)∨(IsPart u (some (n:Int))):=by
 unfold bound at h;split at h
 ·cases h;cases e;exact .inl ⟨rfl,rfl,rfl,.none⟩
 ·cases h;obtain⟨t,rfl⟩:=e;exact .inr (.int _ t)
 ·cases h
theorem KR{g:G}{d n:Nat}{v:V}{u:Value}(h:bound d v=some n)(e:cj c.N g v u):∃p:Option Int,IsPart u p/\((p=none/\n=d)∨p=some (n:Int)):=by
 rcases Sj h e with⟨rfl,rfl,rfl,r⟩|r
 ·exact⟨none,r,.inl ⟨rfl,rfl⟩⟩
 ·exact⟨_,r,.inr rfl⟩
theorem Li(n m:Nat):clipAt n (m:Int)=min m n:=by
 unfold clipAt;have:¬((m:Int)<0):=by omega
 first
  |(simp[this];done)
  |(rw[bL this];omega)
  |omega
theorem U4{vs:Array Value}{p q:Option Int}{m n:Nat}(hp:(p=none/\m=0)∨p=some (m:Int))(e:(q=none/\n=vs.size)∨q=some (n:Int)):(slicePick vs p q none).toList=(vs.toList.take n).drop m:=by
 rw[slicePick_plain];have hl:p.elim 0 (clipAt vs.size)=min m vs.size:=by
  rcases hp with⟨rfl,rfl⟩|rfl
  ·simp
  ·simp[Li]
 have hh:q.elim vs.size (clipAt vs.size)=min n vs.size:=by
  rcases e with⟨rfl,rfl⟩|rfl
  ·simp
  ·simp[Li]
 simp only[hl,hh];have hs:vs.toList.length=vs.size:=by simp
 rw[List.drop_take];rcases Nat.le_total m vs.size with a|a
 ·rw[Nat.min_eq_left a];rcases Nat.le_total n vs.size with b|b
  ·rw[Nat.min_eq_left b]
  ·rw[Nat.min_eq_right b,DH (by simp),DH (by simp;omega)]
 ·rw[Nat.min_eq_right a];have j:List.drop m vs.toList=[]:=List.drop_eq_nil_of_le (by omega);have o:List.drop vs.size vs.toList=[]:=List.drop_eq_nil_of_le (by omega);rw[j,o];simp
theorem cE.take{N:Nm}{g:G}:∀{l:List V}{vs:List Value}(n:Nat),cE N g l vs->cE N g (l.take n) (vs.take n)
 |[],_,_,h=>by cases h;simp;rfl
 |_::_,_,0,_=>rfl
 |x::xs,_,n+1,⟨v,r,e,a,b⟩=>by subst e;exact⟨v,_,rfl,a,cE.take n b⟩
theorem cE.drop{N:Nm}{g:G}:∀{l:List V}{vs:List Value}(n:Nat),cE N g l vs->cE N g (l.drop n) (vs.drop n)
 |[],_,_,h=>by cases h;simp;rfl
 |_::_,_,0,h=>h
 |x::xs,_,n+1,⟨v,r,e,a,b⟩=>by subst e;exact cE.drop n b
theorem cE.rev{N:Nm}{g:G}:∀{l:List V}{vs:List Value},cE N g l vs->cE N g l.reverse vs.reverse
 |[],_,h=>by cases h;rfl
 |x::xs,_,⟨v,r,e,a,b⟩=>by subst e;rw[List.reverse_cons,List.reverse_cons];exact cE.append (cE.rev b) (cE.one a)
theorem Wn(gd:Gd c){a:Expr}{lo hi:Option Expr}{x y z:X H V}(p pos:Pos)(h:dv c A env nm a x)(k1:AW c A env nm lo y)(k2:AW c A env nm hi z):dv c A env nm (.Subscript a (.Slice lo hi none p) pos) (Ov c.M x y z):=by
 intro Q E s g σ l v bx R F j q;obtain⟨v1,ar,e1,j⟩:=cP j;obtain⟨v2,au,e2,j⟩:=cP j;obtain⟨v3,U,e3,j⟩:=cP j;refine Subscript_ (h _ _ _ _ _ _ _ _ R F e1 fun av bG aw ax W Y Z aa=>?_);refine wpAny_Slice (k1 _ _ _ _ _ _ _ _ Y Z e2 fun ay az aA B K ab ae af=>?_);refine k2 _ _ _ _ _ _ _ _ ab ae e3 fun O t ag I J S ah ai=>?_
 refine bU ?_;unfold qs at j;cases v1 with
 |ref n=>
  obtain⟨ad,rfl,ha⟩:=aa;have aq:=J.ad _ _ _ (K.ad _ _ _ ha);simp only at j;cases pl:c.M.get U.h n with
  |list xs=>
   rw[pl]at j;simp only at j;obtain⟨vs,i,l1,l2,l3,_⟩:=S.list pl aq;cases b1:bound 0 v2 with
   |none=>rw[b1]at j;cases j
   |some m=>
    cases b2:bound xs.length v3 with
    |none=>rw[b1]at j;simp only[b2]at j;cases j
    |some n'=>
     rw[b1]at j;simp only[b2]at j;have n1:=l2.len;simp only[qo]at n1;obtain⟨pp,p1,p2⟩:=KR b1 (J.mf af);obtain⟨qq,q1,q2⟩:=KR b2 ai;have kp:∀b o,t.get? b=some o->(t.push {cls:=.type "slice",data:=.fields #[B,I,.none]}).get? b=some o:=fun b o e=>iV _ e
     have aj:=S.grow kp;have ak:=ah.grow kp;have al:dh env.locals O t O (t.push {cls:=.type "slice",data:=.fields #[B,I,.none]}):=.grow kp;have hl:(t.push {cls:=.type "slice",data:=.fields #[B,I,.none]}).IsList ad vs:=⟨_,kp _ _ l1,rfl,_,rfl⟩
     refine GH (T:="list") (s:={s with heap:=t.push {cls:=.type "slice",data:=.fields #[B,I,.none]},toks:=ag}) hl.typeIs slot_list_getitem.lookup ?_;refine wpAny_getItem_list_slice hl (Heap.IsSliceOf.new _ _ _ _) p1 q1 .none (by simp) ?_ (by rw[n1];exact rH l3);have pe:=U4 p2 (vs:=vs) (by rw[n1];exact q2);obtain⟨aB,am,an,ao,ap⟩:=xA gd (ob:={cls:=.type "list",data:=.seq (slicePick vs pp qq none)}) aj ak j fun n T=>⟨_,_,_,G.ka,G.kM,kO _ rfl,by rw[pe];exact T.sP ((l2.take n').drop m),by simp;omega⟩
     exact q _ _ _ _ ((((W.trans K).trans J).trans al).trans am) an ao ap
  |_=>rw[pl]at j;cases j
 |_=>cases j
theorem Wo(gd:Gd c){a:Expr}{x:X H V}(k:Nat)(p1 p2 p pos:Pos)(h:dv c A env nm a x):dv c A env nm (.Subscript a (.Slice none none (some (.UnaryOp .USub (.Constant (.int 1) k p1) p2)) p) pos) (Ow c.M x):=by
 intro Q E s g σ l v bx R F y q;obtain⟨v1,J,e1,y⟩:=cP y;refine Subscript_ (h _ _ _ _ _ _ _ _ R F e1 fun al bG am an K O S U=>?_);refine wpAny_Slice (bU (bU ?_));refine Gk (LU p2 (LR (c:=c) (nm:=nm) 1 k p1)) _ _ _ _ _ l (.int (.l (-1))) _ O S rfl fun z j W ao B I Y aa=>?_
 obtain⟨t,rfl⟩:=aa;unfold D8 at y;cases v1 with
 |ref n=>
  obtain⟨ad,rfl,ha⟩:=U;have ak:=B.ad _ _ _ ha;simp only at y;cases pl:c.M.get J.h n with
  |list xs=>
   rw[pl]at y;obtain⟨vs,i,l1,l2,l3,_⟩:=I.list pl ak;have n1:=l2.len;simp only[qo]at n1;have kp:∀b o,j.get? b=some o->(j.push {cls:=.type "slice",data:=.fields #[.none,.none,.int (Z.val c.N (.l (-1))) t]}).get? b=some o:=fun b o e=>iV _ e
   have ab:=I.grow kp;have ae:=Y.grow kp;have af:dh env.locals z j z (j.push {cls:=.type "slice",data:=.fields #[.none,.none,.int (Z.val c.N (.l (-1))) t]}):=.grow kp;have hl:(j.push {cls:=.type "slice",data:=.fields #[.none,.none,.int (Z.val c.N (.l (-1))) t]}).IsList ad vs:=⟨_,kp _ _ l1,rfl,_,rfl⟩
   refine GH (T:="list") (s:={s with heap:=j.push {cls:=.type "slice",data:=.fields #[.none,.none,.int (Z.val c.N (.l (-1))) t]},toks:=W}) hl.typeIs slot_list_getitem.lookup ?_;refine wpAny_getItem_list_slice hl (Heap.IsSliceOf.new _ _ _ _) .none .none (.int _ t) (by simp[Z.val]) ?_ (by rw[n1];exact rH l3);have pe:slicePick vs none none (some (Z.val c.N (.l (-1))))=vs.toList.reverse.toArray:=krv_pick vs;rw[pe];obtain⟨ap,ag,ah,ai,aj⟩:=xA gd (ob:={cls:=.type "list",data:=.seq vs.toList.reverse.toArray}) ab ae y fun n T=>⟨_,_,_,G.ka,G.kM,kO _ rfl,by simpa using T.sP l2.rev,by simp;omega⟩
   exact q _ _ _ _ (((K.trans B).trans af).trans ag) ah ai aj
  |_=>rw[pl]at y;cases y
 |_=>cases y
theorem th{α:Type}:∀{l:List α}{i:Nat}{v:α}{e:List α},bW l i v=some e->i<l.length/\e=l.set i v
 |[],_,_,_,h=>by cases h
 |_::_,0,_,_,h=>by cases h;simp
 |a::r,i+1,v,e,h=>by simp only[bW]at h;cases p:bW r i v with|none=>rw[p]at h;cases h|some o=>rw[p]at h;cases h;obtain⟨q,j⟩:=th p;exact⟨by simp;omega,by simp[j]⟩
theorem cE.set{N:Nm}{g:G}:∀{l:List V}{vs:List Value}{i:Nat}{x:V}{v:Value},cE N g l vs->cj N g x v->cE N g (l.set i x) (vs.set i v)
 |[],_,_,_,_,h,_=>by cases h;rfl
 |_::_,_,0,_,_,⟨_,r,e,_,b⟩,h=>by subst e;exact⟨_,_,rfl,h,b⟩
 |_::_,_,i+1,_,_,⟨u,r,e,a,b⟩,h=>by subst e;exact⟨u,_,rfl,a,cE.set b h⟩
theorem RA{l:Addr}{eD:Array Value}{m:Nat}{k:Int}{t:Tok}{v:Value}{Q:Unit->Shared->Prop}(ho:s.heap.get? l=some {cls:=.type "list",data:=.seq eD m})
  (z:0<=k) (o:k<2^63) (J:k<eD.size)
  (B:∀h' q,h'.get? l=some {cls:=.type "list",data:=.seq (eD.setIfInBounds k.toNat v) q}->Heap.SameBut l s.heap h'->Q () {s with heap:=h'}):
  wpAny c.md A (setItem (.ref l) (.int k t) v) Q E s:=by
 have hl:s.heap.IsList l eD:=⟨_,ho,rfl,_,rfl⟩
 have hd:({cls:=.type "list",data:=.seq eD m}:Obj).data=.seq eD m:=rfl;unfold setItem
 try with_reducible refine iy ?_
 first|refine bC (bU ?_)|skip
 refine bC (wpAny_sequenceKey hl.typeIs (by decide) ?_);refine bC (Aq (name:=Str.ofString "__setitem__") hl.typeIs slot_list_setitem
  (pK slot_list_setitem hl.typeIs entry_list_setitem ?_ (args_list_setitem _ _ _)))
 show wpAny _ _ (Builtin.List.listSubscript? (.int k t)>>=_) _ _ s
 refine bC (wpAny_listSubscript_int (fitsIndex_of z o) ?_);clear o;obtain⟨j,rfl⟩:=Int.eq_ofNat_of_zero_le z;have I:j<eD.size:=by omega
 have x:eD[j]?=some eD[j]:=Array.getElem?_eq_getElem I;show wpAny _ _ ((seqItemAt l j>>=fun r=>pure (r.map (j,·)))>>=_) _ _ s
 refine bC (bC (wpAny_seqItemAt ho hd (bU ?_)));rw[x];show wpAny _ _ (setSeqItemAt l j v>>=_) _ _ s
 obtain⟨n',y⟩:=Obj.data_mapSeq hd (·.setIfInBounds j v);have e:(s.heap.update l (Obj.mapSeq (·.setIfInBounds j v))).get? l=some (Obj.mapSeq (·.setIfInBounds j v) {cls:=.type "list",data:=.seq eD m}):=vS _ ho (Obj.isFreed_of_seq y);have p:∃q,Obj.mapSeq (·.setIfInBounds j v) {cls:=.type "list",data:=.seq eD m}={cls:=.type "list",data:=.seq (eD.setIfInBounds j v) q}:=⟨_,rfl⟩
 obtain⟨q,p⟩:=p;rw[p]at e;refine bC (wpAny_setSeqItemAt ho hd ?_)
 first
  |exact bC (bU (bU ⟨.none,rfl,bU (B _ _ e (tH ..))⟩))
  |exact bU ⟨.none,rfl,bU (B _ _ e (tH ..))⟩
theorem RM{l:Addr}{eD:Array Value}{m:Nat}{j:Nat}{t:Tok}{v:Value}{Q:Unit->Shared->Prop}(ho:s.heap.get? l=some {cls:=.type "list",data:=.seq eD m})
  (e:(j:Int)<2^63) (q:j<eD.size)
  (o:∀h' p,h'.get? l=some {cls:=.type "list",data:=.seq (eD.setIfInBounds j v) p}->Heap.SameBut l s.heap h'->Q () {s with heap:=h'}):
  wpAny c.md A (setItem (.ref l) (.int (j:Int) t) v) Q E s:=RA ho (by omega) e (by omega) o
theorem J7(gd:Gd c)(hu:A.units+30<cLine){g:G}{σ bx:St H}{l:L}(R:Rel c g σ s.heap)(F:Loc c env nm g s.heap l){x i v:V}{u w z:Value}{Y:Unit}(h:nP c.M x i v σ=some (Y,bx))(Z:cj c.N g x u)(hi:cj c.N g i w)(S:cj c.N g v z)
  {Q:Unit->Shared->Prop} (q:∀h' tk,dh env.locals g s.heap g h'->Rel c g bx h'->Loc c env nm g h' l->Q () {s with heap:=h',toks:=tk}):
  wpAny c.md A (setItem u w z) Q E s:=by
 unfold nP at h;cases x with
 |ref n=>
  obtain⟨a,rfl,ha⟩:=Z;simp only at h;cases p:c.M.get σ.h n with
  |list xs=>
   rw[p]at h;simp only at h;cases o:yj i with
   |none=>rw[o]at h;cases h
   |some j=>
    rw[o]at h;cases KQ o;simp only at h;cases y:bW xs j v with
    |none=>rw[y]at h;cases h
    |some aa=>
     rw[y]at h;obtain⟨s1,rfl⟩:=th y;obtain⟨B,u2,rfl⟩:=C3 h;obtain⟨vs,m,l1,U,l3,l4⟩:=R.list p ha;obtain⟨t,rfl⟩:=hi;have n1:=U.len;simp only[qo]at n1;unfold bu at l3;refine RM (j:=j) l1 (by omega) (by omega) fun h' m' ho hs=>?_
     obtain⟨I,J,K⟩:=uy (k:=σ.nx+1) R F ha B hs (o':=.list (xs.set j v)) ⟨a,_,m',ha,l4,ho,by simpa using U.set S,by simp;unfold bu;omega⟩;exact q h' s.toks J I K
  |dict es ep=>
   rw[p]at h;obtain⟨dG,h⟩:=gZ h;rw[cY,mD]at dG;cases O:qv c.M.F i v es with
   |none=>rw[O]at h;cases h
   |some ab=>
    rw[O]at h;obtain⟨B,u2,rfl⟩:=C3 h;obtain⟨cR,D⟩:=R.dict p ha;have e2:g.ad n true=none:=let⟨_,_,e⟩:=R.NC p;e;refine RJ gd R D hi dG.1 (by omega) S O dG.2 fun h' tk W hs D'=>?_
    obtain⟨I,J,K⟩:=uy (k:=σ.nx+1) R F ha B hs (D'.rep ha e2);exact q h' tk J I K
  |_=>rw[p]at h;cases h
 |_=>cases h
end
def AX(h:Heap)(d:Addr)(cR:Array DictEntry)(ep:Nat):Prop:=h.get? d=some {cls:=.type "dict",data:=.dict cR ep}
section
variable{prog:Program}{w:World}{A:Around}{E:cV}{s:Shared}{d it:Addr}{cR:Array DictEntry}{ep i:Nat}
theorem Ks{Q:cV}(hd:(d==sysModules)=false)(ho:AX s.heap d cR ep)
  (j:Q (.ref s.heap.objs.size) {s with heap:=s.heap.push {cls:=.type "dict_keyiterator",data:=.fields #[.ref d,.int 0 0,.int cR.size 0,.int ep 0]}}):wpAny (model prog w) A (pyIter (.ref d)) Q E s:=by
 have e:s.TypeIs (.ref d) "dict":=⟨_,ho,rfl⟩
 refine wpAny_pyIter_slot e PySem.F.slot_dict_iter (pK PySem.F.slot_dict_iter e PySem.F.entry_dict_iter ?_ (PySem.F.args_dict_iter_1 _));unfold Builtin.«dict.__iter__» Builtin.Dict.dictSlotNone;refine bC (bC (xW e ?_));show wpAny _ _ (pure (Value.ref d)) _ _ s
 refine bU ?_;show wpAny _ _ (Builtin.Dict.showsAll d>>=_) _ _ s
 unfold Builtin.Dict.showsAll;rw[bL (by rw[hd];exact xS)];refine bC (bU (bC (uC ho rfl (bC (wpAny_dictEpoch ho rfl ?_)))));refine bC (xR (bU ⟨_,rfl,"dict_keyiterator",_,⟨_,kO _ rfl,rfl⟩,Av.lookup,?_⟩));simpa[rawInt]using j
theorem JX{e:DictEntry}{Q:Option Value->Shared->Prop}(j:s.heap.IsKeyIter it d i cR.size ep)(q:AX s.heap d cR ep)(t:cR[i]?=some e)
  (x:∀h',h'.IsKeyIter it d (i+1) cR.size ep->Heap.SameBut it s.heap h'->Q (some e.key) {s with heap:=h'}):wpAny (model prog w) A (pyNext (.ref it)) Q E s:=by
 obtain⟨o,ho,y,hd⟩:=id j;unfold pyNext;refine bC (wpAny_attempt (Aq (name:=Str.ofString "__next__") j.typeIs Av
  (pK Av j.typeIs PySem.F.entry_dict_keyiterator_next ?_ (PySem.F.args_dict_keyiterator_next_1 _))))
 refine bC (bU (bC (bC ?_)))
 first|refine bC (DI j.typeIs (bU ?_))|refine bC (DJ j.typeIs (bU ?_))
 refine bC (wpAny_fieldsOf ho hd ?_);simp only[show Builtin.Dict_items.ownsTuple "dict_keyiterator"=false by decide,mG,lr];show wpAny _ _ (if(Value.ref d==Value.none)=true then _ else _) _ _ s
 rw[bL (show¬((Value.ref d==Value.none)=true) from xS)];refine bC (bU (bC (uC q rfl ?_)));rw[bL (by simp)];refine bC (bU (bC (wpAny_dictEpoch q rfl ?_)));rw[bL (by simp)];refine bU ?_;simp only[show¬((i:Int)<0) from by omega,lr,Int.toNat_natCast,t];refine bC ?_
 first|refine bC (DI j.typeIs (bU ?_))|refine bC (DJ j.typeIs (bU ?_))
 refine bC (wpAny_isOneOf_keyiter j.typeIs ?_);show wpAny _ _ (setField (.ref it) 1 (rawInt ((i:Int)+1))>>=_) _ _ s
 refine bC (wpAny_setField ho hd (by simp) ?_);have p:(s.heap.update it (Obj.mapFields (·.setIfInBounds 1 (rawInt ((i:Int)+1))))).IsKeyIter it d (i+1) cR.size ep:=
  ⟨_,vS _ ho (Obj.isFreed_of_fields (Obj.data_mapFields hd _)),(Obj.cls_mapFields ..).trans y,by rw[Obj.data_mapFields hd];simp[rawInt]⟩
 refine bC (iy ?_);refine bC (wpAny_isOneOf_keyiter (s:={s with heap:=s.heap.update it (Obj.mapFields (·.setIfInBounds 1 (rawInt ((i:Int)+1))))}) p.typeIs ?_);show wpAny _ _ (pure e.key) _ _ _
 exact bU (bU ⟨_,rfl,bU (x _ p (tH ..))⟩)
theorem J8{Q:Option Value->Shared->Prop}(hh:A.handled=none)(e:s.heap.IsKeyIter it d i cR.size ep)(j:AX s.heap d cR ep)(p:cR.size<=i)
  (q:∀h',Heap.ExtBut it s.heap h'->Q none {s with heap:=h'}):wpAny (model prog w) A (pyNext (.ref it)) Q E s:=by
 obtain⟨o,ho,t,hd⟩:=id e;unfold pyNext;refine bC (wpAny_attempt (Aq (name:=Str.ofString "__next__") e.typeIs Av
  (pK Av e.typeIs PySem.F.entry_dict_keyiterator_next ?_ (PySem.F.args_dict_keyiterator_next_1 _))))
 refine bC (bU (bC (bC ?_)))
 first|refine bC (DI e.typeIs (bU ?_))|refine bC (DJ e.typeIs (bU ?_))
 refine bC (wpAny_fieldsOf ho hd ?_);simp only[show Builtin.Dict_items.ownsTuple "dict_keyiterator"=false by decide,mG,lr];show wpAny _ _ (if(Value.ref d==Value.none)=true then _ else _) _ _ s
 rw[bL (show¬((Value.ref d==Value.none)=true) from xS)];refine bC (bU (bC (uC j rfl ?_)));rw[bL (by simp)];refine bC (bU (bC (wpAny_dictEpoch j rfl ?_)));rw[bL (by simp)];refine bU ?_;simp only[show¬((i:Int)<0) from by omega,lr,Int.toNat_natCast,Array.getElem?_eq_none p];refine bC ?_
 first|refine bC (DI e.typeIs (bU ?_))|refine bC (DJ e.typeIs (bU ?_))
 show wpAny _ _ (setField (.ref it) 0 .none>>=_) _ _ s
 refine bC (wpAny_setField ho hd (by simp) ?_);show wpAny _ _ (newExc (.type "StopIteration") []>>=_) _ _ _
 refine bC ?_;simp only[newExc,newTuple];refine bC (xR ?_ (by size_fits));refine bC (m:=firstArgMember _ _) (wpAny_of_eq (a:=Value.none) (by first|rfl|(simp only[firstArgMember];rfl)) ?_);refine xR ?_ (by size_fits);simp only[raiseNew];refine bC (wpAny_handled ?_);rw[show A.in1.handled=none from hh];refine bC (bU (wpAny_throw ?_));refine bC (Ao (T:="StopIteration") (b:=true) ⟨_,kO _ rfl,rfl⟩ isSubtype_stop ?_);exact bU (q _ (((tH ..).extBut.push _).push _))
end
section
variable{prog:Program}{w:World}{A:Around}
theorem S3(hh:A.handled=none)(I d:Addr)(x:d≠I)(cR:Array DictEntry)(ep:Nat):
  Walks prog w A I [I,d] [I] cR.size (fun i v=>∃e,cR[i]?=some e/\v=e.key) (fun i h=>h.IsKeyIter I d i cR.size ep/\AX h d cR ep) where
 sub:=fun b j=>by simp at j;simp[j]
 frame:=fun _ _ _ st hk=>⟨st.1.at fun o e=>hk I (by simp) o e,hk d (by simp) _ st.2⟩
 item:=fun i s Q E hi st p=>by
  have z:cR[i]?=some cR[i]:=Array.getElem?_eq_getElem hi;refine JX st.1 st.2 z fun h' q t=>?_
  exact p _ h' s.toks ⟨_,z,rfl⟩ ⟨q,(t.2 d x).trans st.2⟩ fun b o j e=>t.extBut b o (fun h=>j (by simp[h])) e
 done:=fun s Q E st p=>J8 hh st.1 st.2 (ez _) fun h' y=>p h' s.toks fun b o j e=>y b o (fun h=>j (by simp[h])) e
 self:=fun _ _ _ _ st p=>wpAny_pyIter_keyiter st.1 p
theorem U5{d:Addr}{cR:Array DictEntry}{ep:Nat}(lo:(d==sysModules)=false):KdlSrc prog w "dict" d d cR.size (fun i v=>∃e,cR[i]?=some e/\v=e.key) (fun h=>AX h d cR ep) where
 type:=fun _ j=>⟨_,j,rfl⟩
 there:=fun _ j=>⟨nc j,nc j⟩
 keep:=fun _ _ j hk=>hk d (.inl rfl) _ j
 notList:=by decide
 notTuple:=by decide
 hint:=fun _ _ _ _ j o=>kdl_hint_dict ⟨_,j,rfl⟩ o
 iter:=fun _ _ hh j=>⟨_,_,(fun _ _ o=>Ks lo j o),S3 hh _ d (qr (nc j)) cR ep,⟨⟨_,kO _ rfl,rfl,rfl⟩,iV _ j⟩⟩
end
section
variable{H:Type}{c:Cx H}{A:Around}{E:cV}{s:Shared}{env:Env}{nm:Nat->Option Str}
theorem zD(gd:Gd c){g:G}{σ bx:St H}{h h':Heap}{l:L}{k:Option Nat}{xs:List V}{v:V}{us:Array Value}{m:Nat}(R:Rel c g σ h)(F:Loc c env nm g h l)(y:new c.M k (.list xs) σ=some (v,bx)){a:Addr}(ha:h.get? a=none)
  (q:∀b o,h.get? b=some o->h'.get? b=some o) (ho:h'.get? a=some {cls:=.type "list",data:=.seq us m}) (r:cE c.N g xs us.toList) (B:xs.length<=bu):
  ∃g',dh env.locals g h g' h'/\Rel c g' bx h'/\Loc c env nm g' h' l/\cj c.N g' v (.ref a):=by
 obtain⟨n,rfl,hf,dG,hl,rfl⟩:=zJ y;have z:=R.obj n;rw[hf]at z;have eo:∀m b j,g.ad m b=some j->(g.put n a none).ad m b=some j:=fun m b j e=>by
  by_cases p:m=n
  ·subst p;cases b<;>simp_all [gS]
  ·rw[G.qW p];exact e
 obtain⟨I,t⟩:=R.new (L:=env.locals) (k:=σ.nx+1) (g':=g.put n a none) (h':=h') (o':=.list xs) hf dG (fun _ _ p=>G.qW p) rfl (fun b j e=>by
   cases b with
   |true=>rw[G.kM]at e;cases e
   |false=>rw[G.ka]at e;cases e;exact ha) (fun b J j e x=>by
   cases b<;>cases J<;>first|rfl|(rw[G.kM]at e;cases e)|(rw[G.kM]at x;cases x)) gd.sys q
  ⟨a,us,m,G.ka,G.kM,ho,cE.mono eo (fun _ _ e=>e) _ _ r,B⟩
 exact⟨_,t,I,F.da t fun o e=>q _ o e,a,rfl,G.ka⟩
theorem GW{N:Nm}{g:G}:∀{l:List V}{us:List Value},us.length=l.length->(∀j x u,bA l j=some x->us[j]?=some u->cj N g x u)->cE N g l us
 |[],us,h,_=>List.length_eq_zero_iff.mp h
 |x::xs,us,h,k=>by cases us with|nil=>simp at h|cons u r=>exact⟨u,r,rfl,k 0 x u rfl rfl,GW (by simpa using h) fun j y v e o=>k (j+1) y v e (by simpa using o)⟩
theorem F8:∀(n:Nat)(a:Int),(qV a n).length=n
 |0,_=>rfl
 |n+1,a=>by simp[qV,F8 n]
theorem Gl:∀(n:Nat)(a:Int)(j:Nat)(x:V),bA (qV a n) j=some x->x=.int (.l (a+j))
 |0,_,_,_,h=>by cases h
 |n+1,a,0,x,h=>by cases h;simp
 |n+1,a,j+1,x,h=>by have:=Gl n (a+1) j x h;rw[this];congr 2;omega
def wj:Nat->Value
 |0=>.builtin "len"
 |1=>.type "list"
 |3=>.builtin "sorted"
 |4=>.type "str"
 |5=>.type "tuple"
 |_=>.type "bool"
def IQ:Nat->Str
 |0=>"len"
 |1=>"list"
 |3=>"sorted"
 |4=>"str"
 |5=>"tuple"
 |_=>"bool"
section
variable(gd:Gd c){n:Nat}(rm:Rm A n){g:G}{σ bx:St H}{l:L}(R:Rel c g σ s.heap)(F:Loc c env nm g s.heap l){as:List V}{us:List Value}{v:V}
  (ho:cE c.N g as us) {Q:cV}
  (q:∀g' h' tk u,dh env.locals g s.heap g' h'->Rel c g' bx h'->Loc c env nm g' h' l->cj c.N g' v u->Q u {s with heap:=h',toks:=tk})
include gd rm R F ho q
theorem Sk(e:H7 c.M as σ=some (v,bx)):wpAny c.md A (call (.builtin "len") us) Q E s:=by
 unfold H7 at e;split at e
 ·rename_i r;cases p:c.M.get σ.h r with|list xs=>rw[p]at e;cases e;obtain⟨u,rfl,a,rfl,ha⟩:=ho.inv1;obtain⟨vs,m,o,t,x,_⟩:=R.list p ha;have j:=t.len;simp only[qo]at j;unfold bu at x;exact call_len_list ⟨_,o,rfl,_,rfl⟩ (by omega) (q g s.heap _ _ (.refl _ _ _) R F ⟨s.toks+1,by simp[Z.val,j]⟩)|_=>rw[p]at e;cases e
 ·cases e
theorem RY(t:HA c.M as σ=some (v,bx)):wpAny c.md A (call (.type "list") us) Q E s:=by
 unfold HA at t;split at t
 ·rename_i r;obtain⟨u,rfl,a,rfl,ha⟩:=ho.inv1;cases p:c.M.get σ.h r with
  |list xs=>rw[p]at t;obtain⟨vs,m,l1,U,W,_⟩:=R.list p ha;have O:=U.len;simp only[qo]at O;refine call_list_seq a (.inl rfl) l1 rfl rfl (fun h' Y z ho=>?_) (by rw[O];exact rH W);obtain⟨g',B,I,J,K⟩:=zD gd R F t m4 z ho U W;exact q g' h' s.toks _ B I J K
  |dict es ep=>
   rw[p]at t;obtain⟨cR,D⟩:=R.dict p ha;refine kdl_call (U5 (R.sH ha)) rm.hd D.ho (by rw[D.size];exact rH D.hl) fun h' tk acc Y z ho hi=>?_
   have hr:cE c.N g (es.map (·.1)) acc.toList:=by
    refine GW (by have:=hi.1;simp[this,D.size]) fun j x u e e'=>?_
    obtain⟨de,d1,rfl⟩:=hi.2 j u (by simpa using e');rw[oG,sL]at e;cases pe:es[j]? with
    |none=>rw[pe]at e;cases e
    |some aa=>
     rw[pe]at e;cases e;obtain⟨S,kd,f1,_,_,f4,_⟩:=D.hr.at pe;have:cR[j]?=some S:=by simpa using f1
     rw[d1]at this;cases this;exact f4
   obtain⟨g',B,I,J,K⟩:=zD gd R F t m4 z ho hr (by simpa using D.hl);exact q g' h' tk _ B I J K
  |_=>rw[p]at t;cases t
 ·rename_i xs;obtain⟨u,rfl,a,vs,rfl,h1,Z⟩:=ho.inv1;obtain⟨o,e1,e2,m,e3⟩:=R.tup a vs h1;have O:=Z.len;obtain⟨y,t⟩:=gZ t;rw[mD]at y;refine call_list_seq a (.inr rfl) e1 e2 e3 (fun h' Y z ho=>?_) (by simp[O];exact rH (Nat.le_of_lt y));obtain⟨g',B,I,J,K⟩:=zD gd R F t m4 z ho (by simpa using Z) (Nat.le_of_lt y);exact q g' h' s.toks _ B I J K
 ·cases t
theorem RN(t:Hi c.M as σ=some (v,bx)):wpAny c.md A (call (.type "tuple") us) Q E s:=by
 unfold Hi at t;split at t
 ·rename_i r;cases p:c.M.get σ.h r with
  |list xs=>
   rw[p]at t;cases t;obtain⟨u,rfl,a,rfl,ha⟩:=ho.inv1;obtain⟨vs,m,S,K,U,_⟩:=R.list p ha;have O:=K.len;simp only[qo]at O;refine call_tuple_list ⟨_,S,rfl,_,rfl⟩ (fun h' J=>?_) (by rw[O];exact rH U);have x:=R.grow J;have y:=F.grow J;have z:dh env.locals g s.heap g h':=.grow J;have B:∀b o,h'.get? b=some o->(h'.push {cls:=.type "tuple",data:=.seq vs}).get? b=some o:=fun b o e=>iV _ e
   obtain⟨I,j⟩:=x.tuple (L:=env.locals) (vs:=vs.toList) m4 B ⟨_,kO _ rfl,rfl,0,by simp⟩;exact q _ _ s.toks _ (z.trans j) I (y.da j fun o e=>B _ o e) ⟨_,vs.toList,rfl,G.zy,j.sP K⟩
  |_=>rw[p]at t;cases t
 ·cases t
theorem RZ(e:HB as σ=some (v,bx)):wpAny c.md A (call (.type "bool") us) Q E s:=by
 unfold HB at e;split at e
 ·cases e;obtain⟨u,rfl,rfl⟩:=ho.inv1;exact call_bool_bool (q g s.heap _ _ (.refl _ _ _) R F rfl)
 ·cases e
theorem Sm(e:H8 c.M as σ=some (v,bx)):wpAny c.md A (call (.type "str") us) Q E s:=by
 unfold H8 at e;split at e
 ·rename_i i;cases p:c.M.P.dec i with
  |none=>rw[p]at e;cases e
  |some b=>
   rw[p]at e;cases e;obtain⟨u,rfl,t,rfl⟩:=ho.inv1;obtain⟨o,x,j⟩:=gd.dec _ _ p;refine PySem.P.str_of_int ?_ (q g s.heap _ _ (.refl _ _ _) R F ⟨_,by rw[←j];rfl⟩);have y:(Z.val c.N (.l i)).natAbs<1000:=by show i.natAbs<1000;omega
   exact Nat.lt_of_le_of_lt (Nat.log2_le_self _) (by omega)
 ·cases e
end
end
theorem S4{h:Heap}{d:Addr}{m:Str->Option Value}(q:h.Ns d m):∃j,h.get? d=some j/\∀y,lookIn y j=some (m y):=by
 obtain⟨o,es,ep,z,B,I,J⟩:=q;refine⟨o,z,fun y=>?_⟩;unfold lookIn;rw[B];simp only;have e:=J y;unfold nsFind findBy at e;rw[←Array.find?_toList]at e;cases p:es.toList.find? (fun e=>e.key.isStr y)with
 |some en=>rw[p]at e;simp only[Option.map_some]at e;simp only[e]
 |none=>
  rw[p]at e;simp only[Option.map_none]at e;have:es.toList.any (·.refKey)=false:=by rw[List.any_eq_false];intro x K;obtain⟨n,t,hk⟩:=I x (DF.mp K);simp[DictEntry.refKey,hk]
  simp only[this,mG,lr,e]
theorem KS{K:Frag}{C:Addr}{name:Str}(h:yy K C name=true):plainGet K C name=true/\hasDictIn K C=true/\(∃j,findIn K (.ref C) name=some j/\noGet K j=true)/\
  findIn K (.ref C) "__setattr__"=some (some (.builtin "object.__setattr__"))/\plainOver K C=true/\takerIn K C name=some none:=by
 unfold yy at h;simp only[cY]at h;obtain⟨⟨⟨⟨⟨t,x⟩,o⟩,p⟩,y⟩,q⟩:=h;refine⟨t,x,?_,?_,y,?_⟩
 ·split at o
  ·rename_i j e;exact⟨j,e,o⟩
  ·cases o
 ·split at p
  ·rename_i v e;rw[e,dM.mp p]
  ·cases p
 ·split at q
  ·rename_i e;exact e
  ·cases q
theorem S5{K:Frag}{C:Addr}{name:Str}{f:Addr}(h:Bt K C name f=true):plainGet K C name=true/\findIn K (.ref C) name=some (some (.ref f))/\typeIn K (.ref f)=some (.type "function")/\keepIn K (.ref f)=true:=by
 unfold Bt at h;simp only[cY]at h;obtain⟨⟨⟨p,j⟩,o⟩,q⟩:=h;refine⟨p,?_,?_,q⟩
 ·split at j
  ·rename_i v e;rw[e,dM.mp j]
  ·cases j
 ·split at o
  ·rename_i v e;rw[e,dM.mp o]
  ·cases o
theorem S6{K:Frag}{C:Addr}{f:Addr}(h:EO K C f=true):makesIn K C=true/\findIn K (.ref C) "__init__"=some (some (.ref f))/\typeIn K (.ref f)=some (.type "function")/\keepIn K (.ref C)=true:=by
 unfold EO at h;simp only[cY]at h;obtain⟨⟨⟨p,j⟩,o⟩,q⟩:=h;refine⟨p,?_,?_,q⟩
 ·split at j
  ·rename_i v e;rw[e,dM.mp j]
  ·cases j
 ·split at o
  ·rename_i v e;rw[e,dM.mp o]
  ·cases o
section
variable{H:Type}{c:Cx H}{A:Around}{E:cV}{s:Shared}{env:Env}{nm:Nat->Option Str}
theorem Rel.pM{g:G}{σ:St H}{h:Heap}(gd:Gd c)(R:Rel c g σ h):c.K.In h:=gd.pM.keeps R.old
theorem Rel.inst{g:G}{σ:St H}{h:Heap}(R:Rel c g σ h){n:Ad}{a:Addr}{cl:Nat}{fs:List (Nat×V)}(e:c.M.get σ.h n=.inst cl fs)(ha:g.ad n false=some a):
  ∃d m j,g.ad n true=some d/\h.Ns d m/\h.DictLe d fs.length/\InstAt h a (instObj (c.N.cl cl) d) (c.N.cl cl) (some j)/\(∀y,lookIn y j=some (m y))/\(∀y,m y≠none->∃f,c.M.P.eE cl f=true/\y=c.N.fd f)/\
   ∀f x,fld f fs=some x->c.M.P.eE cl f=true/\∃v,m (c.N.fd f)=some v/\cj c.N g x v:=by
 have z:=R.obj n;rw[e]at z;obtain⟨a1,d,m,o,q,t,p,B,I,J⟩:=z;rw[ha]at o;cases o;obtain⟨j,o1,o2⟩:=S4 p;exact⟨d,m,j,q,p,B,⟨t,rfl,rfl,o1⟩,o2,I,J⟩
theorem R0{g:G}{x:V}{v:Value}(h:cj c.N g x v):handedIn v=true:=by cases x with|none=>cases h;rfl|bool=>cases h;rfl|int=>obtain⟨t,rfl⟩:=h;rfl|str=>obtain⟨t,rfl⟩:=h;rfl|tup=>obtain⟨a,vs,rfl,_⟩:=h;rfl|ref=>obtain⟨a,rfl,_⟩:=h;rfl|no=>exact absurd h id|lst=>exact absurd h id
theorem J9(gd:Gd c){g:G}{σ bx:St H}(R:Rel c g σ s.heap){x v:V}{f:Nat}{u:Value}(h:kR c.M x f σ=some (v,bx))(t:cj c.N g x u){e:Bool}{Q:cV}(q:∀r tk,bx=σ->cj c.N g v r->Q r {s with toks:=tk}):
  wpAny c.md A (getAttr u (c.N.fd f) e) Q E s:=by
 unfold kR at h;cases x with
 |ref n=>obtain⟨a,rfl,ha⟩:=t;simp only at h;cases p:c.M.get σ.h n with|inst cl fs=>rw[p]at h;obtain⟨y,O,rfl⟩:=C2 h;obtain⟨d,m,S,U,W,_,I,z,Y,B⟩:=R.inst p ha;obtain⟨J,r,K,j⟩:=B f v y;obtain⟨k1,k2,⟨o,k3,k4⟩,_⟩:=KS (gd.acc cl f J);exact get_value (R.pM gd) I (plainGet_of k1).1 (findObj_own k2 k3 k4 (by rw[z,K])) (R0 j) (q r _ rfl j)|_=>rw[p]at h;cases h
 |_=>cases h
theorem JY{f:Nat}{v:V}:∀(fs:List (Nat×V)),fld f (put f v fs)=some v
 |[]=>by simp[put,fld]
 |(g,u)::r=>by simp only[put];cases p:Nat.beq g f with|true=>simp[fld]|false=>simp only[fld,p];exact JY r
theorem Kt{f e:Nat}{v:V}(h:e≠f):∀(fs:List (Nat×V)),fld e (put f v fs)=fld e fs
 |[]=>by
  have:Nat.beq f e=false:=by cases q:Nat.beq f e with|false=>rfl|true=>exact absurd (gc.mp q).symm h
  simp[put,fld,this]
 |(g,u)::r=>by
  have hf:Nat.beq f e=false:=by cases q:Nat.beq f e with|false=>rfl|true=>exact absurd (gc.mp q).symm h
  simp only[put];cases p:Nat.beq g f with|true=>have:=gc.mp p;subst this;simp only[fld,hf]|false=>simp only[fld];rw[Kt h r]
theorem Ka{f:Nat}{v w:V}:∀{fs:List (Nat×V)},fld f fs=some w->(put f v fs).length=fs.length
 |[],h=>by cases h
 |(g,u)::r,h=>by simp only[put,fld]at h⊢;cases p:Nat.beq g f with|true=>rfl|false=>rw[p]at h;simp[Ka h]
theorem Kb{f:Nat}{v:V}:∀{fs:List (Nat×V)},fld f fs=none->(put f v fs).length=fs.length+1
 |[],h=>rfl
 |(g,u)::r,h=>by simp only[put,fld]at h⊢;cases p:Nat.beq g f with|true=>rw[p]at h;cases h|false=>rw[p]at h;simp[Kb h]
theorem Ug{a:Addr}{m:Str->Option Value}{name:Str}{v:Value}{n:Nat}{Q:Unit->Shared->Prop}(O:s.heap.Ns a m)(hl:s.heap.DictLe a n)
  (h:∀h' tk,h'.Ns a (fun x=>if x=name then some v else m x)->Heap.SameBut a s.heap h'->h'.DictLe a (if(m name).isSome then n else n+1)->Q () {s with heap:=h',toks:=tk}):
  wpAny c.md A (nsSet a name v) Q E s:=by
 obtain⟨o,es,ep,ho,hd,hk,B⟩:=O;have z:es.any (·.refKey)=false:=by rw[Array.any_eq_false'];intro e S;obtain⟨n,t,h⟩:=hk e S;simp[DictEntry.refKey,h]
 have hsz:=hl _ _ _ ho hd;unfold nsSet;refine bC (bC (wpAny_askSetting (bU (bC (wpAny_mkText (bC (wpAny_loadPart ho ?_)))))));rw[hd];dsimp only;rw[aRefKeyMayBeTheName_at,z,tJ];simp only[mG,lr];refine wpAny_updatePart ho ?_;generalize(if name.cps.isEmpty=true then 0 else reduceHash (c.md.w.params.strHash name.cps))=hash;have key:∃j q,Obj.putName name hash (.str name s.toks) v o={o with data:=.dict j q}/\StrKeys j/\(∀x,nsFind j x=if x=name then some v else m x)/\j.size<=(if(m name).isSome then n else n+1):=by
  obtain⟨W,Y,Z,sl⟩:=o;subst hd;have p:=B name;rw[show nsFind es name=findBy (fun n v=>v.isStr n) es name from rfl,findBy_of_findIdx?]at p;cases hi:es.findIdx? (fun e=>e.key.isStr name)with
  |some i=>
   rw[hi]at p;refine⟨es.modify i fun e=>{e with val:=v},ep,by simp only[Obj.putName_eq,Obj.putNameByArray,hi],hk.modify _ _,fun x=>?_,?_⟩
   ·rw[←B];exact findBy_modify (fun n v=>v.isStr n) Value.isStr_inj es name x v i hi
   ·obtain⟨I,_,_⟩:=Array.findIdx?_eq_some_iff_getElem.mp hi;rw[←p];simp[Array.getElem?_eq_getElem I];exact hsz
  |none=>
   refine⟨es.push ⟨hash,.str name s.toks,v⟩,ep+1,by simp only[Obj.putName_eq,Obj.putNameByArray,hi],hk.push _ _ _ _,fun x=>?_,?_⟩
   ·rw[←B];exact findBy_push (fun n v=>v.isStr n) es name x _ _ v (fun y=>by
     show(name==y)=decide (y=name)
     by_cases h:y=name
     ·subst h;simp
     ·have:¬name=y:=fun e=>h e.symm
      simp[h,this]) hi
   ·rw[hi]at p;rw[←p];simp;exact hsz
 obtain⟨j,q,k1,k2,k3,k4⟩:=key;have J:(s.heap.update a (Obj.putName name hash (.str name s.toks) v)).get? a=some {o with data:=.dict j q}:=by rw[←k1];exact vS _ ho (by rw[k1];rfl)
 exact h _ _ ⟨_,j,q,J,rfl,k2,k3⟩ (tH ..) fun o' e1 p1 K U=>by rw[J]at K;cases K;cases U;exact k4
theorem Kc(gd:Gd c){g:G}{σ bx:St H}{l:L}(R:Rel c g σ s.heap)(F:Loc c env nm g s.heap l){x v:V}{f:Nat}{u z:Value}{uu:Unit}(h:qt c.M x f v σ=some (uu,bx))(hx:cj c.N g x u)(hv:cj c.N g v z){Q:Unit->Shared->Prop}
  (q:∀h' tk,dh env.locals g s.heap g h'->Rel c g bx h'->Loc c env nm g h' l->Q () {s with heap:=h',toks:=tk}):
  wpAny c.md A (setAttr u (c.N.fd f) z) Q E s:=by
 unfold qt at h;cases x with
 |ref n=>
  obtain⟨a,rfl,ha⟩:=hx;simp only at h;cases p:c.M.get σ.h n with
  |inst cl fs=>
   rw[p]at h;obtain⟨o,h⟩:=gZ h;rw[cY,mD]at o;obtain⟨o,Y⟩:=o;obtain⟨Z,u2,rfl⟩:=C3 h;obtain⟨d,m,od,S,i2,i6,I,i3,i4,i5⟩:=R.inst p ha;obtain⟨k1,k2,⟨aa,k3,k4⟩,k5,k6,k7⟩:=KS (gd.acc cl f o);have X:=R.pM gd;refine set_plain X I k5 (osa_open (s:={s with toks:=s.toks+1}) X I k6 k7 fun b=>?_);obtain⟨cd,hc,U⟩:=any_some k2;refine bC (bU (bC (bC (wpAny_loadPart I.at_ (bC (Looks.here (s:={s with toks:=s.toks+1}) (looks_clsIn X hc) ?_))))));rw[U];refine bU (a:=some d) (bC (bU (bC ?_)));refine Ug (s:={s with toks:=s.toks+1}) i2 i6 fun h' tk t hs hle=>?_
   obtain⟨oh,ab,ae,B,J,_⟩:=id t;refine bC (wpAny_lookBehind B (by rw[J];exact pastItsLine_dict (by have:=hle _ _ _ B J;rw[v9];split at this<;>omega)) (bU ?_));have W:a≠d:=fun e=>by have:=R.inj n false n true a ha (e▸S) Z;cases this.2
   have K:gS c g h' n (.inst cl (put f v fs)):=by
    refine⟨a,d,_,ha,S,(hs.2 a W).trans I.at_,t,hle.mono ?_,fun y hy=>?_,fun O x' j=>?_⟩
    ·cases e:fld f fs with|some w=>obtain⟨_,r,m1,_⟩:=i5 f w e;rw[m1,Ka e];exact ez _|none=>rw[Kb e];split<;>omega
    ·by_cases e:y=c.N.fd f
     ·exact⟨f,o,e⟩
     ·simp only[bL e]at hy;exact i4 y hy
    ·by_cases e:O=f
     ·subst e;rw[JY]at j;cases j;exact⟨o,z,by simp,hv⟩
     ·rw[Kt e]at j;obtain⟨j1,w,j2,j3⟩:=i5 O x' j;refine⟨j1,w,?_,j3⟩;have:¬c.N.fd O=c.N.fd f:=fun z=>e (gd.NB cl O f j1 o z)
      simp only[bL this];exact j2
   obtain⟨R',T',F'⟩:=uy (k:=σ.nx+1) R F S Z hs K;exact q h' _ T' R' F'
  |_=>rw[p]at h;cases h
 |_=>cases h
def vH:Expr->Bool
 |.Call ..=>false
 |_=>true
theorem Ku{o:Expr}{j:Str}{e:Sem Value}(h:vH o=true):attributeBase o j env e=e:=by cases o<;>first|(cases h;done)|rfl
theorem Wp(gd:Gd c){a:Expr}{x:X H V}{f:Nat}{name:Str}(pos:Pos)(J:name=c.N.fd f)(K:vH a=true)(h:dv c A env nm a x):dv c A env nm (.Attribute a name pos) (EG c.M x f):=by intro Q E s g σ l v bx R F z q;obtain⟨S,B,O,z⟩:=cP z;subst J;rw[arm_eval_Attribute,Ku K];refine bC (h _ _ _ _ _ _ _ _ R F O fun j bG o I p e t y=>bC (rN (bC (iy ?_))));exact J9 (s:={s with heap:=bG,toks:=o}) gd e z y fun r tk hs hr=>bC (wpAny_letTemporaryGo (bU (q j bG tk r p (hs▸e) t hr)))
end
theorem nF{pos:Pos}{env:Env}:∀{es:List Expr},es.all jd=true->(backTo pos (starEach es env)).any (·.1)=false
 |[],_=>rfl
 |e::r,h=>by
  rw[xX,cY]at h;rw[zl h.1];show(false||(backTo pos (starEach r env)).any (·.1))=false
  rw[nF h.2];rfl
theorem uq{M:Model}{A:Around}{E:cV}{s:Shared}{f:Value}{pos:Pos}{env:Env}{es:List Expr}{Q:Args->Shared->Prop}(j:es.all jd=true)
  (h:wpAny M A (spliced (backTo pos (starEach es env))) (fun vs o=>Q ⟨vs,[]⟩ o) E s):wpAny M A (evalArgs f true (backTo pos (starEach es env)) []) Q E s:=by
 cases es with
 |nil=>
  unfold evalArgs;show wpAny M A (spliced []>>=_) Q E s
  refine bC (qp h (fun vs o h'=>?_) fun _ _ x=>x);refine bC (bU (iy ?_));exact bC (bU (bC (bU (bU h'))))
 |cons e r=>rw[xX,cY]at j;rw[zl j.1]at h⊢;exact evalArgs_plain h
section
variable{H:Type}{c:Cx H}{A:Around}{E:cV}{s:Shared}{env:Env}{nm:Nat->Option Str}
theorem cj.base{g:G}{σ:St H}{h:Heap}(R:Rel c g σ h){x:V}{v:Value}(r:cj c.N c.iz x v):cj c.N g x v:=cj.mono R.oY R.oZ x v r
theorem uw(gd:Gd c)(f:jj env nm){x:Str}(e:env.kindOf x=some .globalImplicit)(hd:(x==("__debug__":Str))=false){v:Value}(j:c.N.gl x=some v){g:G}{σ:St H}(R:Rel c g σ s.heap){pos:Pos}{Q:cV}(q:Q v s):
  wpAny c.md A (eval (.Name x pos) env) Q E s:=
 Name_function_global f.kind e (gd.glob x v j A env Q E s f.glob f.AV R.old q) hd
theorem Uh(gd:Gd c)(f:jj env nm){x:Str}(j:Nat)(pos:Pos)(o:x=c.N.gn j)(p:c.M.P.gv j≠ .no)(t:env.kindOf x=some .globalImplicit)(hd:(x==("__debug__":Str))=false):dv c A env nm (.Name x pos) (xC (c.M.P.gv j)):=by intro Q E s g σ l v bx R F e q;cases e;obtain⟨u,y,z⟩:=gd.OR j p;subst o;exact uw gd f t hd y R (q g s.heap s.toks u (.refl _ _ _) R F (cj.base R z))
def ND(c:Cx H)(n f:Nat)(x:List V->St H->R H V):Prop:=∀(A:Around)(T:Result->Shared->Prop)(s:Shared)(g:G)(σ:St H)(vs:List V)(us:List Value)(v:V)(bx:St H),Rm A n->Rel c g σ s.heap->cE c.N g vs us->x vs σ=some (v,bx)->
 (∀g' h' tk u,(∀L,dh L g s.heap g' h')->(∀a o,s.heap.get? a=some o->(∀n b,g.ad n b≠some a)->h'.get? a=some o)->Rel c g' bx h'->cj c.N g' v u->T (.ok (.ret u)) {s with heap:=h',toks:=tk})->
 codeAny c.md A (.call (.ref (c.N.fa f)) ⟨us,[]⟩) T s
def uO(c:Cx H)(n:Nat)(C:CH H):Prop:=∀f,ND c n f (C f)
theorem F9{g g':G}{h h':Heap}{l:L}(F:Loc c env nm g h l)(T:∀L,dh L g h g' h')(k:∀a o,h.get? a=some o->(∀n b,g.ad n b≠some a)->h'.get? a=some o):Loc c env nm g' h' l:=
 F.da (T _) fun o e=>k _ o e F.own
theorem Wq(gd:Gd c)(f:jj env nm){n:Nat}(rm:Rm A n){x:Str}{es:List Expr}{y:X H (List V)}{C:CH H}(hC:uO c n C)(i:Nat)(p pos:Pos)(hg:c.N.gl x=some (.ref (c.N.fa i)))(hk:keepIn c.K (.ref (c.N.fa i))=true)
  (hx:env.kindOf x=some .globalImplicit) (hd:(x==("__debug__":Str))=false) (Z:es.all jd=true) (h:qy c A env nm es y):dv c A env nm (.Call (.Name x p) es [] pos) (EJ C i y):=by
 intro Q E s g σ l v bx R F o q;obtain⟨vs,t,e1,o⟩:=cP o;refine Call_ (uw gd f hx hd hg R ?_);refine callWith_of (P:=c.K.In) (by rw[nF Z];rfl) (keeps_K hk) (uq Z (h pos _ _ _ _ _ _ _ _ R F e1 fun z bG B us I e J K aa=>⟨e.pM gd,?_⟩));refine wpAny_call (hC i A _ {s with heap:=bG,toks:=B} z t vs us v bx rm e K o fun O S tk u j U W Y=>?_);exact q O S tk u (I.trans (j _)) W (F9 J j U) Y
theorem RB(gd:Gd c){n:Nat}(rm:Rm A n){g:G}{σ bx:St H}{l:L}(R:Rel c g σ s.heap)(F:Loc c env nm g s.heap l){b:Nat}{as:List V}{us:List Value}{v:V}(j:b≠3)(o:b≠2)
  (ho:cE c.N g as us) (e:builtin c.M b as σ=some (v,bx)) {Q:cV}
  (q:∀g' h' tk u,dh env.locals g s.heap g' h'->Rel c g' bx h'->Loc c env nm g' h' l->cj c.N g' v u->Q u {s with heap:=h',toks:=tk}):wpAny c.md A (call (wj b) us) Q E s:=by
 match b,e with|0,e=>exact Sk gd rm R F ho q e|1,e=>exact RY gd rm R F ho q e|2,e=>exact absurd rfl o|3,e=>exact absurd rfl j|4,e=>exact Sm gd rm R F ho q e|5,e=>exact RN gd rm R F ho q e|6,e=>exact RZ gd rm R F ho q e|(_+7),e=>cases e
theorem LX(gd:Gd c)(f:jj env nm){x:Str}{es:List Expr}{y:X H (List V)}(b:Nat)(p pos:Pos)(hg:c.N.gl x=some (wj b))(hx:env.kindOf x=some .globalImplicit)(hd:(x==("__debug__":Str))=false)(j:es.all jd=true)
  (h:qy c A env nm es y) (hb:∀(E:cV)(s:Shared)(g:G)(σ bx:St H)(l:L)(as:List V)(us:List Value)(v:V)(Q:cV),Rel c g σ s.heap->Loc c env nm g s.heap l->cE c.N g as us->builtin c.M b as σ=some (v,bx)->
   (∀g' h' tk u,dh env.locals g s.heap g' h'->Rel c g' bx h'->Loc c env nm g' h' l->cj c.N g' v u->Q u {s with heap:=h',toks:=tk})->wpAny c.md A (call (wj b) us) Q E s):dv c A env nm (.Call (.Name x p) es [] pos) (EK c.M b y):=by
 intro Q E s g σ l v bx R F o q;obtain⟨vs,e,e1,o⟩:=cP o;refine Call_ (uw gd f hx hd hg R ?_);have body:∀fv:Value,wpAny c.md A (evalArgs fv true (backTo pos (starEach es env)) []) (fun a e=>wpAny c.md A (call (wj b) ([]++a.pos) a.kw) Q E e) E s:=fun fv=>uq j (h pos _ _ _ _ _ _ _ _ R F e1 fun t bG z us B I J K aa=>hb E {s with heap:=bG,toks:=z} t e bx l vs us v Q I J K o fun O S tk u U W Y Z=>q O S tk u (B.trans U) W Y Z)
 match b,body with|0,body=>exact callWith_builtin (nF j) (body _)|1,body=>exact tK (nF j) (body _)|2,body=>exact tK (nF j) (body _)|3,body=>exact callWith_builtin (nF j) (body _)|4,body=>exact tK (nF j) (body _)|5,body=>exact tK (nF j) (body _)|(_+6),body=>exact tK (nF j) (body _)
theorem Wr(gd:Gd c)(f:jj env nm){n:Nat}(rm:Rm A n){x:Str}{es:List Expr}{y:X H (List V)}(b:Nat)(p pos:Pos)(j:b≠3)(o:b≠2)(t:c.N.gl x=some (wj b))(e:env.kindOf x=some .globalImplicit)(hd:(x==("__debug__":Str))=false)(z:es.all jd=true)
  (h:qy c A env nm es y):dv c A env nm (.Call (.Name x p) es [] pos) (EK c.M b y):=
 LX gd f b p pos t e hd z h fun _ _ _ _ _ _ _ _ _ _ R F ho e q=>RB gd rm R F j o ho e q
theorem Ws{pos:Pos}{es:List Expr}(e:es.all jd=true)(hl:es.length<20):methodCallForm (es.length+([]:List Keyword).length) (backTo pos (starEach es env)) (backToKw pos (keywordEach [] env))=true:=by
 unfold methodCallForm;have j:(backTo pos (starEach es env)).all (fun x=>!x.1)=true:=by rw[gR];intro x o;cases q:x.1 with|false=>rfl|true=>have:=Au.mpr ⟨x,o,q⟩;rw[nF e]at this;cases this
 rw[j];have p:(backToKw pos (keywordEach [] env))=[]:=rfl;rw[p];simp;omega
theorem R2{o:Expr}{name:Str}{e pos:Pos}{es:List Expr}{Q:cV}(B:vH o=true)(I:es.all jd=true)(hl:es.length<20)(hp:(e.endLine==pos.line)=true)
  (h:wpAny c.md A (eval o env) (fun z j=>∀pl:Sem Bool,wpAny c.md A (getMethod z name pl) (fun p q=>wpAny c.md A (callWith pos p.1 p.2 (backTo pos (starEach es env)) []) Q E q) E j) E s):
  wpAny c.md A (eval (.Call (.Attribute o name e) es [] pos) env) Q E s:=by
 rw[arm_eval_Call,Ku B];refine bC (qp h (fun z j bG=>bC (rN ?_)) fun _ _ x=>x);have t:methodCallPos true o env e pos=pure pos:=by unfold methodCallPos;simp[hp]
 unfold methodCall;rw[Ws I hl];refine bC (iy (qp (bG _) (fun p q y=>?_) fun _ _ x=>x));exact bC (wpAny_of_eq t y)
theorem Ui{M:Mc H}{h:H}{r:Ad}{m:Nat}{o:Option Nat}(e:own M h r m=some o):(∃cl fs f,M.get h r=.inst cl fs/\M.P.me cl m=some f/\o=some f)∨(o=none/\lx (M.get h r)<3):=by
 unfold own at e;cases p:M.get h r with
 |free=>rw[p]at e;cases e
 |inst cl fs=>rw[p]at e;simp only at e;cases q:M.P.me cl m with|none=>rw[q]at e;cases e|some f=>rw[q]at e;cases e;exact .inl ⟨cl,fs,f,rfl,q,rfl⟩
 |list=>rw[p]at e;cases e;exact .inr ⟨rfl,by simp[lx]⟩
 |dict=>rw[p]at e;cases e;exact .inr ⟨rfl,by simp[lx]⟩
 |set=>rw[p]at e;cases e;exact .inr ⟨rfl,by simp[lx]⟩
def Bu(N:Nm)(m:Nat):Str:=match yc m with
 |some s=>s
 |none=>N.md m
theorem RC{M:Mc H}{k:Nat}{r:Ad}{m:Nat}{as:List V}{σ bx:St H}{v:V}(h:gO M k r m as σ=some (v,bx)):(k=0/\(m=0∨m=1))∨(k=1/\(m=1∨m=2))∨(k=2/\m=3):=by
 unfold gO at h;cases hk:Nat.beq (lx (M.get σ.h r)) k with
 |false=>rw[hk]at h;cases h
 |true=>
  rw[hk]at h;replace hk:=gc.mp hk;subst hk;simp only[sG]at h;cases p:M.get σ.h r with
  |list xs=>
   rw[p]at h
   match m,h with|0,h=>exact .inl ⟨rfl,.inl rfl⟩|1,h=>exact .inl ⟨rfl,.inr rfl⟩|(_+2),h=>cases h
  |dict es ep=>
   rw[p]at h
   match m,h with|0,h=>cases h|1,h=>exact .inr (.inl ⟨rfl,.inl rfl⟩)|2,h=>exact .inr (.inl ⟨rfl,.inr rfl⟩)|(_+3),h=>cases h
  |set xs=>
   rw[p]at h
   match m,h with|0,h=>cases h|1,h=>cases h|2,h=>cases h|3,h=>exact .inr (.inr ⟨rfl,rfl⟩)|(_+4),h=>cases h
  |_=>rw[p]at h;cases h
theorem Wt(gd:Gd c){n:Nat}(rm:Rm A n){o:Expr}{es:List Expr}{x:X H V}{y:X H (List V)}{C:CH H}(hC:uO c n C)(m:Nat){name:Str}(ae pos:Pos)(hm:name=Bu c.N m)
  (ap:∀i f,c.M.P.me i m=some f->yc m=none) (av:∀i f,c.M.P.me i m=some f->keepIn c.K (.ref (c.N.fa f))=true)
  (hc:vH o=true) (hn:es.all jd=true) (hl:es.length<20) (hp:(ae.endLine==pos.line)=true) (h:dv c A env nm o x) (k:qy c A env nm es y):dv c A env nm (.Call (.Attribute o name ae) es [] pos) (OD c.M C x m y):=by
 intro Q E s g σ l v bx R F p q;obtain⟨v1,ak,e1,p⟩:=cP p;refine R2 hc hn hl hp (h _ _ _ _ _ _ _ _ R F e1 fun ar bG af au ag e ah al=>fun pl=>?_);unfold ic at p;cases v1 with
 |ref r=>
  obtain⟨a,rfl,ha⟩:=al;simp only at p;cases po:own c.M ak.h r m with
  |none=>rw[po]at p;cases p
  |some oo=>
   rw[po]at p;rcases Ui po with⟨cl,fs,f,i1,i2,rfl⟩|⟨rfl,i1⟩
   ·obtain⟨vs,ai,e2,p⟩:=cP p;obtain⟨d,mm,od,j1,j2,j3,I,j4,j5,j6⟩:=e.inst i1 ha;obtain⟨k1,k2⟩:=gd.ic cl m f i2;obtain⟨k3,k4,k5,k6⟩:=S5 k1;have t:name=c.N.md m:=by rw[hm];unfold Bu;rw[ap cl f i2]
    subst t;have aq:mm (c.N.md m)=none:=by cases z:mm (c.N.md m)with|none=>rfl|some w=>obtain⟨f',z1,z2⟩:=j5 (c.N.md m) (by rw[z];simp);exact absurd z2.symm (k2 f' z1)
    refine method_fn (s:={s with heap:=bG,toks:=af}) (e.pM gd) I (plainGet_of k3).1 (plainGet_of k3).2 k4 k5 (by show(lookIn _ od).map _=_;rw[j4,aq];rfl) ?_;refine callWith_of (P:=c.K.In) (by rw[nF hn];rfl) (keeps_K k6) (uq hn (k pos _ _ _ _ _ _ _ _ e ah e2 fun aj K O us j B S U am=>⟨B.pM gd,?_⟩));refine wpAny_call (hC f A _ {s with heap:=K,toks:=O} aj ai (.ref r::vs) (.ref a::us) v bx rm B ⟨_,_,rfl,⟨a,rfl,j.ad _ _ _ ha⟩,U⟩ p fun W Y tk u J an Z aa=>?_);exact q W Y tk u ((ag.trans j).trans (J _)) Z (F9 S J an) aa
   ·obtain⟨vs,ai,e2,p⟩:=cP p;have hk:=RC p;have ab:∃s,yc m=some s:=by rcases hk with⟨_,rfl|rfl⟩|⟨_,rfl|rfl⟩|⟨_,rfl⟩<;>exact⟨_,rfl⟩
    obtain⟨ms,ab⟩:=ab;have t:name=ms:=by rw[hm];unfold Bu;rw[ab]
    subst t;refine Ru (s:={s with heap:=bG,toks:=af}) e ha rfl ab hk ?_;refine callWith_builtin (nF hn) (uq hn (k pos _ _ _ _ _ _ _ _ e ah e2 fun aj K O us j B S U am=>?_));refine RL (s:={s with heap:=K,toks:=O}) gd (by have:=rm.un;omega) B S (j.ad _ _ _ ha) U p fun W Y tk u J Z ao aa=>?_
    exact q W Y tk u ((ag.trans j).trans J) Z ao aa
 |_=>cases p
theorem Uj{vs:List V}{xs:List V}(h:range vs=some xs):(∃n:Int,vs=[.int (.l n)]/\small n=true/\xs=qV 0 n.toNat)∨(∃a b:Int,vs=[.int (.l a),.int (.l b)]/\small a=true/\small b=true/\xs=qV a (b-a).toNat)∨
  (vs=[.int (.l 0),.int (.l 12),.int (.l 4)]/\xs=[.int (.l 0),.int (.l 4),.int (.l 8)]):=by
 unfold range at h;split at h
 ·obtain⟨e,j⟩:=gZ h;cases j;exact .inl ⟨_,rfl,e,rfl⟩
 ·obtain⟨e,j⟩:=gZ h;cases j;rw[cY]at e;exact .inr (.inl ⟨_,_,rfl,e.1,e.2,rfl⟩)
 ·cases h;exact .inr (.inr ⟨rfl,rfl⟩)
 ·cases h
theorem Kd{a b:Int}(ha:small a=true)(e:small b=true):Builtin.Range.small a b 1=true/\Builtin.Range.rangeSize a b 1=((b-a).toNat:Int):=by rw[Gf]at ha e;refine⟨small_one (by omega) (by omega) (by omega) (by omega),?_⟩;rw[rangeSize_one];split<;>omega
theorem Kv{g:G}{vs:List V}{us:List Value}{xs:List V}(h:range vs=some xs)(hr:cE c.N g vs us){Q:cV}
  (q:∀ob tk a b st t u w,Builtin.Range.small a b st=true->Builtin.Range.rangeSize a b st=(xs.length:Int)->(∀j x,bA xs j=some x->x=.int (.l (a+j*st)))->IsRange (s.heap.push ob) s.heap.objs.size a b st t u w->Q (.ref s.heap.objs.size) {s with heap:=s.heap.push ob,toks:=tk}):
  wpAny c.md A (call (.type "range") us) Q E s:=by
 rcases Uj h with⟨n,rfl,o,rfl⟩|⟨a,b,rfl,o,p,rfl⟩|⟨rfl,rfl⟩
 ·obtain⟨u,rfl,t,rfl⟩:=hr.inv1;obtain⟨y,z⟩:=Kd (a:=0) (b:=n) (by decide) o;refine call_range_1 (q _ _ 0 n 1 _ t _ y (by rw[z,F8];simp) (fun j x e=>by rw[Gl _ _ _ _ e];simp) (IsRange.new _ _ _ _ _ _ _))
 ·obtain⟨u,w,rfl,⟨t,rfl⟩,B,rfl⟩:=hr.inv2;obtain⟨y,z⟩:=Kd o p;refine call_range_2 (q _ _ a b 1 t B _ y (by rw[z,F8]) (fun j x e=>by rw[Gl _ _ _ _ e];simp) (IsRange.new _ _ _ _ _ _ _))
 ·obtain⟨O,r,rfl,⟨I,rfl⟩,p⟩:=hr;obtain⟨S,U,rfl,⟨J,rfl⟩,K,rfl⟩:=cE.inv2 p;refine call_range_3 (show(4:Int)≠0 by decide) (q _ _ 0 12 4 I J K (by decide) (by decide) (fun j x e=>?_) (IsRange.new _ _ _ _ _ _ _)) (.inl (PyProof.noPylong_small (show(4:Int).natAbs<1073741824 by decide)))
  match j,e with|0,e=>cases e;rfl|1,e=>cases e;rfl|2,e=>cases e;rfl|(_+3),e=>cases e
theorem Wu(gd:Gd c)(f:jj env nm){n:Nat}(rm:Rm A n){es:List Expr}{y:X H (List V)}(p p2 pos I:Pos)(hg:c.N.gl "list"=some (.type "list"))(ae:c.N.gl "range"=some (.type "range"))(hx:env.kindOf "list"=some .globalImplicit)(af:env.kindOf "range"=some .globalImplicit)
  (hn:es.all jd=true) (h:qy c A env nm es y):dv c A env nm (.Call (.Name "list" p) [.Call (.Name "range" p2) es [] I] [] pos) (EK c.M 2 y):=by
 intro Q E s g σ l v bx R F z q;obtain⟨vs,K,e1,z⟩:=cP z;refine Call_ (uw gd f hx (by decide) hg R ?_);refine tK rfl (evalArgs_plain (spliced_cons (Call_ (uw gd f af (by decide) ae R (tK (nF hn) (uq hn (h I _ _ _ _ _ _ _ _ R F e1 fun B bG O us S U W Y ak=>?_)))))));have z:zV c.M vs K=some (v,bx):=z;unfold zV at z;cases pr:range vs with
 |none=>rw[pr]at z;cases z
 |some xs=>
  rw[pr]at z;obtain⟨J,z⟩:=gZ z;rw[mD]at J;refine Kv (s:={s with heap:=bG,toks:=O}) pr Y fun ob tk a b st t u w ag hsz ah hr=>?_
  refine spliced_nil ?_;have kp:∀b o,bG.get? b=some o->(bG.push ob).get? b=some o:=fun b o e=>iV _ e
  have Z:=U.grow kp;have aa:=W.grow kp;have ab:dh env.locals B bG B (bG.push ob):=.grow kp;refine call_list_range (s:={s with heap:=bG.push ob,toks:=tk}) rm.hd hr ag hsz (by unfold bu at J;omega) fun h' ai acc c' aj ho hi=>?_
  have hl:cE c.N B xs acc.toList:=by
   refine GW (by simpa using hi.1) fun j x u' e e'=>?_
   obtain⟨t',e2⟩:=hi.2 j u' (by simpa using e');rw[ah j x e,e2];exact⟨t',rfl⟩
  obtain⟨g',T',R',F',V'⟩:=zD gd Z aa z m4 aj ho hl (Nat.le_of_lt J);exact q g' h' ai _ ((S.trans ab).trans T') R' F' V'
theorem Wv(gd:Gd c)(f:jj env nm){n:Nat}(rm:Rm A (n+1)){x:Str}{es:List Expr}{y:X H (List V)}{C:CH H}(hC:uO c n C)(i:Nat)(k:Option Nat)(p pos:Pos)(hg:c.N.gl x=some (.ref (c.N.cl i)))
  (hx:env.kindOf x=some .globalImplicit) (hd:(x==("__debug__":Str))=false) (hn:es.all jd=true) (h:qy c A env nm es y):dv c A env nm (.Call (.Name x p) es [] pos) (OC c.M C i k y):=by
 intro Q E s g σ l v bx R F j q;obtain⟨vs,I,e1,j⟩:=cP j;unfold make at j;cases pi:c.M.P.rp i with
 |none=>rw[pi]at j;cases j
 |some fi=>
  rw[pi]at j;obtain⟨o,al,e2,j⟩:=cP j;obtain⟨r,J,e3,j⟩:=cP j;obtain⟨k1,k2,k3,k4⟩:=S6 (gd.make i fi pi);refine Call_ (uw gd f hx hd hg R ?_);refine callWith_of (P:=c.K.In) (by rw[nF hn];rfl) (keeps_K k4) (uq hn (h pos _ _ _ _ _ _ _ _ R F e1 fun K bG O us S t U W am=>⟨t.pM gd,?_⟩));have X:=t.pM gd;refine wpAny_call (make_core (h:=bG) (makes_of X k1) (looks_findIn X k2) (fun self=>bind_fn X self k3) (.inl rfl) ?_);obtain⟨nn,rfl,hf,ho,hl,rfl⟩:=zJ e2;have kp:∀b o,bG.get? b=some o->((bG.push emptyDict).push (instObj (c.N.cl i) bG.objs.size)).get? b=some o:=fun b o e=>iV _ (iV _ e)
  have hz:(bG.push emptyDict).objs.size=bG.objs.size+1:=Heap.size_push ..;have ai:((bG.push emptyDict).push (instObj (c.N.cl i) bG.objs.size)).get? (bG.objs.size+1)=some (instObj (c.N.cl i) bG.objs.size):=by rw[←hz];exact kO _ rfl
  have Y:((bG.push emptyDict).push (instObj (c.N.cl i) bG.objs.size)).get? bG.objs.size=some emptyDict:=iV _ (kO _ rfl);have aj:bG.get? (bG.objs.size+1)=none:=by cases q:bG.get? (bG.objs.size+1)with|none=>rfl|some o=>exact absurd (nc q) (by show¬(bG.objs.size+1<bG.objs.size);omega)
  obtain⟨Z,z⟩:=t.new (L:=env.locals) (k:=I.nx+1) (g':=K.put nn (bG.objs.size+1) (some bG.objs.size)) (o':=.inst i []) hf ho (fun _ _ hm=>G.qW hm) rfl (fun b a e=>by
    cases b with
    |true=>rw[G.kM]at e;cases e;exact m4
    |false=>rw[G.ka]at e;cases e;exact aj) (fun b b' a e e'=>by
    cases b<;>cases b'
    ·rfl
    ·rw[G.ka]at e;rw[G.kM]at e';exact absurd ((nM e).trans (nM e').symm) (Aw _)
    ·rw[G.kM]at e;rw[G.ka]at e';exact absurd ((nM e').trans (nM e).symm) (Aw _)
    ·rfl) gd.sys kp
   ⟨_,_,fun _=>none,G.ka,G.kM,ai,⟨_,_,_,Y,rfl,fun e he=>by simp at he,fun _=>rfl⟩,fun o es ep z1 z2=>by rw[Y]at z1;cases z1;cases z2;exact ez _,fun y hy=>absurd rfl hy,fun f x e=>by cases e⟩
  have aa:=U.da z fun o e=>kp _ o e
  have ak:Rm (A.under (.builtin "type.__call__" ⟨.ref (c.N.cl i)::us,[]⟩)) n:=⟨rm.hd,by have:=rm.dp;show A.depth+1+10*n+20<_;omega,by have:=rm.un;show A.units+1+100*n+200<_;omega⟩
  refine hC fi _ _ {s with heap:=(bG.push emptyDict).push (instObj (c.N.cl i) bG.objs.size),toks:=O} _ _ (.ref nn::vs) (.ref (bG.objs.size+1)::us) r J ak Z ⟨_,_,rfl,⟨_,rfl,G.ka⟩,z.sP W⟩ e3 fun ab ae tk u B af ag ah=>?_
  unfold Eb at j;cases r with|none=>cases j;cases ah;exact⟨rfl,q ab ae tk _ ((S.trans z).trans (B _)) ag (F9 aa B af) ⟨_,rfl,(B env.locals).ad _ _ _ G.ka⟩⟩|_=>cases j
end
section
variable{H:Type}{c:Cx H}{A:Around}{E:cV}{s:Shared}{env:Env}{nm:Nat->Option Str}
theorem tj{M:Mc H}{v:V}{σ bx:St H}{b:Bool}(h:qx M v σ=some (b,bx)):tW M σ.h v=some b/\bx=σ:=by unfold qx uM at h;cases p:tW M σ.h v with|none=>rw[p]at h;cases h|some r=>rw[p]at h;cases h;exact⟨rfl,rfl⟩
def Gm:Expr->Bool
 |.UnaryOp .Not _ _=>false
 |.BoolOp ..=>false
 |.IfExp ..=>false
 |.Compare ..=>false
 |_=>true
theorem isTrue_plain{e:Expr}{j:Sem Value}(h:Gm e=true):isTrue e env j=(do let v ←j;standAt e.pos;holding [v] (truthy v)):=by unfold PySem.isTrue;split<;>first|(cases h;done)|rfl
theorem U6(gd:Gd c){e:Expr}{x:X H V}(hp:Gm e=true)(h:dv c A env nm e x):nf c A env nm e (xB c.M x):=by intro Q E s g σ l v bx R F B q;obtain⟨S,I,K,B⟩:=cP B;obtain⟨O,rfl⟩:=tj B;refine wpAny_isTrue_value (h _ _ _ _ _ _ _ _ R F K fun o bG p J t j y z=>?_) (isTrue_plain hp);exact CR (s:={s with heap:=bG,toks:=p}) gd j O z fun tk=>q o bG tk t j y
theorem Ww(gd:Gd c){n:Nat}(rm:Rm A n){o:Co}{a b:Expr}{x y:X H V}(op:CmpOp)(pos:Pos)(ho:op=ES o)(hm:behindInMarks op b=false)(h:dv c A env nm a x)(k:dv c A env nm b y):dv c A env nm (.Compare a [op] [b] pos) (Bn c.M o x y):=by
 intro Q E s g σ l v bx R F t q;obtain⟨v1,W,e1,t⟩:=cP t;obtain⟨v2,Y,e2,t⟩:=cP t;subst ho;refine wpAny_Compare1 (h _ _ _ _ _ _ _ _ R F e1 fun Z bG aa ab z B I J=>?_) hm;refine k _ _ _ _ _ _ _ _ B I e2 fun K e O ae j p S U=>?_
 exact KP (s:={s with heap:=e,toks:=O}) gd rm p t (j.mf J) U fun b tk hv hs=>by subst hv;subst hs;exact q K e tk _ (z.trans j) p S rfl
theorem U7(gd:Gd c){n:Nat}(rm:Rm A n){o:Co}{a b:Expr}{x y:X H V}(op:CmpOp)(pos:Pos)(ho:op=ES o)(hm:behindInMarks op b=false)(h:dv c A env nm a x)(k:dv c A env nm b y):nf c A env nm (.Compare a [op] [b] pos) (xB c.M (Bn c.M o x y)):=by
 intro Q E s g σ l v bx R F t q;obtain⟨w,Y,t,W⟩:=cP t;obtain⟨v1,Z,e1,t⟩:=cP t;obtain⟨v2,aa,e2,t⟩:=cP t;obtain⟨ht,rfl⟩:=tj W;subst ho;refine wpAny_isTrue_Compare1 (h _ _ _ _ _ _ _ _ R F e1 fun ab bG ae af z B I J=>?_) hm;refine k _ _ _ _ _ _ _ _ B I e2 fun K e O ag j p S U=>?_
 exact KP (s:={s with heap:=e,toks:=O}) gd rm p t (j.mf J) U fun b tk hv hs=>by subst hv;subst hs;cases ht;exact Ar (q K e tk (z.trans j) p S)
theorem U8{a:Expr}{x:X H V}(gd:Gd c)(pos:Pos)(h:dv c A env nm a x):dv c A env nm (.UnaryOp .Not a pos) (IG c.M x):=by intro Q E s g σ l v bx R F z q;obtain⟨b,I,B,z⟩:=cP z;obtain⟨U,J,O,B⟩:=cP B;obtain⟨S,rfl⟩:=tj B;cases z;refine wpAny_UnaryOp (h _ _ _ _ _ _ _ _ R F O fun j bG o K p e t y=>not_of ?_);exact CR (s:={s with heap:=bG,toks:=o}) gd e S y fun tk=>q j bG tk _ p e t rfl
theorem U9{a:Expr}{x:X H V}(pos:Pos)(h:nf c A env nm a (xB c.M x)):nf c A env nm (.UnaryOp .Not a pos) (xB c.M (IG c.M x)):=by intro Q E s g σ l v bx R F e q;obtain⟨w,B,e,z⟩:=cP e;obtain⟨b,I,J,e⟩:=cP e;cases e;cases z;refine bC (h _ _ _ _ _ _ _ _ R F J fun j bG o p t y=>bU (q j bG o p t y))
theorem Va{t a b:Expr}{x y z:X H V}(pos:Pos)(h:nf c A env nm t (xB c.M x))(k1:dv c A env nm a y)(k2:dv c A env nm b z):dv c A env nm (.IfExp t a b pos) (IH c.M x y z):=by intro Q E s g σ l v bx R F W q;obtain⟨w,Y,e1,W⟩:=cP W;refine wpAny_IfExp (h _ _ _ _ _ _ _ _ R F e1 fun Z bG aa O S U=>?_);cases w with|true=>exact k1 _ _ _ _ _ _ _ _ S U W fun e j o p B I J K=>q e j o p (O.trans B) I J K|false=>exact k2 _ _ _ _ _ _ _ _ S U W fun e j o p B I J K=>q e j o p (O.trans B) I J K
theorem Vb{t a b:Expr}{x y z:X H V}(pos:Pos)(h:nf c A env nm t (xB c.M x))(k1:nf c A env nm a (xB c.M y))(k2:nf c A env nm b (xB c.M z)):nf c A env nm (.IfExp t a b pos) (xB c.M (IH c.M x y z)):=by
 intro Q E s g σ l v bx R F W q;obtain⟨u,K,W,Y⟩:=cP W;obtain⟨w,e,e1,W⟩:=cP W;have Z:PySem.isTrue (.IfExp t a b pos) env (eval (.IfExp t a b pos) env)=(do if ←PySem.isTrue t env (eval t env)then PySem.isTrue a env (eval a env)else PySem.isTrue b env (eval b env)):=by rw[PySem.isTrue]
 rw[Z];refine bC (h _ _ _ _ _ _ _ _ R F e1 fun aa bG ab O S U=>?_);cases w with
 |true=>
  have:xB c.M y l e=some (v,bx):=by unfold xB;rw[show y l e=some (u,K) from W];exact Y
  exact k1 _ _ _ _ _ _ _ _ S U this fun j o p B I J=>q j o p (O.trans B) I J
 |false=>
  have:xB c.M z l e=some (v,bx):=by unfold xB;rw[show z l e=some (u,K) from W];exact Y
  exact k2 _ _ _ _ _ _ _ _ S U this fun j o p B I J=>q j o p (O.trans B) I J
def uP(c:Cx H)(A:Around)(env:Env)(nm:Nat->Option Str)(op:BoolOp)(es:List Expr)(x:X H Bool):Prop:=∀(Q:Bool->Shared->Prop)(E:cV)(s:Shared)(g:G)(σ:St H)(l:L)(v:Bool)(bx:St H),
 Rel c g σ s.heap->Loc c env nm g s.heap l->x l σ=some (v,bx)->
 (∀g' h' tk,dh env.locals g s.heap g' h'->Rel c g' bx h'->Loc c env nm g' h' l->Q v {s with heap:=h',toks:=tk})->
 wpAny c.md A (allTrue op es env) Q E s
theorem Lj(op:BoolOp){e:Expr}{x:X H Bool}(h:nf c A env nm e x):uP c A env nm op [e] x:=by
 intro Q E s g σ l v bx R F z q;cases op with
 |And=>refine wpAny_allTrue_And_cons (h _ _ _ _ _ _ _ _ R F z fun j bG o p t y=>?_);cases v with|true=>exact wpAny_allTrue_And_nil (q j bG o p t y)|false=>exact q j bG o p t y
 |Or=>refine wpAny_allTrue_Or_cons (h _ _ _ _ _ _ _ _ R F z fun j bG o p t y=>?_);cases v with|false=>exact wpAny_allTrue_Or_nil (q j bG o p t y)|true=>exact q j bG o p t y
theorem Vc{e:Expr}{es:List Expr}{x y:X H V}(h:nf c A env nm e (xB c.M x))(k:uP c A env nm .And es (xB c.M y)):uP c A env nm .And (e::es) (xB c.M (IJ c.M x y)):=by
 intro Q E s g σ l v bx R F z q;obtain⟨u,B,z,I⟩:=cP z;obtain⟨v1,J,e1,z⟩:=cP z;obtain⟨b,j,e2,K⟩:=cP z;have hb:xB c.M x l σ=some (b,j):=by unfold xB;rw[show x l σ=some (v1,J) from e1];exact e2
 refine wpAny_allTrue_And_cons (h _ _ _ _ _ _ _ _ R F hb fun O bG S o p t=>?_);cases b with
 |true=>
  have:xB c.M y l j=some (v,bx):=by unfold xB;rw[show y l j=some (u,B) from K];exact I
  exact k _ _ _ _ _ _ _ _ p t this fun U W Y Z aa ab=>q U W Y (o.trans Z) aa ab
 |false=>obtain⟨a1,rfl⟩:=tj e2;cases K;obtain⟨a2,rfl⟩:=tj I;rw[a1]at a2;cases a2;exact q O bG S o p t
theorem Vd{e:Expr}{es:List Expr}{x y:X H V}(h:nf c A env nm e (xB c.M x))(k:uP c A env nm .Or es (xB c.M y)):uP c A env nm .Or (e::es) (xB c.M (IK c.M x y)):=by
 intro Q E s g σ l v bx R F z q;obtain⟨u,B,z,I⟩:=cP z;obtain⟨v1,J,e1,z⟩:=cP z;obtain⟨b,j,e2,K⟩:=cP z;have hb:xB c.M x l σ=some (b,j):=by unfold xB;rw[show x l σ=some (v1,J) from e1];exact e2
 refine wpAny_allTrue_Or_cons (h _ _ _ _ _ _ _ _ R F hb fun O bG S o p t=>?_);cases b with
 |false=>
  have:xB c.M y l j=some (v,bx):=by unfold xB;rw[show y l j=some (u,B) from K];exact I
  exact k _ _ _ _ _ _ _ _ p t this fun U W Y Z aa ab=>q U W Y (o.trans Z) aa ab
 |true=>obtain⟨a1,rfl⟩:=tj e2;cases K;obtain⟨a2,rfl⟩:=tj I;rw[a1]at a2;cases a2;exact q O bG S o p t
theorem KU{op:BoolOp}{es:List Expr}{x:X H Bool}(pos:Pos)(h:uP c A env nm op es x):nf c A env nm (.BoolOp op es pos) x:=
 fun Q E s g σ l v bx R F e q=>wpAny_isTrue_BoolOp (h Q E s g σ l v bx R F e q)
def uQ(c:Cx H)(A:Around)(env:Env)(nm:Nat->Option Str)(op:BoolOp)(es:List Expr)(x:X H V):Prop:=∀(pos:Pos)(Q:cV)(E:cV)(s:Shared)(g:G)(σ:St H)(l:L)(v:V)(bx:St H),
 Rel c g σ s.heap->Loc c env nm g s.heap l->x l σ=some (v,bx)->
 (∀g' h' tk u,dh env.locals g s.heap g' h'->Rel c g' bx h'->Loc c env nm g' h' l->cj c.N g' v u->Q u {s with heap:=h',toks:=tk})->
 wpAny c.md A (boolOp pos op (evalEach es env)) Q E s
theorem Lk(op:BoolOp){e:Expr}{x:X H V}(h:dv c A env nm e x):uQ c A env nm op [e] x:=fun _ Q E s g σ l v bx R F j q=>h Q E s g σ l v bx R F j q
theorem Ve(gd:Gd c){e e':Expr}{es:List Expr}{x y:X H V}(h:dv c A env nm e x)(k:uQ c A env nm .And (e'::es) y):uQ c A env nm .And (e::e'::es) (IJ c.M x y):=by
 intro pos Q E s g σ l v bx R F hx q;obtain⟨v1,ae,e1,hx⟩:=cP hx;obtain⟨b,af,e2,B⟩:=cP hx;obtain⟨a1,rfl⟩:=tj e2;show wpAny _ _ (do
  let v ←eval e env
  standAt pos
  let t ←holding [v] (truthy v)
  match BoolOp.And,t with
  |.And,false|.Or,true=>pure v
  |_,_=>boolOp pos .And (evalEach (e'::es) env)) Q E s
 refine bC (h _ _ _ _ _ _ _ _ R F e1 fun I bG J K o j p z=>bC (rN (bC (iy ?_))));refine CR (s:={s with heap:=bG,toks:=J}) gd j a1 z fun tk=>?_
 cases b with|true=>exact k pos _ _ {s with heap:=bG,toks:=tk} _ _ _ _ _ j p B fun O S U W Y Z aa ab=>q O S U W (o.trans Y) Z aa ab|false=>cases B;exact bU (q I bG tk K o j p z)
theorem Vf(gd:Gd c){e e':Expr}{es:List Expr}{x y:X H V}(h:dv c A env nm e x)(k:uQ c A env nm .Or (e'::es) y):uQ c A env nm .Or (e::e'::es) (IK c.M x y):=by
 intro pos Q E s g σ l v bx R F hx q;obtain⟨v1,ae,e1,hx⟩:=cP hx;obtain⟨b,af,e2,B⟩:=cP hx;obtain⟨a1,rfl⟩:=tj e2;show wpAny _ _ (do
  let v ←eval e env
  standAt pos
  let t ←holding [v] (truthy v)
  match BoolOp.Or,t with
  |.And,false|.Or,true=>pure v
  |_,_=>boolOp pos .Or (evalEach (e'::es) env)) Q E s
 refine bC (h _ _ _ _ _ _ _ _ R F e1 fun I bG J K o j p z=>bC (rN (bC (iy ?_))));refine CR (s:={s with heap:=bG,toks:=J}) gd j a1 z fun tk=>?_
 cases b with|false=>exact k pos _ _ {s with heap:=bG,toks:=tk} _ _ _ _ _ j p B fun O S U W Y Z aa ab=>q O S U W (o.trans Y) Z aa ab|true=>cases B;exact bU (q I bG tk K o j p z)
theorem KV{op:BoolOp}{es:List Expr}{x:X H V}(pos:Pos)(h:uQ c A env nm op es x):dv c A env nm (.BoolOp op es pos) x:=
 fun Q E s g σ l v bx R F e q=>h pos Q E s g σ l v bx R F e q
theorem Wx(gd:Gd c)(k:Option Nat)(pos:Pos):dv c A env nm (.Dict [] [] pos) (OA c.M k):=by
 intro Q E s g σ l v bx R F x q;refine wpAny_Dict_empty ?_;obtain⟨t,e,j,o,p⟩:=xA gd (ob:={cls:=.type "dict",data:=.dict #[]}) R F x fun n T=>⟨_,#[],G.ka,G.kM,kO _ rfl,.nil,⟨by simp,by simp,by simp⟩,mF _⟩
 exact q _ _ _ _ e j o p
end
section
variable{prog:Program}{w:World}{A:Around}{E:cV}{s:Shared}
theorem KW{it t:Addr}{eD:Array Value}(y:t≠it):∀(n i:Nat)(s:Shared)(Q:List Value->Shared->Prop),s.heap.IsListIter it t i->s.heap.IsList t eD->i+n<=eD.size->
  (∀h',h'.IsListIter it t (i+n)->Heap.SameBut it s.heap h'->Q ((eD.toList.drop i).take n) {s with heap:=h'})->wpAny (model prog w) A (draw (.ref it) n) Q E s
 |0,i,s,Q,p,_,_,I=>by
  show wpAny _ _ (pure []) Q E s
  exact bU (by simpa using I s.heap p (Heap.SameBut.refl ..))
 |n+1,i,s,Q,p,J,hle,I=>by
  have z:i<eD.size:=by omega
  show wpAny _ _ (pyNext (.ref it)>>=_) Q E s
  refine bC (wpAny_pyNext_list_item p J (x:=eD[i]) (by simp[z]) fun bG j e=>?_);refine bC (iy (KW y n (i+1) _ _ j (J.extBut e.extBut y) (by show i+1+n<=eD.size;omega) fun B o q=>bU ?_));have hd:eD.toList.drop i=eD[i]::eD.toList.drop (i+1):=by simp[List.drop_eq_getElem_cons,z]
  have:=I B (by rw[show i+(n+1)=i+1+n by omega];exact o) (e.trans q);rw[hd,List.take_succ_cons]at this;exact this
theorem Rt{t:Addr}{eD:Array Value}{Q:List Value->Shared->Prop}(hh:A.handled=none)(y:s.heap.IsList t eD)
  (K:∀h',Heap.ExtBut s.heap.objs.size s.heap h'->Q eD.toList {s with heap:=h'}):wpAny (model prog w) A (unpackItems (.ref t) eD.size none) Q E s:=by
 have z:t≠s.heap.objs.size:=by obtain⟨o,ho,_⟩:=y;exact qr (nc ho)
 unfold unpackItems;refine bC ?_
 ·unfold notIterableAtAll;refine bC (wpAny_specialOf y.typeIs slot_list_iter.lookup ?_);refine bU ?_;simp only[mG,lr];refine bC (iy (wpAny_pyIter_list y ?_));refine bC (iy (KW z eD.size 0 _ _ ⟨_,kO _ rfl,rfl,rfl⟩ (y.push _) (by omega) fun bG p j=>?_));have B:List.take eD.size (List.drop 0 eD.toList)=eD.toList:=by
   rw[List.drop_zero];exact DH (by simp)
  rw[B];rw[bL (by simp)];have q:bG.IsList t eD:=(y.push _).extBut j.extBut z;refine bC (iy (wpAny_pyNext_list_end hh p q (by simp) fun I x=>?_));simp only[Option.isSome_none,mG,lr];exact bU (K I fun b o J e=>x b o J (j.extBut b o J (iV _ e)))
end
section
variable{H:Type}{c:Cx H}{A:Around}{E:cV}{s:Shared}{env:Env}{nm gT:Nat->Option Str}
theorem FY(hh:A.handled=none){g:G}{σ:St H}(R:Rel c g σ s.heap){x:V}{u:Value}{vs:List V}(h:eD c.M σ.h x=some vs)(t:cj c.N g x u){Q:List Value->Shared->Prop}
  (q:∀h' us,(∀b o,s.heap.get? b=some o->h'.get? b=some o)->cE c.N g vs us->Q us {s with heap:=h'}):wpAny c.md A (unpackItems u vs.length none) Q E s:=by
 have ext:∀{h':Heap},Heap.ExtBut s.heap.objs.size s.heap h'->∀b o,s.heap.get? b=some o->h'.get? b=some o:=fun j b o e=>j b o (qr (nc e)) e
 unfold eD at h;cases x with
 |tup l=>
  cases h;obtain⟨a,us,rfl,B,y⟩:=t;have hz:vs.length=us.toArray.size:=by simpa using y.len.symm
  rw[hz];exact wpAny_unpackItems_tuple hh (R.tup a us B) fun h' j=>q h' _ (ext j) (by simpa using y)
 |ref n=>
  obtain⟨a,rfl,ha⟩:=t;simp only at h;cases p:c.M.get σ.h n with
  |list l=>
   rw[p]at h;cases h;obtain⟨us,m,I,z,J,_⟩:=R.list p ha;have hz:vs.length=us.size:=by simpa using z.len.symm
   rw[hz];exact Rt hh ⟨_,I,rfl,_,rfl⟩ fun h' j=>q h' _ (ext j) z
  |_=>rw[p]at h;cases h
 |_=>cases h
def but(nm:Nat->Option Str)(is:List Nat):Nat->Option Str:=fun j=>bif is.any (Nat.beq j)then none else nm j
theorem zK{is:List Nat}{j:Nat}{y:Str}(h:but nm is j=some y):nm j=some y/\j∉is:=by unfold but at h;cases p:is.any (Nat.beq j)with|true=>rw[p]at h;cases h|false=>rw[p]at h;refine⟨h,fun e=>?_⟩;have:=List.any_eq_false.mp p j e;rw[Nat.beq_refl]at this;exact this rfl
theorem xM{is:List Nat}{j:Nat}{y:Str}(h:nm j=some y)(o:j∉is):but nm is j=some y:=by
 unfold but;have:is.any (Nat.beq j)=false:=by rw[List.any_eq_false];intro k hk e;exact o (gc.mp e▸hk)
 rw[this];exact h
theorem Loc.weak{g:G}{h:Heap}{l:L}(F:Loc c env nm g h l)(k:∀i y,gT i=some y->nm i=some y):Loc c env gT g h l where
 ns:=let⟨m,e,r⟩:=F.ns;⟨m,e,fun i x y a b d=>r i x y a b (k i y d)⟩
 own:=F.own
 tp:=F.tp
 old:=F.old
 kW:=F.kW
theorem Loc.but{g:G}{h:Heap}{l:L}(F:Loc c env nm g h l)(is:List Nat):Loc c env (but nm is) g h l:=F.weak fun _ _ e=>(zK e).1
theorem RO{l:L}{i:Nat}{v:V}(h:i<l.length):bA (l.set i v) i=some v:=by rw[oG];simp[h]
theorem Kw{l:L}{i j:Nat}{v:V}(h:j≠i):bA (l.set i v) j=bA l j:=by rw[oG,oG,List.getElem?_set_ne (kQ h)]
theorem JZ(f:jj env nm){i:Nat}{y:Str}(hi:nm i=some y)(hl:env.kindOf y=some .local){g:G}{σ:St H}{l Y:L}{is:List Nat}(R:Rel c g σ s.heap)(F:Loc c env (Mine.but nm (i::is)) g s.heap l){v:V}{u:Value}(hv:cj c.N g v u)(hs:bW l i v=some Y)
  {Q:Unit->Shared->Prop} (q:∀h' tk,dh env.locals g s.heap g h'->Rel c g σ h'->Loc c env (Mine.but nm is) g h' Y->Q () {s with heap:=h',toks:=tk}):wpAny c.md A (storeName env y u) Q E s:=by
 obtain⟨h1,rfl⟩:=th hs;obtain⟨m,hm,r⟩:=F.ns;have hp:(env.scope.kind==.class||(env.scope.kind==.module&&env.locals !=env.globals))=false:=by rw[f.kind];rfl
 refine wpAny_storeName_local hl hm (fun h' Z K=>?_) hp;have z:∀b o,b≠env.locals->s.heap.get? b=some o->h'.get? b=some o:=fun b o hb e=>(K.2 b hb).trans e
 have tm:fZ c g (env.locals+1) env.locals:=⟨F.own,F.tp,F.old,(Aw _).symm⟩
 have R':Rel c g σ h':=R.ext tm z;have T:dh env.locals g s.heap g h':=⟨fun _ _ _ e=>e,fun _ _ e=>e,fun _ _ _ e=>.inl e,fun _ _ e=>.inl e,fun a o e=>by
  by_cases ha:a=env.locals
  ·subst ha;obtain⟨o',_,_,O,_⟩:=Z;exact⟨o',O⟩
  ·exact⟨o,z a o ha e⟩,fun a o e _ t=>z a o t e⟩
 refine q h' _ T R' ⟨⟨_,Z,fun j x S B e2 e3=>?_⟩,F.own,F.tp,F.old,fun y q e=>by obtain⟨o,O⟩:=F.kW y q e;exact T.live q o O⟩;obtain⟨I,e5⟩:=zK e3
 by_cases J:j=i
 ·subst J;rw[hi]at I;cases I;rw[RO h1]at B;cases B;exact .inl ⟨hl,u,by simp,hv⟩
 ·rw[Kw J]at B;have t:S≠y:=fun e=>J (f.inj j i S I (e▸hi))
  rcases r j x S B e2 (xM I (by simp[J,e5]))with⟨p,w,U,W⟩|⟨p,a,w,U,W,p3,p4⟩
  ·exact .inl ⟨p,w,by simp only[bL t];exact U,W⟩
  ·obtain⟨oc,ec,rc⟩:=W;exact .inr ⟨p,a,w,U,⟨oc,z a oc p3.ne ec,rc⟩,p3,p4⟩
theorem CF(f:jj env nm){i:Nat}{y:Str}(hi:nm i=some y)(hl:env.kindOf y=some .local){g:G}{σ:St H}{l e:L}{is:List Nat}(R:Rel c g σ s.heap)(F:Loc c env (Mine.but nm (i::is)) g s.heap l){v:V}{u:Value}(j:cj c.N g v u)(hs:bW l i v=some e)
  {Q:Unit->Shared->Prop} (q:∀h' tk,dh env.locals g s.heap g h'->Rel c g σ h'->Loc c env (Mine.but nm is) g h' e->Q () {s with heap:=h',toks:=tk}) (pos:Pos):wpAny c.md A (assign (.Name y pos) env u) Q E s:=
 wpAny_assign_Name (JZ f hi hl R F j hs q)
def vb(e:Nat->Option Str)(loc:Str->Bool)(i:Nat):Expr->Bool
 |.Name y _=>(match e i with|some z=>z==y&&loc y|none=>false)
 |_=>false
mutual
def pR(j:Nat->Option Str)(loc:Str->Bool):Tg->Expr->Bool
 |.nm i,e=>vb j loc i e
 |.tp ts,e=>match e with|.Tuple es _ _=>uR j loc ts es|_=>false
termination_by structural t=>t
def uR(j:Nat->Option Str)(loc:Str->Bool):List Tg->List Expr->Bool
 |[],es=>match es with|[]=>true|_::_=>false
 |t::ts,es=>match es with|[]=>false|e::es=>pR j loc t e&&uR j loc ts es
termination_by structural t=>t
end
mutual
def kU:Tg->List Nat
 |.nm i=>[i]
 |.tp ts=>uH ts
termination_by structural t=>t
def uH:List Tg->List Nat
 |[]=>[]
 |t::r=>kU t++uH r
termination_by structural t=>t
end
theorem uz{j:Nat->Option Str}{loc:Str->Bool}{i:Nat}{e:Expr}(h:vb j loc i e=true):∃y pos,e=.Name y pos/\j i=some y/\loc y=true:=by
 cases e with
 |Name y pos=>simp only[vb]at h;cases p:j i with|none=>rw[p]at h;cases h|some z=>rw[p]at h;rw[cY,dM]at h;obtain⟨rfl,o⟩:=h;exact⟨_,_,rfl,rfl,o⟩
 |_=>cases h
theorem Ll{j:Nat->Option Str}{loc:Str->Bool}{t:Tg}{e:Expr}(h:pR j loc t e=true):jd e=true:=by
 cases t with
 |nm i=>obtain⟨y,pos,rfl,_⟩:=uz h;rfl
 |tp ts=>cases e<;>first|rfl|cases h
theorem CA{e:Expr}{r:List Expr}(h:jd e=true):assignEach (e::r) env=(false,assign e env)::assignEach r env:=by cases e<;>first|(cases h;done)|rfl
theorem KX{loc:Str->Bool}:∀{ts:List Tg}{es:List Expr},uR nm loc ts es=true->es.length=ts.length/\(assignEach es env).length=es.length/\(assignEach es env).findIdx? (·.1)=none
 |[],[],_=>⟨rfl,rfl,rfl⟩
 |t::ts,e::es,j=>by rw[uR,cY]at j;obtain⟨a,b,d⟩:=KX j.2;rw[CA (Ll j.1)];exact⟨by simp[a],by simp[b],by rw[List.findIdx?_cons];simp[d]⟩
 |[],_::_,j=>by cases j
 |_::_,[],j=>by cases j
theorem Ke{M:Mc H}{h:H}:∀{ts:List Tg}{vs:List V}{l j:L},rI M ts vs h l=some j->vs.length=ts.length
 |[],[],_,_,_=>rfl
 |[],_::_,_,_,e=>by cases e
 |_::_,[],_,_,e=>by cases e
 |t::ts,v::vs,l,j,e=>by simp only[rI]at e;cases p:fV M t v h l with|none=>rw[p]at e;cases e|some o=>rw[p]at e;simp[Ke e]
mutual
theorem JV{loc:Str->Bool}(hh:A.handled=none)(f:jj env nm)(o:∀y,loc y=true->env.kindOf y=some .local):∀(t:Tg){e:Expr}(_:pR nm loc t e=true){is:List Nat}{g:G}{σ:St H}{s:Shared}{l x:L}(_:Rel c g σ s.heap)(_:Loc c env (Mine.but nm (kU t++is)) g s.heap l){v:V}{u:Value}(_:cj c.N g v u)
  (_:fV c.M t v σ.h l=some x) {Q:Unit->Shared->Prop} (_:∀h' tk,dh env.locals g s.heap g h'->Rel c g σ h'->Loc c env (Mine.but nm is) g h' x->Q () {s with heap:=h',toks:=tk}),wpAny c.md A (assign e env u) Q E s
 |.nm i,e,p,is,g,σ,s,l,x,R,F,v,u,z,j,Q,q=>by simp only[pR]at p;obtain⟨y,pos,rfl,S,U⟩:=uz p;simp only[fV]at j;exact CF (is:=is) f S (o y U) R (by simpa[kU]using F) z j (fun h' tk T B I=>q h' tk T B I) pos
 |.tp ts,e,p,is,g,σ,s,l,x,R,F,v,u,z,j,Q,q=>by
  simp only[pR]at p;split at p
  ·rename_i es k pos;simp only[fV]at j;cases J:eD c.M σ.h v with|none=>rw[J]at j;cases j|some vs=>rw[J]at j;obtain⟨a1,W,a3⟩:=KX (env:=env) p;rw[arm_assign_Tuple];refine bC (rN ?_);unfold unpack;rw[W,a3,a1,←Ke j];refine bC (iy (FY hh R J z fun h' us K Y=>?_));exact J0 (s:={s with heap:=h'}) hh f o ts p (is:=is) (R.grow K) (by simpa[kU]using F.grow K) Y j fun O tk T B I=>q O tk ((dh.grow K).trans T) B I
  ·cases p
termination_by structural t=>t
theorem J0{loc:Str->Bool}(hh:A.handled=none)(f:jj env nm)(o:∀y,loc y=true->env.kindOf y=some .local):∀(ts:List Tg){es:List Expr}(_:uR nm loc ts es=true){is:List Nat}{g:G}{σ:St H}{s:Shared}{l z:L}{vs:List V}{us:List Value}(_:Rel c g σ s.heap)(_:Loc c env (Mine.but nm (uH ts++is)) g s.heap l)(_:cE c.N g vs us)
  (_:rI c.M ts vs σ.h l=some z) {Q:Unit->Shared->Prop} (_:∀h' tk,dh env.locals g s.heap g h'->Rel c g σ h'->Loc c env (Mine.but nm is) g h' z->Q () {s with heap:=h',toks:=tk}),
  wpAny c.md A (assignInOrder ((assignEach es env).map (·.2)) us) Q E s
 |[],es,p,is,g,σ,s,l,z,vs,us,R,F,B,j,Q,q=>by
  cases es with
  |cons=>simp[uR]at p
  |nil=>cases vs with|nil=>simp only[rI]at j;cases j;have:us=[]:=B;subst this;exact bU (q s.heap s.toks (.refl _ _ _) R (by simpa[uH]using F))|cons=>cases j
 |t::ts,es,p,is,g,σ,s,l,z,vs,us,R,F,B,j,Q,q=>by
  cases es with
  |nil=>simp[uR]at p
  |cons e es=>
   rw[uR,cY]at p;cases vs with
   |nil=>cases j
   |cons v vs=>
    obtain⟨u,x,rfl,I,J⟩:=B;simp only[rI]at j;cases K:fV c.M t v σ.h l with
    |none=>rw[K]at j;cases j
    |some Y=>
     rw[K]at j;rw[CA (Ll p.1)];show wpAny _ _ (do holding x (assign e env u);assignInOrder ((assignEach es env).map (·.2)) x) Q E s
     refine bC (iy (JV hh f o t p.1 (is:=uH ts++is) R (by simpa[uH]using F) I K (fun h' tk T Z F'=>?_)));exact J0 (s:={s with heap:=h',toks:=tk}) hh f o ts p.2 Z F' J j fun O S T' U W=>q O S (T.trans T') U W
termination_by structural ts=>ts
end
theorem J1{loc:Str->Bool}(hh:A.handled=none)(f:jj env nm)(j:∀y,loc y=true->env.kindOf y=some .local){t:Tg}{e:Expr}(p:pR nm loc t e=true){g:G}{σ:St H}{l o:L}(R:Rel c g σ s.heap)(F:Loc c env (Mine.but nm (kU t)) g s.heap l){v:V}{u:Value}(x:cj c.N g v u)
  (z:fV c.M t v σ.h l=some o) {Q:Unit->Shared->Prop} (q:∀h' tk,dh env.locals g s.heap g h'->Rel c g σ h'->Loc c env nm g h' o->Q () {s with heap:=h',toks:=tk}):wpAny c.md A (assign e env u) Q E s:=
 JV hh f j t p (is:=[]) R (by simpa using F) x z fun h' tk T B I=>q h' tk T B (I.weak fun i y e=>xM e (by simp))
end
section
variable{H:Type}{c:Cx H}{A:Around}{E:cV}{s:Shared}{env:Env}{nm:Nat->Option Str}
def aar(c:Cx H)(g:G)(L:Addr)(h₀ h:Heap)(I:Addr)(i:Nat):It->Prop
 |.li a=>∃o,g.ad a false=some o/\h.IsListIter I o i
 |.di a n e=>∃d,g.ad a false=some d/\h.IsKeyIter I d i n e
 |.tu l=>(∃p vs,g.tp p=some vs/\cE c.N g l vs/\h.IsTupleIter I p i)∨(∃x st:Int,IsRangeIter h I (x+i*st) (l.length-i) st/\(∀j y,bA l j=some y->y=.int (.l (x+j*st)))/\i<=l.length)
 |.en a=>∃o it old,g.ad a false=some o/\IsEnum h I it i old/\h.IsListIter it o i/\fZ c g L it/\h₀.get? it=none/\I≠it
structure mN(c:Cx H)(g:G)(L:Addr)(h₀ h:Heap)(t:It)(I:Addr)(i:Nat):Prop where
 tm:fZ c g L I
 nw:h₀.get? I=none
 to:aar c g L h₀ h I i t
theorem mN.da{g g':G}{L:Addr}{h₀ h h':Heap}{t:It}{I:Addr}{i:Nat}(x:mN c g L h₀ h t I i)(T:dh L g h g' h'):mN c g' L h₀ h' t I i:=by
 obtain⟨tm,nw,to⟩:=x;have j:∀o,h.get? I=some o->h'.get? I=some o:=fun o e=>tm.at T e
 cases t with
 |li a=>obtain⟨p,a1,o,e,r⟩:=to;exact⟨tm.da T e,nw,p,T.ad _ _ _ a1,o,j o e,r⟩
 |di a n e=>obtain⟨d,a1,o,e,r⟩:=to;exact⟨tm.da T e,nw,d,T.ad _ _ _ a1,o,j o e,r⟩
 |tu l=>
  rcases to with⟨z,vs,a1,B,o,e,r⟩|⟨x,st,e,r⟩
  ·exact⟨tm.da T e,nw,.inl ⟨z,vs,T.tp _ _ a1,T.sP B,o,j o e,r⟩⟩
  ·exact⟨tm.da T e,nw,.inr ⟨x,st,j _ e,r⟩⟩
 |en a=>obtain⟨p,it,old,a1,e,⟨J,q,K⟩,y,ni,ne⟩:=to;exact⟨tm.da T e,nw,p,it,old,T.ad _ _ _ a1,j _ e,⟨J,y.at T q,K⟩,y.da T q,ni,ne⟩
theorem sD{g:G}{σ:St H}{h:Heap}{l:L}(R:Rel c g σ h)(F:Loc c env nm g h l){a:Addr}(ha:h.get? a=none):fZ c g env.locals a where
 own:=fun n b e=>by obtain⟨o,q⟩:=R.owned e;rw[ha]at q;cases q
 tp:=by cases q:g.tp a with|none=>rfl|some vs=>obtain⟨o,e⟩:=R.C0 q;rw[ha]at e;cases e
 old:=by cases q:c.h₀.get? a with|none=>rfl|some o=>have:=R.old a o q;rw[ha]at this;cases this
 ne:=fun e=>by subst e;obtain⟨o,q⟩:=F.alive;rw[ha]at q;cases q
theorem Sn(gd:Gd c){g:G}{σ:St H}{l:L}(R:Rel c g σ s.heap)(F:Loc c env nm g s.heap l){v:V}{u:Value}{t:It}(h:iter c.M σ.h v=some t)(e:cj c.N g v u){Q:cV}
  (q:∀I ob,mN c g env.locals s.heap (s.heap.push ob) t I 0->Q (.ref I) {s with heap:=s.heap.push ob}):wpAny c.md A (pyIter u) Q E s:=by
 have tm:=sD R F (a:=s.heap.objs.size) m4;unfold iter at h;cases v with
 |tup xs=>cases h;obtain⟨a,vs,rfl,j,o⟩:=e;exact wpAny_pyIter_tuple (R.tup a vs j) (q _ _ ⟨tm,m4,.inl ⟨a,vs,j,o,_,kO _ rfl,rfl,rfl⟩⟩)
 |ref n=>obtain⟨a,rfl,ha⟩:=e;simp only at h;cases p:c.M.get σ.h n with|list xs=>rw[p]at h;cases h;obtain⟨us,m,x,y,z,_⟩:=R.list p ha;exact wpAny_pyIter_list ⟨_,x,rfl,_,rfl⟩ (q _ _ ⟨tm,m4,a,ha,_,kO _ rfl,rfl,rfl⟩)|dict es ep=>rw[p]at h;cases h;obtain⟨cR,D⟩:=R.dict p ha;refine Ks (R.sH ha) D.ho (q _ _ ⟨tm,m4,a,ha,?_⟩);rw[D.size];exact⟨_,kO _ rfl,rfl,rfl⟩|_=>rw[p]at h;cases h
 |_=>cases h
def zY(e:Expr):Bool:=match e with
 |.Name ..=>true
 |_=>false
def tM:Expr->Bool
 |.Tuple ..=>true
 |_=>false
theorem Uk{e:Expr}(h:zY e=true)(it v:Value):letOwnedTupleGo e it v=pure ():=by cases e<;>first|(cases h;done)|rfl
theorem zF{e:Expr}{I:Addr}{o:Obj}{n:String}{u:Value}(ho:s.heap.get? I=some o)(j:o.cls=.type n)(p:["enumerate","zip","dict_itemiterator","dict_reverseitemiterator","odict_iterator","itertools.zip_longest","itertools.pairwise"].contains n=false)
  (ht:zY e=true∨tM e=true) {Q:Unit->Shared->Prop} (q:Q () s):wpAny c.md A (letOwnedTupleGo e (.ref I) u) Q E s:=by
 rcases ht with ht|ht
 ·rw[Uk ht];exact bU q
 ·cases e with
  |Tuple es k pos=>
   unfold letOwnedTupleGo;cases u with
   |ref a=>
    refine bC (wpAny_load ho ?_);rw[j];split
    ·rename_i n' vs t x;cases t;rw[p];exact bU q
    ·exact bU q
   |_=>exact bU q
  |_=>cases ht
structure gh(c:Cx H)(env:Env)(nm:Nat->Option Str)(iz:G)(h₀:Heap)(g:G)(h:Heap)(σ:St H)(l:L):Prop where
 T:dh env.locals iz h₀ g h
 R:Rel c g σ h
 F:Loc c env nm g h l
 ce:∀y q,env.cells.lookup y=some q->∃o,h₀.get? q=some o
theorem gh.put{iz g:G}{h₀ h h':Heap}{σ:St H}{l:L}(x:gh c env nm iz h₀ g h σ l){I:Addr}(tm:fZ c g env.locals I)(nw:h₀.get? I=none)(k:∀b o,b≠I->h.get? b=some o->h'.get? b=some o):gh c env nm iz h₀ g h' σ l where
 T:=x.T.but nw k
 R:=x.R.ext tm k
 F:=by
  have F:=x.F;obtain⟨m,⟨o,es,ep,K,O⟩,r⟩:=F.ns;have B:∀y q,env.cells.lookup y=some q->q≠I:=fun y q e z=>by obtain⟨o,j⟩:=x.ce y q e;rw[z,nw]at j;cases j
  refine⟨⟨m,⟨o,es,ep,k _ _ (kQ tm.ne) K,O⟩,fun i v y a b d=>?_⟩,F.own,F.tp,F.old,fun y q e=>by obtain⟨o,j⟩:=F.kW y q e;exact⟨o,k _ _ (B y q e) j⟩⟩;rcases r i v y a b d with⟨p,u,q,t⟩|⟨p,q,u,J,S,U,W⟩
  ·exact .inl ⟨p,u,q,t⟩
  ·obtain⟨Y,Z,rc⟩:=S;exact .inr ⟨p,q,u,J,⟨Y,k _ _ (B y q J) Z,rc⟩,U,W⟩
 ce:=x.ce
theorem gh.grow{iz g g':G}{h₀ h h':Heap}{σ bx:St H}{l e:L}(x:gh c env nm iz h₀ g h σ l)(T:dh env.locals g h g' h')(R:Rel c g' bx h')(F:Loc c env nm g' h' e):gh c env nm iz h₀ g' h' bx e:=⟨x.T.trans T,R,F,x.ce⟩
theorem gh.start{g:G}{h:Heap}{σ:St H}{l:L}(R:Rel c g σ h)(F:Loc c env nm g h l):gh c env nm g h g h σ l:=⟨.refl _ _ _,R,F,F.kW⟩
theorem gh.aas{iz g:G}{h₀ h h':Heap}{σ:St H}{l:L}(x:gh c env nm iz h₀ g h σ l)(P:Addr->Prop)(j:∀a,P a->fZ c g env.locals a/\h₀.get? a=none)(k:∀b o,¬P b->h.get? b=some o->h'.get? b=some o):gh c env nm iz h₀ g h' σ l where
 T:=by
  have n0:∀b o,h₀.get? b=some o->¬P b:=fun b o e z=>by rw[(j b z).2]at e;cases e
  exact⟨x.T.ad,x.T.tp,x.T.o8,x.T.pQ,fun b o e=>by obtain⟨o',B⟩:=x.T.live b o e;exact⟨o',k b o' (n0 b o e) B⟩,fun b o e K hl=>k b o (n0 b o e) (x.T.keep b o e K hl)⟩
 R:=⟨x.R.inj,fun n=>(x.R.obj n).keep fun b y ob e q=>k y ob (fun z=>(j y z).1.own n b e) q,fun y vs e=>ur (x.R.tup y vs e) fun o q=>k y o (fun z=>by rw[(j y z).1.tp]at e;cases e) q,
  fun y o e=>k y o (fun z=>by rw[(j y z).1.old]at e;cases e) (x.R.old y o e),x.R.fresh,x.R.ok,x.R.sys,x.R.sep,x.R.oY,x.R.oZ⟩
 F:=by
  have F:=x.F;obtain⟨m,⟨o,es,ep,O,S⟩,r⟩:=F.ns;have I:∀y q,env.cells.lookup y=some q->¬P q:=fun y q e z=>by obtain⟨o,B⟩:=x.ce y q e;rw[(j q z).2]at B;cases B
  refine⟨⟨m,⟨o,es,ep,k _ _ (fun z=>(j _ z).1.ne rfl) O,S⟩,fun i v y a b d=>?_⟩,F.own,F.tp,F.old,fun y q e=>by obtain⟨o,B⟩:=F.kW y q e;exact⟨o,k _ _ (I y q e) B⟩⟩;rcases r i v y a b d with⟨p,u,q,t⟩|⟨p,q,u,J,U,W,Y⟩
  ·exact .inl ⟨p,u,q,t⟩
  ·obtain⟨Z,ec,rc⟩:=U;exact .inr ⟨p,q,u,J,⟨Z,k _ _ (I y q J) ec,rc⟩,W,Y⟩
 ce:=x.ce
theorem gh.tuple{iz g:G}{h₀ h:Heap}{σ:St H}{l:L}(x:gh c env nm iz h₀ g h σ l){a:Addr}{vs:List Value}(tm:fZ c g env.locals a)(nw:h₀.get? a=none)(K:h.IsTuple a vs.toArray):gh c env nm iz h₀ (g.lN a vs) h σ l:=by
 have mono:∀b us,g.tp b=some us->(g.lN a vs).tp b=some us:=fun b us e=>by
  rw[G.qj fun z=>?_]
  ·exact e
  ·subst z;rw[tm.tp]at e;cases e
 have T:dh env.locals iz h₀ (g.lN a vs) h:=⟨x.T.ad,fun b us e=>mono b us (x.T.tp b us e),x.T.o8,fun y us e=>by
  by_cases j:y=a
  ·subst j;exact .inr nw
  ·rw[G.qj j]at e;exact x.T.pQ y us e,x.T.live,x.T.keep⟩
 have R:Rel c (g.lN a vs) σ h:=⟨x.R.inj,fun n=>gS.mono (g':=g.lN a vs) (x.R.obj n) (fun _ _ _ e=>e) (fun _ e=>e) mono,fun y us e=>by
  by_cases j:y=a
  ·subst j;rw[G.zy]at e;cases e;exact K
  ·rw[G.qj j]at e;exact x.R.tup y us e,x.R.old,x.R.fresh,x.R.ok,x.R.sys,fun n b y e=>by
  have hz:y≠a:=fun z=>by subst z;exact tm.own n b e
  rw[G.qj hz]
  exact x.R.sep n b y e,x.R.oY,fun y us e=>mono y us (x.R.oZ y us e)⟩
 obtain⟨m,O,r⟩:=x.F.ns;refine⟨T,R,⟨⟨m,O,fun i v y S U W=>?_⟩,x.F.own,?_,x.F.old,x.F.kW⟩,x.ce⟩
 ·rcases r i v y S U W with⟨p,u,q,t⟩|⟨p,q,u,I,Y,B,Z⟩
  ·exact .inl ⟨p,u,q,cj.mono (g:=g) (g':=g.lN a vs) (fun _ _ _ e=>e) mono _ _ t⟩
  ·refine .inr ⟨p,q,u,I,Y,⟨B.own,?_,B.old,B.ne⟩,cj.mono (g:=g) (g':=g.lN a vs) (fun _ _ _ e=>e) mono _ _ Z⟩;rw[G.qj fun z=>?_]
   ·exact B.tp
   ·obtain⟨o,J⟩:=x.ce y q I;rw[z,nw]at J;cases J
 ·rw[G.qj (kQ tm.ne)];exact x.F.tp
theorem mN.tuple{g:G}{L:Addr}{h₀ h:Heap}{t:It}{I:Addr}{i:Nat}(x:mN c g L h₀ h t I i){a:Addr}{vs:List Value}(ha:a≠I)(hf:g.tp a=none)(q:∀ad,t=.en ad->∃o it old,g.ad ad false=some o/\IsEnum h I it i old/\h.IsListIter it o i/\fZ c g L it/\h₀.get? it=none/\I≠it/\it≠a):mN c (g.lN a vs) L h₀ h t I i:=by
 have j:∀z,fZ c g L z->z≠a->fZ c (g.lN a vs) L z:=fun z t hz=>⟨t.own,by rw[G.qj hz];exact t.tp,t.old,t.ne⟩
 have mono:∀b us,g.tp b=some us->(g.lN a vs).tp b=some us:=fun b us e=>by
  rw[G.qj fun z=>?_]
  ·exact e
  ·subst z;rw[hf]at e;cases e
 obtain⟨tm,nw,to⟩:=x;refine⟨j I tm (kQ ha),nw,?_⟩;cases t with
 |li b=>exact to
 |di b n e=>exact to
 |tu l=>
  rcases to with⟨y,us,a1,p,r⟩|r
  ·exact .inl ⟨y,us,mono _ _ a1,cE.mono (g:=g) (g':=g.lN a vs) (fun _ _ _ e=>e) mono _ _ p,r⟩
  ·exact .inr r
 |en b=>obtain⟨o,it,old,a1,p,a3,a4,a5,a6,B⟩:=q b rfl;exact⟨o,it,old,a1,p,a3,j it a4 B,a5,a6⟩
theorem So(hh:A.handled=none){iz g:G}{h₀:Heap}{σ:St H}{l:L}{t:It}{I:Addr}{i:Nat}{r:Option V}(K:hX c.M t i σ.h=some r)(x:gh c env nm iz h₀ g s.heap σ l)(y:mN c g env.locals h₀ s.heap t I i){j:Expr}
  (ht:zY j=true∨tM j=true) (ap:∀a,t=.en a->tM j=true) {Q:Option Value->Shared->Prop} (O:r=none->∀h',gh c env nm iz h₀ g h' σ l->Q none {s with heap:=h'})
  (J:∀v,r=some v->∀u ab,(∀(P:Unit->Shared->Prop)(E':cV),(∀g' h' tk,gh c env nm iz h₀ g' h' σ l->mN c g' env.locals h₀ h' t I (i+1)->cj c.N g' v u->P () {s with heap:=h',toks:=tk})->
   wpAny c.md A (letOwnedTupleGo j (.ref I) u) P E' ab)->Q (some u) ab):
  wpAny c.md A (pyNext (.ref I)) Q E s:=by
 obtain⟨tm,nw,to⟩:=y;cases t with
 |li a=>
  obtain⟨la,a1,it⟩:=to;simp only[hX]at K;cases p:c.M.get σ.h a with
  |list xs=>
   rw[p]at K;cases K;obtain⟨us,m,l1,l2,l3,_⟩:=x.R.list p a1;cases q:bA xs i with
   |none=>have:=l2.none q;exact wpAny_pyNext_list_end hh it ⟨_,l1,rfl,_,rfl⟩ (by simpa using this) fun h' S=>O q h' (x.put tm nw S)
   |some v=>
    obtain⟨u,u1,u2⟩:=l2.at q;refine wpAny_pyNext_list_item it ⟨_,l1,rfl,_,rfl⟩ (by simpa using u1) fun h' B hs=>J v q u _ fun P E' Y=>?_
    obtain⟨o,ho,hc,hd⟩:=id B;exact zF (s:={s with heap:=h'}) ho hc (by decide) ht (Y g h' s.toks (x.put tm nw hs.extBut) ⟨tm,nw,la,a1,B⟩ u2)
  |_=>rw[p]at K;cases K
 |di a n e=>
  obtain⟨d,a1,it⟩:=to;simp only[hX]at K;cases p:c.M.get σ.h a with
  |dict es ep=>
   rw[p]at K;obtain⟨hb,aq⟩:=gZ K;rw[cY,gc,gc]at hb;obtain⟨rfl,rfl⟩:=hb;obtain⟨cR,D⟩:=x.R.dict p a1;rw[←D.size]at it;cases aq;cases q:bA es i with
   |none=>
    have ah:cR.size<=i:=by rw[oG]at q;rw[D.size];exact xY.mp q
    exact J8 hh it D.ho ah fun h' S=>O (by rw[q]) h' (x.put tm nw S)
   |some en=>
    rw[oG]at q;obtain⟨de,kd,f1,_,_,f4,_⟩:=D.hr.at q;refine JX it D.ho (by simpa using f1) fun h' B hs=>J en.1 (by rw[oG,q]) de.key _ fun P E' Y=>?_
    obtain⟨o,ho,hc,hd⟩:=id B;exact zF (s:={s with heap:=h'}) ho hc (by decide) ht (Y g h' s.toks (x.put tm nw hs.extBut) ⟨tm,nw,d,a1,by rw[←D.size];exact B⟩ f4)
  |_=>rw[p]at K;cases K
 |tu xs=>
  cases K;rcases to with⟨ta,vs,a1,a2,it⟩|⟨x0,st,it,ai,hle⟩
  ·have ae:=x.R.tup ta vs a1;cases q:bA xs i with
   |none=>have:=a2.none q;exact wpAny_pyNext_tuple_end hh it ae (by simpa using this) fun h' S=>O q h' (x.put tm nw S)
   |some v=>
    obtain⟨u,u1,u2⟩:=a2.at q;refine wpAny_pyNext_tuple_item it ae (by simpa using u1) fun h' B hs=>J v q u _ fun P E' Y=>?_
    obtain⟨o,ho,hc,hd⟩:=id B;exact zF (s:={s with heap:=h'}) ho hc (by decide) ht (Y g h' s.toks (x.put tm nw hs.extBut) ⟨tm,nw,.inl ⟨ta,vs,a1,a2,B⟩⟩ u2)
  ·cases q:bA xs i with
   |none=>
    have ah:xs.length<=i:=by rw[oG]at q;exact xY.mp q
    exact wpAny_pyNext_range_end hh it (by omega) fun h' S=>O q h' (x.put tm nw S)
   |some v=>
    have ar:i<xs.length:=by rw[oG]at q;exact(lK.mp q).1
    refine wpAny_pyNext_range_item it (by omega) fun h' B hs=>J v q _ _ fun P E' Y=>?_
    have e1:x0+(i:Int)*st+st=x0+((i+1:Nat):Int)*st:=by push_cast;rw[Int.add_mul];omega
    have e2:(xs.length:Int)-(i:Int)-1=(xs.length:Int)-((i+1:Nat):Int):=by omega
    rw[e1,e2]at B;exact zF (s:={s with heap:=h',toks:=s.toks+1}) B rfl (by decide) ht (Y g h' _ (x.put tm nw hs.extBut) ⟨tm,nw,.inr ⟨x0,st,B,ai,ar⟩⟩ (by rw[ai i v q];exact⟨_,rfl⟩))
 |en a=>
  obtain⟨la,it,old,a1,S,af,ti,ni,Z⟩:=to;simp only[hX]at K;cases p:c.M.get σ.h a with
  |list xs=>
   rw[p]at K;obtain⟨us,m,l1,l2,l3,_⟩:=x.R.list p a1;cases q:bA xs i with
   |none=>simp only[q]at K;cases K;have:=l2.none q;exact wpAny_pyNext_enum_end hh S af ⟨_,l1,rfl,_,rfl⟩ (by simpa using this) fun h' au=>O rfl h' (x.put ti ni au)
   |some v=>
    simp only[q]at K;cases K;obtain⟨u,u1,u2⟩:=l2.at q;refine wpAny_pyNext_enum_item S af ⟨_,l1,rfl,_,rfl⟩ (by simpa using u1) Z fun h' ho aj av hz kp=>J _ rfl _ _ fun P E' Y=>?_
    cases j with
    |Tuple es k pos=>
     refine wpAny_letOwnedTupleGo_enum (s:={s with heap:=h',toks:=s.toks+1}) ho fun aa U hs=>?_
     have hsz:s.heap.get? s.heap.objs.size=none:=m4;have lt:∀{b:Addr}{o:Obj},s.heap.get? b=some o->b≠s.heap.objs.size:=fun e=>qr (nc e)
     have hI:I≠s.heap.objs.size:=lt S;have ak:it≠s.heap.objs.size:=by obtain⟨o,e,_⟩:=af;exact lt e
     have al:gh c env nm iz h₀ g aa σ l:=x.aas (fun b=>b=I∨b=it) (fun b hb=>by rcases hb with rfl|rfl;exact⟨tm,nw⟩;exact⟨ti,ni⟩) fun b o hb e=>(hs.2 b fun z=>hb (.inl z)).trans (kp b o (fun z=>hb (.inl z)) (fun z=>hb (.inr z)) e)
     have ag:fZ c g env.locals s.heap.objs.size:=sD x.R x.F hsz;have aw:h₀.get? s.heap.objs.size=none:=by cases z:h₀.get? s.heap.objs.size with|none=>rfl|some o=>obtain⟨o',e'⟩:=x.T.live _ o z;rw[hsz]at e';cases e'
     have am:aa.IsTuple s.heap.objs.size (#[Value.int i s.toks,u]:Array Value):=⟨_,(hs.2 _ (kQ hI)).trans av,rfl,0,rfl⟩
     have W:aa.IsListIter it la (i+1):=by obtain⟨o,e,r⟩:=aj;exact⟨o,(hs.2 it (kQ Z)).trans e,r⟩
     have an:=al.tuple (vs:=[.int i s.toks,u]) ag aw am;have ei:((i:Int)+1)=((i+1:Nat):Int):=by omega
     rw[ei]at U;have ao:mN c g env.locals h₀ aa (.en a) I (i+1):=⟨tm,nw,la,it,u,a1,U,W,ti,ni,Z⟩
     refine Y _ _ _ an (ao.tuple (kQ hI) ag.tp fun ad e=>by cases e;exact⟨la,it,u,a1,U,W,ti,ni,Z,ak⟩) ?_;exact⟨_,_,rfl,G.zy,_,_,rfl,⟨_,rfl⟩,_,_,rfl,cj.mono (g:=g) (g':=g.lN s.heap.objs.size [.int i s.toks,u]) (fun _ _ _ e=>e) (fun b us e=>by rw[G.qj fun z=>by subst z;rw[ag.tp]at e;cases e];exact e) _ _ u2,rfl⟩
    |_=>exact absurd (ap a rfl) (by simp[tM])
  |_=>rw[p]at K;cases K
end
def NF(N:Nm)(g:G):Fl->Flow->Prop
 |.nx,f=>f=.next
 |.cn,f=>f=.cont
 |.rt v,f=>∃u,f=.ret u/\cj N g v u
section
variable{H:Type}(c:Cx H)(A:Around)(env:Env)(nm:Nat->Option Str)
def lO(st:Stmt)(y:Y H):Prop:=∀(Q:Flow->Shared->Prop)(E:cV)(s:Shared)(g:G)(σ:St H)(l:L)(e:Fl)(j:L)(bx:St H),
 Rel c g σ s.heap->Loc c env nm g s.heap l->y l σ=some ((e,j),bx)->
 (∀g' h' tk f,dh env.locals g s.heap g' h'->Rel c g' bx h'->Loc c env nm g' h' j->NF c.N g' e f->Q f {s with heap:=h',toks:=tk})->
 wpAny c.md A (exec st env) Q E s
def uS(e:List Stmt)(y:Y H):Prop:=∀(Q:Flow->Shared->Prop)(E:cV)(s:Shared)(g:G)(σ:St H)(l:L)(j:Fl)(o:L)(bx:St H),
 Rel c g σ s.heap->Loc c env nm g s.heap l->y l σ=some ((j,o),bx)->
 (∀g' h' tk f,dh env.locals g s.heap g' h'->Rel c g' bx h'->Loc c env nm g' h' o->NF c.N g' j f->Q f {s with heap:=h',toks:=tk})->
 wpAny c.md A (execs e env) Q E s
end
section
variable{H:Type}{c:Cx H}{A:Around}{E:cV}{s:Shared}{env:Env}{nm:Nat->Option Str}
theorem Ul:uS c A env nm [] (rO (H:=H)):=by intro Q E s g σ l j o bx R F e q;cases e;exact wpAny_execs_nil (q g s.heap s.toks _ (.refl _ _ _) R F rfl)
theorem S7{st:Stmt}{r:List Stmt}{a b:Y H}(h:lO c A env nm st a)(k:uS c A env nm r b):uS c A env nm (st::r) (yK a b):=by
 intro Q E s g σ l fl l' bx R F B q;unfold yK at B;cases pa:a l σ with
 |none=>rw[pa]at B;cases B
 |some p=>obtain⟨⟨f1,l1⟩,s1⟩:=p;rw[pa]at B;refine wpAny_execs_cons (h _ _ _ _ _ _ _ _ _ R F pa fun y bG z f j o t x=>?_);cases f1 with|nx=>have e:f=.next:=x;subst e;exact k _ _ _ _ _ _ _ _ _ o t B fun I J K O S U W Z=>q I J K O (j.trans S) U W Z|cn=>cases B;have e:f=.cont:=x;subst e;exact q y bG z _ j o t rfl|rt v=>cases B;obtain⟨u,rfl,hu⟩:=x;exact q y bG z _ j o t ⟨u,rfl,hu⟩
def oE:Expr->Bool
 |.ListComp ..=>false
 |.SetComp ..=>false
 |.DictComp ..=>false
 |_=>true
theorem GI{e:Expr}(h:oE e=true)(t:Option Expr)(j:Nat):swapsWith e t j env=pure false:=by cases e<;>first|(cases h;done)|rfl
theorem CL{e:Expr}(h:oE e=true)(t:Expr)(j:Nat):swapsWithSole [t] e j env=pure false:=GI h (some t) j
theorem Wy(f:jj env nm){loc:Str->Bool}(o:∀y,loc y=true->env.kindOf y=some .local){i:Nat}{t e:Expr}{x:X H V}(pos:Pos)(Z:vb nm loc i t=true)(hv:oE e=true)(h:dv c A env nm e x):lO c A env nm (.Assign [t] e pos) (wG i x):=by intro Q E s g σ l fl l' bx R F j q;obtain⟨y,p,rfl,h1,h2⟩:=uz Z;obtain⟨v,U,e1,j⟩:=cP j;cases S:bW l i v with|none=>rw[S]at j;cases j|some W=>rw[S]at j;cases j;refine wpAny_Assign_stores (h _ _ _ _ _ _ _ _ R F e1 fun z bG B Y I J K O=>?_) (CL hv _ _) rfl;exact CF (is:=[]) (s:={s with heap:=bG,toks:=B}) f h1 (o y h2) J (K.but _) O S (fun h' tk T R' F'=>q z h' tk _ (I.trans T) R' (F'.weak fun i y e=>xM e (by simp)) rfl) p
theorem Kf(gd:Gd c){o:Expr}{x:X H V}{fi:Nat}{name:Str}{pos:Pos}(J:name=c.N.fd fi)(h:dv c A env nm o x){g:G}{σ e bx:St H}{l:L}{v w:V}{u:Value}{K:Unit}(R:Rel c g σ s.heap)(F:Loc c env nm g s.heap l)(O:cj c.N g v u)(S:x l σ=some (w,e))(U:qt c.M w fi v e=some (K,bx))
  {Q:Unit->Shared->Prop} (q:∀g' h' tk,dh env.locals g s.heap g' h'->Rel c g' bx h'->Loc c env nm g' h' l->Q () {s with heap:=h',toks:=tk}):wpAny c.md A (assign (.Attribute o name pos) env u) Q E s:=by
 subst J;rw[arm_assign_Attribute];refine bC (iy (h _ _ _ _ _ _ _ _ R F S fun p bG t I j y z B=>bC (rN (bC (iy ?_)))));exact Kc (s:={s with heap:=bG,toks:=t}) gd y z U B (j.mf O) fun h' tk T W Y=>wpAny_release (q p h' tk (j.trans T) W Y)
theorem Wz(gd:Gd c){o e:Expr}{x y:X H V}{fi:Nat}{name:Str}(p pos:Pos)(hn:name=c.N.fd fi)(hv:oE e=true)(h:dv c A env nm o x)(k:dv c A env nm e y):lO c A env nm (.Assign [.Attribute o name p] e pos) (OE c.M x fi y):=by intro Q E s g σ l fl l' bx R F j q;obtain⟨v,Z,e1,j⟩:=cP j;obtain⟨w,aa,e2,j⟩:=cP j;obtain⟨uu,ab,e3,j⟩:=cP j;cases j;refine wpAny_Assign_stores (k _ _ _ _ _ _ _ _ R F e1 fun ae bG t af z B I J=>?_) (CL hv _ _) rfl;exact Kf (s:={s with heap:=bG,toks:=t}) gd hn h B I J e2 e3 fun K O S U W Y=>q K O S _ (z.trans U) W Y rfl
theorem WA(gd:Gd c)(hu:A.units+30<cLine){o i e:Expr}{x z y:X H V}(p pos:Pos)(hv:oE e=true)(h:dv c A env nm o x)(h2:dv c A env nm i z)(k:dv c A env nm e y):lO c A env nm (.Assign [.Subscript o i p] e pos) (OF c.M x z y):=by
 intro Q E s g σ l fl l' bx R F B q;obtain⟨v,ah,e1,B⟩:=cP B;obtain⟨w,ai,e2,B⟩:=cP B;obtain⟨j,aj,e3,B⟩:=cP B;obtain⟨uu,ak,e4,B⟩:=cP B;cases B;refine wpAny_Assign_Subscript (k _ _ _ _ _ _ _ _ R F e1 fun al bG am an J K O S=>?_) (GI hv _ _);refine h _ _ _ _ _ _ _ _ K O e2 fun ao ap aq ar I U W Y=>?_
 refine h2 _ _ _ _ _ _ _ _ U W e3 fun Z aa ab au t ae af ag=>?_
 exact J7 (s:={s with heap:=aa,toks:=ab}) gd hu ae af e4 (t.mf Y) ag (t.mf (I.mf S)) fun h' tk T R' F'=>q Z h' tk _ (((J.trans I).trans t).trans T) R' F' rfl
theorem S8{M:Mc H}{v w r:V}{σ bx:St H}(h:wc M v w σ=some (r,bx)):∃x y z,v=.int x/\w=.int y/\hV M.F .add x y=some z/\r=.int z/\bx=σ:=by
 unfold wc at h;cases v with
 |int x=>cases w with
  |int y=>simp only at h;cases p:hV M.F .add x y with|none=>rw[p]at h;cases h|some z=>rw[p]at h;cases h;exact⟨x,y,z,rfl,rfl,p,rfl,rfl⟩
  |_=>cases h
 |_=>cases h
theorem Um{F:cG}{N:Nm}{x y z:Z}(h:hV F .add x y=some z):x.val N+y.val N=z.val N:=by cases x<;>cases y<;>first|(cases h;done)|(cases h;simp only[Z.val];try omega)
theorem Kx{g:G}{v w r:V}{σ bx:St H}(h:wc c.M v w σ=some (r,bx)){a b:Value}(ha:cj c.N g v a)(e:cj c.N g w b){Q:cV}(q:∀u tk,bx=σ->cj c.N g r u->Q u {s with toks:=tk}):
  wpAny c.md A (inplaceOp .Add a b) Q E s:=by
 obtain⟨x,y,z,rfl,rfl,hz,rfl,hs⟩:=S8 h;obtain⟨t,rfl⟩:=ha;obtain⟨j,rfl⟩:=e;exact P.iadd_int (q _ _ hs ⟨_,by rw[Um hz]⟩)
theorem WB(gd:Gd c){o e:Expr}{x y:X H V}{fi:Nat}{name:Str}(p pos:Pos)(hn:name=c.N.fd fi)(h:dv c A env nm o x)(k:dv c A env nm e y):lO c A env nm (.AugAssign (.Attribute o name p) .Add e pos) (OG c.M x fi y):=by
 intro Q E s g σ l fl l' bx R F j q;subst hn;obtain⟨w,af,e1,j⟩:=cP j;obtain⟨u,ag,e2,j⟩:=cP j;obtain⟨v,ah,e3,j⟩:=cP j;obtain⟨r,ai,e4,j⟩:=cP j;obtain⟨uu,aj,e5,j⟩:=cP j;cases j;refine wpAny_AugAssign_AttributeAny (h _ _ _ _ _ _ _ _ R F e1 fun ak bG J al K z O B=>?_);refine J9 (s:={s with heap:=bG,toks:=J}) gd z e2 B fun old tk hs hr=>?_
 subst hs;refine k _ _ {s with heap:=bG,toks:=tk} _ _ _ _ _ z O e3 fun S I U am t W Y Z=>?_
 refine Kx (s:={s with heap:=I,toks:=U}) e4 (t.mf hr) Z fun new ab ae hn=>?_
 subst ae;exact Kc (s:={s with heap:=I,toks:=ab}) gd W Y e5 (t.mf B) hn fun h' aa T R' F'=>q S h' aa _ ((K.trans t).trans T) R' F' rfl
def GJ:Expr->Bool
 |.Slice ..=>false
 |_=>true
theorem Rw{i:Expr}(h:GJ i=true)(e j new:Value):augStore i e j new=(do holding [new,e,j] (setItem e j new);release [new,e,j] [];pure .next):=by cases i<;>first|(cases h;done)|rfl
theorem WC(gd:Gd c)(hu:A.units+30<cLine){o i e:Expr}{x z y:X H V}(p pos:Pos)(hi:GJ i=true)(h:dv c A env nm o x)(h2:dv c A env nm i z)(k:dv c A env nm e y):lO c A env nm (.AugAssign (.Subscript o i p) .Add e pos) (OH c.M x z y):=by
 intro Q E s g σ l fl l' bx R F B q;obtain⟨w,ar,e1,B⟩:=cP B;obtain⟨j,au,e2,B⟩:=cP B;obtain⟨u,J,e3,B⟩:=cP B;obtain⟨v,K,e4,B⟩:=cP B;obtain⟨r,O,e5,B⟩:=cP B;obtain⟨uu,av,e6,B⟩:=cP B;cases B;refine wpAny_AugAssign_Subscript_any (h _ _ _ _ _ _ _ _ R F e1 fun aw bG ax aa ab ae af S=>?_) (Rw hi);refine h2 _ _ _ _ _ _ _ _ ae af e2 fun ay U ag ah I W ai Y=>?_
 obtain⟨Ty,id,hT,hl,hw⟩:=J6 (s:={s with heap:=U,toks:=ag}) (A:=A) (E:=E) (Q:=fun old J=>wpAny c.md A (eval e env) (fun v K=>wpAny c.md A (inplaceOp .Add old v) (fun new O=>
    wpAny c.md A (setItem aa ah new) (fun _=>Q .next) E O) E K) E J) gd hu W e3 (I.mf S) Y fun old tk hs hr=>by
  subst hs;refine k _ _ {s with heap:=U,toks:=tk} _ _ _ _ _ W ai e4 fun aj Z ak az t al am an=>?_
  refine Kx (s:={s with heap:=Z,toks:=ak}) e5 (t.mf hr) an fun new ap aq hn=>?_
  subst aq;exact J7 (s:={s with heap:=Z,toks:=ap}) gd hu al am e6 (t.mf (I.mf S)) (t.mf Y) hn fun h' ao T R' F'=>q aj h' ao _ (((ab.trans I).trans t).trans T) R' F' rfl
 exact hw
theorem WD{e:Expr}{x:X H V}(pos:Pos)(hi:interactive env=false)(K:oE e=true)(h:dv c A env nm e x):lO c A env nm (.Expr e pos) (EM x):=by intro Q E s g σ l S U bx R F z q;obtain⟨v,B,O,z⟩:=cP z;cases z;exact wpAny_Expr_any (h _ _ _ _ _ _ _ _ R F O fun j bG o I p t y J=>q j bG o _ p t y rfl) hi (GI K _ _)
theorem WE{t:Expr}{a b:List Stmt}{x:X H V}{y z:Y H}(pos:Pos)(h:nf c A env nm t (xB c.M x))(k1:uS c A env nm a y)(k2:uS c A env nm b z):lO c A env nm (.If t a b pos) (EN c.M x y z):=by intro Q E s g σ l fl l' bx R F W q;obtain⟨w,Z,e1,W⟩:=cP W;refine wpAny_If (h _ _ _ _ _ _ _ _ R F e1 fun aa bG ab O S U=>?_);cases w with|true=>exact k1 _ _ _ _ _ _ _ _ _ S U W fun e j o p B I J K=>q e j o p (O.trans B) I J K|false=>exact k2 _ _ _ _ _ _ _ _ _ S U W fun e j o p B I J K=>q e j o p (O.trans B) I J K
theorem WG{e:Expr}{x:X H V}(pos:Pos)(h:dv c A env nm e x):lO c A env nm (.Return (some e) pos) (Bp x):=by intro Q E s g σ l O S bx R F I q;obtain⟨v,J,K,I⟩:=cP I;cases I;exact wpAny_Return_some (h _ _ _ _ _ _ _ _ R F K fun j bG o p t y z B=>q j bG o _ t y z ⟨p,rfl,B⟩)
theorem Vg(pos:Pos):lO c A env nm (.Return none pos) (Bp (H:=H) (xC .none)):=by intro Q E s g σ l j o bx R F e q;cases e;exact wpAny_Return_none (q g s.heap s.toks _ (.refl _ _ _) R F ⟨_,rfl,rfl⟩)
theorem WH(pos:Pos):lO c A env nm (.Continue pos) (ON (H:=H)):=by intro Q E s g σ l j o bx R F e q;cases e;exact wpAny_Continue (q g s.heap s.toks _ (.refl _ _ _) R F rfl)
theorem WI{t:Expr}{b:List Stmt}{x:X H V}{y:Y H}(pos:Pos)(h:nf c A env nm t (xB c.M x))(k:uS c A env nm b y):lO c A env nm (.While t b [] pos) (OI c.M x y):=by
 intro Q E s g σ l fl l' bx R F hx q;refine wpAny_While (codeAny_whileLoop (fun n s'=>∃Z j o,gh c env nm g s.heap Z s'.heap j o/\(∃tk,s'={s with heap:=s'.heap,toks:=tk})/\u9 (xB c.M x) y n o j=some ((fl,l'),bx)) ?_ DM ⟨g,σ,l,gh.start R F,⟨s.toks,rfl⟩,hx⟩);rintro n s' ⟨Z,j,o,I,⟨tk,hs⟩,B⟩;cases n with
 |zero=>cases B
 |succ n=>
  simp only[u9]at B;cases pt:xB c.M x o j with
  |none=>rw[pt]at B;cases B
  |some p=>
   obtain⟨b',af⟩:=p;rw[pt]at B;refine h _ _ _ _ _ _ _ _ I.R I.F pt fun ag ah ai z aa ab=>?_
   cases b' with
   |false=>cases B;refine wpAny_execs_nil ?_;have:=q ag ah ai .next (I.T.trans z) aa ab rfl;rw[hs];exact this
   |true=>
    simp only at B;cases pb:y o af with
    |none=>rw[pb]at B;cases B
    |some p=>
     obtain⟨⟨f3,l3⟩,ae⟩:=p;rw[pb]at B;refine k _ _ _ _ _ _ _ _ _ aa ab pb fun J aj K f O S U W=>?_
     cases f3 with|nx=>have e:f=.next:=W;subst e;exact⟨n,uD n,J,ae,l3,⟨(I.T.trans z).trans O,S,U,I.ce⟩,⟨K,by rw[hs]⟩,B⟩|cn=>have e:f=.cont:=W;subst e;exact⟨n,uD n,J,ae,l3,⟨(I.T.trans z).trans O,S,U,I.ce⟩,⟨K,by rw[hs]⟩,B⟩|rt v=>cases B;obtain⟨u,rfl,hu⟩:=W;have:=q J aj K (.ret u) ((I.T.trans z).trans O) S U ⟨u,rfl,hu⟩;rw[hs];exact this
end
section
variable{H:Type}{c:Cx H}{A:Around}{E:cV}{s:Shared}{env:Env}{nm:Nat->Option Str}
def AY(c:Cx H)(A:Around)(env:Env)(nm:Nat->Option Str)(e:Expr)(x:X H It):Prop:=∀(Q:cV)(E:cV)(s:Shared)(g:G)(σ:St H)(l:L)(t:It)(bx:St H),
 Rel c g σ s.heap->Loc c env nm g s.heap l->x l σ=some (t,bx)->
 (∀g' bG h' tk I,dh env.locals g s.heap g' bG->gh c env nm g' bG g' h' bx l->(∀b o,bG.get? b=some o->h'.get? b=some o)->mN c g' env.locals bG h' t I 0->Q (.ref I) {s with heap:=h',toks:=tk})->
 wpAny c.md A (eval e env) (fun v j=>wpAny c.md A (pyIter v) Q E j) E s
theorem Vh(gd:Gd c){e:Expr}{x:X H V}(h:dv c A env nm e x):AY c A env nm e (OL c.M x):=by
 intro Q E s g σ l t bx R F z q;obtain⟨v,B,Y,z⟩:=cP z;unfold uE uM at z;cases U:iter c.M B.h v with
 |none=>rw[U]at z;cases z
 |some t'=>
  rw[U]at z;cases z;refine h _ _ _ _ _ _ _ _ R F Y fun J bG p W K y j O=>?_
  refine Sn (s:={s with heap:=bG,toks:=p}) gd y j U O fun I ob Z=>?_
  have S:∀b o,bG.get? b=some o->(bG.push ob).get? b=some o:=fun b o e=>iV _ e
  exact q J bG _ p I K ⟨.grow S,y.grow S,j.grow S,j.kW⟩ S Z
theorem Vi(gd:Gd c)(f:jj env nm){es:List Expr}{y:X H (List V)}(p pos:Pos)(hg:c.N.gl "range"=some (.type "range"))(hx:env.kindOf "range"=some .globalImplicit)(hn:es.all jd=true)(h:qy c A env nm es y):AY c A env nm (.Call (.Name "range" p) es [] pos) (OK y):=by
 intro Q E s g σ l t bx R F j q;obtain⟨vs,aa,U,j⟩:=cP j;cases pr:range vs with
 |none=>rw[pr]at j;cases j
 |some xs=>
  rw[pr]at j;cases j;refine Call_ (uw gd f hx (by decide) hg R (tK (nF hn) (uq hn (h pos _ _ _ _ _ _ _ _ R F U fun I bG J us K B x O ab=>?_))));refine Kv (s:={s with heap:=bG,toks:=J}) pr O fun ob tk a b st t u w W hsz Y hr=>?_
  refine wpAny_pyIter_range hr W ?_;have Z:∀z o,bG.get? z=some o->(bG.push ob).get? z=some o:=fun z o e=>iV _ e
  have S:∀z o,bG.get? z=some o->((bG.push ob).push {cls:=.type "range_iterator",data:=.fields #[rawInt a,rawInt (Builtin.Range.rangeSize a b st),rawInt st]}).get? z=some o:=fun z o e=>iV _ (Z z o e)
  have iA:bG.get? (bG.push ob).objs.size=none:=by cases z:bG.get? (bG.push ob).objs.size with|none=>rfl|some o=>have:=nc z;rw[Heap.size_push]at this;exact absurd this (Nat.not_lt.mpr (Nat.le_succ _))
  refine q I bG _ tk _ K ⟨.grow S,B.grow S,x.grow S,x.kW⟩ S ⟨sD B x iA,iA,.inr ⟨a,st,?_,Y,mF _⟩⟩;have U:a+((0:Nat):Int)*st=a:=by simp
  have e2:(xs.length:Int)-((0:Nat):Int)=Builtin.Range.rangeSize a b st:=by rw[hsz];simp
  rw[U,e2];exact kO _ rfl
theorem Vj(gd:Gd c)(f:jj env nm){e:Expr}{y:X H V}(p pos:Pos)(hg:c.N.gl "enumerate"=some (.type "enumerate"))(hx:env.kindOf "enumerate"=some .globalImplicit)(Z:jd e=true)(h:dv c A env nm e y):AY c A env nm (.Call (.Name "enumerate" p) [e] [] pos) (OJ c.M y):=by
 intro Q E s g σ l t bx R F j q;obtain⟨v,J,e1,j⟩:=cP j;cases v with
 |ref n=>
  simp only at j;cases pl:c.M.get J.h n with
  |list xs=>
   rw[pl]at j;cases j;have K:[e].all jd=true:=by simp[Z]
   refine Call_ (uw gd f hx (by decide) hg R (tK (nF K) (uq K ?_)));rw[zl Z];refine spliced_cons (h _ _ _ _ _ _ _ _ R F e1 fun O bG I aa S x B U=>spliced_nil ?_);obtain⟨a,rfl,ha⟩:=U;obtain⟨us,m,l1,l2,l3,_⟩:=x.list pl ha;refine call_enumerate_1 (s:={s with heap:=bG,toks:=I}) l1 fun h' he Y hz W=>?_
   refine wpAny_pyIter_enum (s:={s with heap:=h',toks:=I}) he ?_;have n1:bG.get? bG.objs.size=none:=m4;have n2:bG.get? (bG.objs.size+1)=none:=by cases z:bG.get? (bG.objs.size+1)with|none=>rfl|some o=>exact absurd (nc z) (by show¬(bG.objs.size+1<bG.objs.size);omega)
   exact q O bG h' I _ S ⟨.grow W,x.grow W,B.grow W,B.kW⟩ W ⟨sD x B n2,n2,a,_,.none,ha,he,Y,sD x B n1,n1,Aw _⟩
  |_=>rw[pl]at j;cases j
 |_=>cases j
def Dv:Expr->Bool
 |.Set ..=>false
 |_=>true
theorem WJ(hh:A.handled=none)(f:jj env nm){loc:Str->Bool}(al:∀y,loc y=true->env.kindOf y=some .local){t:Tg}{j iter:Expr}{body:List Stmt}{x:X H It}{y:Y H}(pos:Pos)(hc:pR nm loc t j=true)
  (sQ:∀v,foldedSetIterable iter env v=pure v) (aB:∀l s a s',x l s=some (.en a,s')->tM j=true) (h:AY c A env nm iter x) (k:uS c A env nm body y):lO c A env nm (.For j iter body [] pos) (OM c.M t x y):=by
 intro Q E s g σ l fl l' bx R F hx q;obtain⟨it,ae,e1,hx⟩:=cP hx;have ht:zY j=true∨tM j=true:=by
  cases t with
  |nm i=>obtain⟨z,p,rfl,_⟩:=uz hc;exact .inl rfl
  |tp ts=>cases j<;>first|exact .inr rfl|cases hc
 refine wpAny_For (h _ _ _ _ _ _ _ _ R F e1 fun S bG aD tk I af am kp hI=>?_) sQ;refine codeAny_forLoop_any (fun n s'=>∃K o O i,gh c env nm S bG K s'.heap o O/\mN c K env.locals bG s'.heap it I i/\(∃tk,s'={s with heap:=s'.heap,toks:=tk})/\eU c.M it (dE c.M t y) n i O o=some ((fl,l'),bx)) ?_ (count c.M it ae.h+1) ⟨S,ae,l,0,am,hI,⟨tk,rfl⟩,hx⟩;rintro n s' ⟨K,o,O,i,an,ao,⟨aC,hs⟩,B⟩;cases n with
 |zero=>cases B
 |succ n=>
  simp only[eU]at B;cases pn:hX c.M it i o.h with
  |none=>rw[pn]at B;cases B
  |some r=>
   rw[pn]at B;refine So hh pn an ao ht (fun a e=>by subst e;exact aB _ _ _ _ e1) (fun e h' L'=>?_) fun v e u aE ap=>?_
   ·subst e;cases B;refine wpAny_execs_nil ?_;have:=q K h' aC .next (af.trans L'.T) L'.R L'.F rfl;rw[hs];exact this
   ·subst e;simp only at B;refine ap _ _ fun aF aq ar U au av=>?_
    unfold dE at B;cases pb:fV c.M t v o.h O with
    |none=>simp only[pb]at B;cases B
    |some aw=>
     simp only[pb]at B;refine J1 (s:={s' with heap:=aq,toks:=ar}) hh f al hc U.R (U.F.but _) av pb fun ax ay ag az aA=>?_
     cases py:y aw o with
     |none=>rw[py]at B;cases B
     |some p=>
      obtain⟨⟨f5,l5⟩,s5⟩:=p;rw[py]at B;refine k _ _ {s' with heap:=ax,toks:=ay} _ _ _ _ _ _ az aA py fun J W Z f ah ai aj aa=>?_
      have ab:gh c env nm S bG J W s5 l5:=U.grow (ag.trans ah) ai aj;have ak:mN c J env.locals bG W it I (i+1):=au.da (ag.trans ah);cases f5 with|nx=>have e:f=.next:=aa;subst e;exact⟨n,uD n,J,s5,l5,i+1,ab,ak,⟨Z,by rw[hs]⟩,B⟩|cn=>have e:f=.cont:=aa;subst e;exact⟨n,uD n,J,s5,l5,i+1,ab,ak,⟨Z,by rw[hs]⟩,B⟩|rt w=>cases B;obtain⟨u',rfl,hu⟩:=aa;have:=q J W Z (.ret u') (af.trans ab.T) ai aj ⟨u',rfl,hu⟩;rw[hs];exact this
end
def MT:Expr->Bool
 |.Starred ..=>true
 |_=>false
def tB(ko:Str->Option NameKind)(line:Nat):Expr->Option Str
 |.Name id pos=>if(ko id==some .local&&pos.line==line)=true then some id else none
 |_=>none
def Mp(ko:Str->Option NameKind)(ts vs:List Expr):Option (Option (List Str)):=
 if(!(ts.length==2||ts.length==3)||vs.length !=ts.length||false)=true then some none
 else if(vs.any MT)=true then some none
 else if((ts.filterMap (tB ko ((ts.head?.map (·.pos.line)).getD 0))).length !=ts.length||(ts.filterMap (tB ko ((ts.head?.map (·.pos.line)).getD 0))).eraseDups.length !=(ts.filterMap (tB ko ((ts.head?.map (·.pos.line)).getD 0))).length)=true then some none
  else if vs.all (foldedForSure 8)=true then some none
  else if vs.all (constantsAlone 8)=true then none
  else some (some (ts.filterMap (tB ko ((ts.head?.map (·.pos.line)).getD 0))))
def yd(ko:Str->Option NameKind)(ts:List Expr)(e:Expr):Option (Option (List Str)):=match e with
 |.Tuple vs _ _=>Mp ko ts vs
 |_=>some none
theorem S9(ko:Str->Option NameKind)(line:Nat):(fun x=>match x with
  |.Name id pos=>if(ko id==some .local&&pos.line==line)=true then some id else none
  |_=>none)=tB ko line:=by
 funext x;cases x<;>rfl
theorem Y5{env:Env}{ts vs:List Expr}{k e:Nat}{p j:Pos}:swappedStores [.Tuple ts k p] (.Tuple vs e j) env=
  (if(!(ts.length==2||ts.length==3)||vs.length !=ts.length||env.blockKind !=.function)=true then pure none
  else if(vs.any MT)=true then pure none
  else if((ts.filterMap (tB env.kindOf ((ts.head?.map (·.pos.line)).getD 0))).length !=ts.length||(ts.filterMap (tB env.kindOf ((ts.head?.map (·.pos.line)).getD 0))).eraseDups.length !=(ts.filterMap (tB env.kindOf ((ts.head?.map (·.pos.line)).getD 0))).length)=true then pure none
  else if vs.all (foldedForSure 8)=true then pure none
  else if vs.all (constantsAlone 8)=true then unsupported "assign.tuple-of-constant-expressions:order-of-the-stores"
  else pure (some (ts.filterMap (tB env.kindOf ((ts.head?.map (·.pos.line)).getD 0))))):=by
 rw[←S9];rfl
theorem Kg{env:Env}(hk:env.scope.kind=.function){ts:List Expr}{k:Nat}{p:Pos}{j:Expr}{r:Option (List Str)}(h:yd env.kindOf ts j=some r):swappedStores [.Tuple ts k p] j env=pure r:=by
 unfold yd at h;have x:(env.blockKind !=ScopeKind.function)=false:=by unfold Env.blockKind;rw[hk];rfl
 cases j with
 |Tuple vs z B=>
  rw[Y5,x];simp only at h;unfold Mp at h;split at h
  ·rename_i e;rw[df e];cases h;rfl
  ·rename_i e;rw[bL e];split at h
   ·rename_i o;rw[df o];cases h;rfl
   ·rename_i o;rw[bL o];split at h
    ·rename_i q;rw[df q];cases h;rfl
    ·rename_i q;rw[bL q];split at h
     ·rename_i t;rw[df t];cases h;rfl
     ·rename_i t;rw[bL t];split at h
      ·cases h
      ·rename_i y;rw[bL y];cases h;rfl
 |_=>cases h;rfl
section
variable{H:Type}{c:Cx H}{A:Around}{E:cV}{s:Shared}{env:Env}{nm:Nat->Option Str}
inductive Az(c:Cx H)(A:Around)(env:Env)(nm:Nat->Option Str)(loc:Str->Bool):Tx H->Expr->Prop
 |nm {i:Nat} {e:Expr}:vb nm loc i e=true->Az c A env nm loc (.nm i) e
 |IS {o:Expr} {x:X H V} {f:Nat} {name:Str} {pos:Pos}:name=c.N.fd f->dv c A env nm o x->Az c A env nm loc (.at x f) (.Attribute o name pos)
inductive uI(c:Cx H)(A:Around)(env:Env)(nm:Nat->Option Str)(loc:Str->Bool):List (Tx H)->List Expr->Prop
 |nil:uI c A env nm loc [] []
 |cons {t:Tx H} {ts:List (Tx H)} {e:Expr} {es:List Expr}:Az c A env nm loc t e->uI c A env nm loc ts es->uI c A env nm loc (t::ts) (e::es)
theorem Az.star{loc:Str->Bool}{t:Tx H}{e:Expr}(h:Az c A env nm loc t e):jd e=true:=by cases h with|nm h=>obtain⟨y,p,rfl,_⟩:=uz h;rfl|IS=>rfl
theorem uI.len{loc:Str->Bool}{ts:List (Tx H)}{es:List Expr}(h:uI c A env nm loc ts es):es.length=ts.length/\(assignEach es env).length=es.length/\(assignEach es env).findIdx? (·.1)=none:=by
 induction h with|nil=>exact⟨rfl,rfl,rfl⟩|cons a b e=>obtain⟨j,o,p⟩:=e;rw[CA a.star];exact⟨by simp[j],by simp[o],by rw[List.findIdx?_cons];simp[p]⟩
theorem Ga{M:Mc H}:∀{ts:List (Tx H)}{vs:List V}{l j:L}{σ bx:St H},iP M ts vs l σ=some (j,bx)->vs.length=ts.length
 |[],[],_,_,_,_,_=>rfl
 |[],_::_,_,_,_,_,e=>by cases e
 |_::_,[],_,_,_,_,e=>by cases e
 |.nm i::ts,v::vs,l,j,σ,bx,e=>by simp only[iP]at e;cases p:bW l i v with|none=>rw[p]at e;cases e|some q=>rw[p]at e;simp[Ga e]
 |.at o f::ts,v::vs,l,j,σ,bx,e=>by simp only[iP]at e;obtain⟨x,t,_,e⟩:=cP e;obtain⟨u,y,_,e⟩:=cP e;simp[Ga e]
theorem Tc(gd:Gd c)(f:jj env nm){loc:Str->Bool}(K:∀y,loc y=true->env.kindOf y=some .local){ts:List (Tx H)}{es:List Expr}(h:uI c A env nm loc ts es):∀{g:G}{σ bx:St H}{s:Shared}{l W:L}{vs:List V}{us:List Value}(_:Rel c g σ s.heap)(_:Loc c env nm g s.heap l)(_:cE c.N g vs us)
  (_:iP c.M ts vs l σ=some (W,bx)) {Q:Unit->Shared->Prop} (_:∀g' h' tk,dh env.locals g s.heap g' h'->Rel c g' bx h'->Loc c env nm g' h' W->Q () {s with heap:=h',toks:=tk}),
  wpAny c.md A (assignInOrder ((assignEach es env).map (·.2)) us) Q E s:=by
 induction h with
 |nil=>intro g σ bx s l W vs us R F Y j Q q;cases vs with|nil=>cases j;have:us=[]:=Y;subst this;exact bU (q g s.heap s.toks (.refl _ _ _) R F)|cons=>cases j
 |@cons t ts e es a b ih=>
  intro g σ bx s l W vs us R F Y j Q q;cases vs with
  |nil=>cases t<;>cases j
  |cons v vs=>
   obtain⟨u,O,rfl,S,U⟩:=Y;rw[CA a.star];show wpAny _ _ (do holding O (assign e env u);assignInOrder ((assignEach es env).map (·.2)) O) Q E s
   cases a with
   |@nm i _ hi=>obtain⟨y,pos,rfl,h1,h2⟩:=uz hi;simp only[iP]at j;cases Z:bW l i v with|none=>rw[Z]at j;cases j|some aa=>rw[Z]at j;refine bC (iy (CF (is:=[]) f h1 (K y h2) R (F.but _) S Z (fun h' tk T R' F'=>?_) pos));exact ih (s:={s with heap:=h',toks:=tk}) R' (F'.weak fun i y e=>xM e (by simp)) U j fun p z B T' I J=>q p z B (T.trans T') I J
   |@IS o x fi name pos hn ho=>simp only[iP]at j;obtain⟨w,ab,e1,j⟩:=cP j;obtain⟨uu,ae,e2,j⟩:=cP j;refine bC (iy (Kf gd hn ho R F S e1 e2 fun g' h' tk T R' F'=>?_));exact ih (s:={s with heap:=h',toks:=tk}) R' F' (T.sP U) j fun p z B T' I J=>q p z B (T.trans T') I J
theorem WK(gd:Gd c)(hh:A.handled=none)(f:jj env nm){loc:Str->Bool}(z:∀y,loc y=true->env.kindOf y=some .local){ts:List (Tx H)}{es:List Expr}{e:Expr}{x:X H V}(k:Nat)(p pos:Pos)(hs:uI c A env nm loc ts es)(S:yd env.kindOf es e=some none)(hv:oE e=true)
  (h:dv c A env nm e x):lO c A env nm (.Assign [.Tuple es k p] e pos) (EL c.M ts x):=by
 intro Q E s g σ l fl l' bx R F j q;obtain⟨v,B,e1,j⟩:=cP j;cases U:eD c.M B.h v with
 |none=>rw[U]at j;cases j
 |some vs=>
  rw[U]at j;obtain⟨aa,ab,e2,j⟩:=cP j;cases j;obtain⟨a1,a2,a3⟩:=hs.len (env:=env);refine wpAny_Assign_stores (h _ _ _ _ _ _ _ _ R F e1 fun ae bG o I J t K O=>?_) (CL hv _ _) (Kg f.kind S);show wpAny _ _ (assign (.Tuple es k p) env I) _ _ _
  rw[arm_assign_Tuple];refine bC (rN ?_);unfold unpack;rw[a2,a3,a1,←Ga e2];refine bC (iy (FY (s:={s with heap:=bG,toks:=o}) hh t U O fun h' us W hu=>?_));exact Tc gd f z hs (s:={s with heap:=h',toks:=o}) (t.grow W) (K.grow W) hu e2 fun Y Z tk T R' F'=>q Y Z tk _ (J.trans ((dh.grow W).trans T)) R' F' rfl
def oL:List Nat->List (Tx H)
 |[]=>[]
 |i::r=>.nm i::oL r
theorem Sp(f:jj env nm){i:Nat}{y:Str}(hi:nm i=some y)(hl:env.kindOf y=some .local){g:G}{σ:St H}{l j:L}(R:Rel c g σ s.heap)(F:Loc c env nm g s.heap l){v:V}{u:Value}(o:cj c.N g v u)(hs:bW l i v=some j)
  {Q:Unit->Shared->Prop} (q:∀h' tk,dh env.locals g s.heap g h'->Rel c g σ h'->Loc c env nm g h' j->Q () {s with heap:=h',toks:=tk}):wpAny c.md A (bindName env y u) Q E s:=by
 exact wpAny_bindName (JZ (is:=[]) f hi hl R (F.but _) o hs fun h' tk T p t=>q h' tk T p (t.weak fun i y e=>xM e (by simp)))
theorem set_comm{l:L}{i j:Nat}{v w:V}(h:i≠j):(l.set i v).set j w=(l.set j w).set i v:=List.set_comm v w h
theorem zP{l:L}{i:Nat}{v:V}(h:i<l.length):bW l i v=some (l.set i v):=by
 induction l generalizing i with
 |nil=>simp at h
 |cons a r e=>cases i with|zero=>rfl|succ i=>simp only[bW];rw[e (by simpa using h)];rfl
theorem Kh(f:jj env nm):∀{is:List Nat}{ys:List Str}(_:∀(k i:Nat)(y:Str),is[k]?=some i->ys[k]?=some y->nm i=some y/\env.kindOf y=some .local)(_:is.length=ys.length){g:G}{σ:St H}{s:Shared}{l p:L}{vs:List V}{us:List Value}(_:Rel c g σ s.heap)(_:Loc c env nm g s.heap l)(_:cE c.N g vs us)
  (_:iP c.M (oL is) vs l σ=some (p,σ)) {Q:Unit->Shared->Prop} (_:∀h' tk,dh env.locals g s.heap g h'->Rel c g σ h'->Loc c env nm g h' p->Q () {s with heap:=h',toks:=tk}),
  wpAny c.md A (assignInOrder (ys.map fun n=>bindName env n) us) Q E s
 |[],[],_,_,g,σ,s,l,p,vs,us,R,F,t,e,Q,q=>by cases vs with|nil=>cases e;have:us=[]:=t;subst this;exact bU (q s.heap s.toks (.refl _ _ _) R F)|cons=>cases e
 |i::is,y::ys,hk,j,g,σ,s,l,p,vs,us,R,F,t,e,Q,q=>by
  cases vs with
  |nil=>cases e
  |cons v vs=>
   obtain⟨u,o,rfl,x,z⟩:=t;simp only[oL,iP]at e;cases B:bW l i v with
   |none=>rw[B]at e;cases e
   |some S=>
    rw[B]at e;obtain⟨U,W⟩:=hk 0 i y rfl rfl;show wpAny _ _ (do holding o (bindName env y u);assignInOrder (ys.map fun n=>bindName env n) o) Q E s
    refine bC (iy (Sp f U W R F x B fun h' tk T Y Z=>?_));exact Kh (s:={s with heap:=h',toks:=tk}) f (fun k i y e1 e2=>hk (k+1) i y e1 e2) (by simpa using j) Y Z z e fun I J T' K O=>q I J (T.trans T') K O
 |[],_::_,_,j,_,_,_,_,_,_,_,_,_,_,_,_,_=>by simp at j
 |_::_,[],_,j,_,_,_,_,_,_,_,_,_,_,_,_,_=>by simp at j
theorem Sq{M:Mc H}{is:List Nat}(hd:is.Nodup)(B:is.length=2∨is.length=3){vs:List V}{l K:L}{σ bx:St H}(h:iP M (oL is) vs l σ=some (K,bx)):bx=σ/\vs.length=is.length/\iP M (oL is.reverse) vs.reverse l σ=some (K,σ):=by
 match is,B with
 |[i,j],_=>
  match vs,h with
  |[v,w],h=>
   simp only[oL,iP]at h;cases e:bW l i v with
   |none=>rw[e]at h;cases h
   |some p=>
    rw[e]at h;obtain⟨a1,rfl⟩:=th e;cases o:bW (l.set i v) j w with
    |none=>simp only[o]at h;cases h
    |some t=>
     simp only[o]at h;obtain⟨y,rfl⟩:=th o;cases h;simp only[List.length_set]at y;have I:i≠j:=by simp at hd;exact hd
     refine⟨rfl,rfl,?_⟩;show iP M [.nm j,.nm i] [w,v] l σ=_
     simp only[iP];rw[zP y];simp only;rw[zP (by simpa using a1)];simp only;rw[set_comm I]
  |[],h=>cases h
  |[v],h=>simp only[oL,iP]at h;cases e:bW l i v with|none=>rw[e]at h;cases h|some p=>rw[e]at h;cases h
  |v::w::z::r,h=>
   simp only[oL,iP]at h;cases e:bW l i v with
   |none=>rw[e]at h;cases h
   |some p=>rw[e]at h;cases o:bW p j w with|none=>simp only[o]at h;cases h|some t=>simp only[o]at h;cases h
 |[i,j,k],_=>
  match vs,h with
  |[v,w,z],h=>
   simp only[oL,iP]at h;cases e:bW l i v with
   |none=>rw[e]at h;cases h
   |some p=>
    rw[e]at h;obtain⟨a1,rfl⟩:=th e;cases o:bW (l.set i v) j w with
    |none=>simp only[o]at h;cases h
    |some t=>
     simp only[o]at h;obtain⟨y,rfl⟩:=th o;cases q:bW ((l.set i v).set j w) k z with
     |none=>simp only[q]at h;cases h
     |some S=>
      simp only[q]at h;obtain⟨a3,rfl⟩:=th q;cases h;simp only[List.length_set]at y a3;obtain⟨J,U⟩:=nN.mp hd;obtain⟨O,_⟩:=nN.mp U;simp at J O;refine⟨rfl,rfl,?_⟩;show iP M [.nm k,.nm j,.nm i] [z,w,v] l σ=_
      simp only[iP];rw[zP a3];simp only;rw[zP (by simpa using y)];simp only;rw[zP (by simpa using a1)];simp only;rw[set_comm (l:=l) J.1,set_comm (l:=l.set j w) J.2,set_comm (l:=l) O]
  |[],h=>cases h
  |[v],h=>simp only[oL,iP]at h;cases e:bW l i v with|none=>rw[e]at h;cases h|some p=>rw[e]at h;cases h
  |[v,w],h=>
   simp only[oL,iP]at h;cases e:bW l i v with
   |none=>rw[e]at h;cases h
   |some p=>rw[e]at h;cases o:bW p j w with|none=>simp only[o]at h;cases h|some t=>simp only[o]at h;cases h
  |v::w::z::x::r,h=>
   simp only[oL,iP]at h;cases e:bW l i v with
   |none=>rw[e]at h;cases h
   |some p=>
    rw[e]at h;cases o:bW p j w with
    |none=>simp only[o]at h;cases h
    |some t=>simp only[o]at h;cases q:bW t k z with|none=>simp only[q]at h;cases h|some S=>simp only[q]at h;cases h
 |[],h=>simp at h
 |[_],h=>simp at h
 |_::_::_::_::_,h=>simp at h
theorem WL(hh:A.handled=none)(f:jj env nm){is:List Nat}{ys:List Str}{es:List Expr}{e:Expr}{x:X H V}(k:Nat)(p pos:Pos)(O:yd env.kindOf es e=some (some ys))(hk:∀(k i:Nat)(y:Str),is[k]?=some i->ys[k]?=some y->nm i=some y/\env.kindOf y=some .local)(hl:is.length=ys.length)(hd:is.Nodup)(S:is.length=2∨is.length=3)
  (hv:oE e=true) (h:dv c A env nm e x):lO c A env nm (.Assign [.Tuple es k p] e pos) (EL c.M (oL is) x):=by
 intro Q E s g σ l fl l' bx R F j q;obtain⟨v,z,e1,j⟩:=cP j;cases U:eD c.M z.h v with
 |none=>rw[U]at j;cases j
 |some vs=>
  rw[U]at j;obtain⟨aa,ab,e2,j⟩:=cP j;cases j;obtain⟨rfl,hn,e3⟩:=Sq hd S e2;refine Assign_Tuple_swapped (h _ _ _ _ _ _ _ _ R F e1 fun B bG o ae I t J K=>?_) (CL hv _ _) (Kg f.kind O);rw[←hl,←hn];refine FY (s:={s with heap:=bG,toks:=o}) hh t U K fun h' us W hu=>?_
  refine Kh (s:={s with heap:=h',toks:=o}) f (is:=is.reverse) (ys:=ys.reverse) (fun k i y k1 k2=>?_) (by simp[hl]) (t.grow W) (J.grow W) hu.rev e3 fun Y tk T R' F'=>q B Y tk _ (I.trans ((dh.grow W).trans T)) R' F' rfl
  have Z:k<is.length:=by have:=(lK.mp k1).1;simpa using this
  rw[List.getElem?_reverse Z]at k1;rw[List.getElem?_reverse (by omega)]at k2;exact hk _ i y k1 (by rw[hl];exact k2)
end
def ku(cells:List (Str×Addr)):List (Str×NameKind)->List (Str×Addr)->Option (List (Str×Addr))
 |[],cs=>some cs
 |(n,k)::r,cs=>match k with
  |.free=>match cells.lookup n with|some a=>ku cells r ((n,a)::cs)|none=>none
  |_=>ku cells r cs
theorem F1{env:Env}:∀{ns:List (Str×NameKind)}{cs cl:List (Str×Addr)},ku env.cells ns cs=some cl->(forIn ns cs fun x r=>(do
   let __s:List (Str×Addr):=r
   if(x.2==NameKind.free)=true then do
    let a ←cellOf env x.1
    pure (ForInStep.yield ((x.1,a)::__s))
   else pure (ForInStep.yield __s):Sem (ForInStep (List (Str×Addr)))))=pure cl
 |[],cs,cl,h=>by cases h;rfl
 |(n,k)::r,cs,cl,h=>by
  rw[List.forIn_cons];cases k with
  |free=>
   simp only[ku]at h;cases p:env.cells.lookup n with
   |none=>rw[p]at h;cases h
   |some a=>
    rw[p]at h;have e:cellOf env n=pure a:=by unfold cellOf;rw[p]
    simp only[vR,if_true,e,pure_bind];exact F1 h
  |_=>simp only[ku]at h;exact F1 h
theorem Ky{env:Env}{scope:Scope}{cl:List (Str×Addr)}(h:ku env.cells scope.names []=some cl):closureFor scope env=pure cl:=by
 unfold closureFor;have e:=F1 h;show(forIn scope.names [] _>>=fun cs=>pure cs)=pure cl
 refine Eq.trans (lu (fun m:Sem (List (Str×Addr))=>m>>=fun cs=>pure cs) (Eq.trans ?_ e)) (pure_bind _ _);rfl
section
variable{prog:Program}{w:World}{A:Around}{E:cV}{R:Result->Shared->Prop}{s:Shared}
theorem RP{K j iter:Expr}{O:List Expr}{scope:Scope}{pos:Pos}{it acc:Value}{env:Env}(I:Nat->Shared->Prop)
  (U:∀n s,I n s->wpAny (model prog w) A (pyNext it) (fun r o=>match r with
   |none=>R (.ok .next) o
   |some v=>wpAny (model prog w) A (letOwnedTupleGo j it v) (fun _ p=>wpAny (model prog w) A (assign j env v) (fun _ y=>
     wpAny (model prog w) A (forIn O true fun c r=>if r=true then do let ok ←PySem.isTrue c env (eval c env);pure (ForInStep.yield ok)else pure (ForInStep.yield r)) (fun ok q=>
      if ok=true then wpAny (model prog w) A (eval K env) (fun x z=>
       wpAny (model prog w) A (call (.builtin "list.append") [acc,x]) (fun _ B=>∃m,m<n/\I m B) (notedBy (model prog w) A env fun e t=>R (.error e) t) z) (notedBy (model prog w) A env fun e t=>R (.error e) t) q
      else∃m,m<n/\I m q) (notedBy (model prog w) A env fun e t=>R (.error e) t) y) (notedBy (model prog w) A env fun e t=>R (.error e) t) p) (notedBy (model prog w) A env fun e t=>R (.error e) t) o) (notedBy (model prog w) A env fun e t=>R (.error e) t) s)
  (n:Nat) (h:I n s):codeAny (model prog w) A (.compLoop (.ListComp K [⟨j,iter,O,0⟩] scope pos) 0 it acc env) R s:=by
 refine codeAny_loop rfl I (fun n s hI=>?_) n h;show wpAny _ A ((compTurn (.ListComp K [⟨j,iter,O,0⟩] scope pos) 0 it acc env).onRaise (fun x=>do noteFrame x env;theTreesLotGoes x)) _ _ s
 refine wpAny_noted ?_;rw[compTurn_list];refine bC (rN (bC (qp (U n s hI) (fun r o bG=>?_) fun _ _ h'=>h')));cases r with
 |none=>exact bU bG
 |some v=>refine bC (qp bG (fun _ p S=>?_) fun _ _ h'=>h');refine bC (qp S (fun _ y W=>bC (qp W (fun ok q J=>?_) fun _ _ h'=>h')) fun _ _ h'=>h');cases ok with|false=>exact bU ⟨rfl,J⟩|true=>exact bC (bC (qp J (fun x z Y=>bC (qp Y (fun _ B Z=>bU (bU ⟨rfl,Z⟩)) fun _ _ h'=>h')) fun _ _ h'=>h'))
end
section
variable{H:Type}{c:Cx H}{A:Around}{E:cV}{s:Shared}{env:Env}{nm gT:Nat->Option Str}
theorem gh.adopt(gd:Gd c){iz g:G}{h₀ h:Heap}{σ bx:St H}{l:L}(x:gh c env nm iz h₀ g h σ l){xs:List V}{v:V}(hx:new c.M none (.list xs) σ=some (v,bx)){D:Addr}(tm:fZ c g env.locals D)(nw:h₀.get? D=none){us:Array Value}{m:Nat}(ho:h.get? D=some {cls:=.type "list",data:=.seq us m})
  (r:cE c.N g xs us.toList) (hn:xs.length<=bu):∃g',gh c env nm iz h₀ g' h bx l/\cj c.N g' v (.ref D)/\∀a,fZ c g env.locals a->a≠D->fZ c g' env.locals a:=by
 obtain⟨n,rfl,hf,dG,hl,rfl⟩:=zJ hx;have z:=x.R.obj n;rw[hf]at z;have gn:∀b,g.ad n b=none:=fun b=>by cases b;exact z.1;exact z.2
 have eo:∀m b I,g.ad m b=some I->(g.put n D none).ad m b=some I:=fun m b I e=>by
  by_cases B:m=n
  ·subst B;rw[gn]at e;cases e
  ·rw[G.qW B];exact e
 have inv:∀m b I,(g.put n D none).ad m b=some I->(m=n/\b=false/\I=D)∨(m≠n/\g.ad m b=some I):=fun m b I e=>by
  by_cases B:m=n
  ·subst B;cases b with|false=>rw[G.ka]at e;exact .inl ⟨rfl,rfl,(nM e).symm⟩|true=>rw[G.kM]at e;cases e
  ·rw[G.qW B]at e;exact .inr ⟨B,e⟩
 have O:∃o,h.get? D=some o:=⟨_,ho⟩
 have R':Rel c (g.put n D none) ⟨c.M.set σ.h n (.list xs),σ.nx+1⟩ h:=by
  refine⟨fun m b m' b' a e S W=>?_,fun m=>?_,x.R.tup,x.R.old,fun m b a e Y=>?_,fun m b a e=>?_,fun m b e=>?_,fun m b a e=>?_,fun m b a e=>eo m b a (x.R.oY m b a e),x.R.oZ⟩
  ·rcases inv _ _ _ e with⟨rfl,rfl,rfl⟩|⟨J,j⟩<;>rcases inv _ _ _ S with⟨Z,U,K⟩|⟨Z,U⟩
   ·exact⟨Z.symm,U.symm⟩
   ·exact absurd U (tm.own _ _)
   ·subst K;exact absurd j (tm.own _ _)
   ·exact x.R.inj _ _ _ _ _ j U W
  ·by_cases B:m=n
   ·subst B;rw[Mc.C1 _ dG];exact⟨D,us,_,G.ka,G.kM,ho,cE.mono (g:=g) (g':=g.put m D none) eo (fun _ _ e=>e) _ _ r,hn⟩
   ·rw[Mc.Dt _ dG B];exact gS.mono (x.R.obj m) eo (fun b q=>by rw[G.qW B];exact q) fun a vs q=>q
  ·rcases inv _ _ _ e with⟨rfl,rfl,rfl⟩|⟨J,j⟩
   ·exact tm.old
   ·exact x.R.fresh _ _ _ j Y
  ·rcases inv _ _ _ e with⟨rfl,rfl,rfl⟩|⟨J,j⟩
   ·exact dG
   ·exact x.R.ok _ _ _ j
  ·rcases inv _ _ _ e with⟨_,_,K⟩|⟨J,j⟩
   ·obtain⟨o,q⟩:=gd.sys;rw[K,tm.old]at q;cases q
   ·exact x.R.sys _ _ j
  ·rcases inv _ _ _ e with⟨rfl,rfl,rfl⟩|⟨J,j⟩
   ·exact tm.tp
   ·exact x.R.sep _ _ _ j
 have T':dh env.locals iz h₀ (g.put n D none) h:=⟨fun m b a e=>eo m b a (x.T.ad m b a e),x.T.tp,fun m b a e=>by
  rcases inv _ _ _ e with⟨rfl,rfl,rfl⟩|⟨J,j⟩
  ·exact .inr nw
  ·exact x.T.o8 _ _ _ j,x.T.pQ,x.T.live,x.T.keep⟩
 have tk:∀a,fZ c g env.locals a->a≠D->fZ c (g.put n D none) env.locals a:=fun a t ha=>⟨fun m b e=>by
  rcases inv _ _ _ e with⟨_,_,K⟩|⟨J,j⟩
  ·exact ha K
  ·exact t.own _ _ j,t.tp,t.old,t.ne⟩
 refine⟨_,⟨T',R',?_,x.ce⟩,⟨D,rfl,G.ka⟩,tk⟩;obtain⟨mm,B,rr⟩:=x.F.ns;refine⟨⟨mm,B,fun i w y e1 e2 e3=>?_⟩,fun m b e=>?_,x.F.tp,x.F.old,x.F.kW⟩
 ·rcases rr i w y e1 e2 e3 with⟨p,u,q,t⟩|⟨p,q,u,t1,t2,t3,t4⟩
  ·exact .inl ⟨p,u,q,cj.mono (g:=g) (g':=g.put n D none) eo (fun _ _ e=>e) _ _ t⟩
  ·refine .inr ⟨p,q,u,t1,t2,tk q t3 fun z=>?_,cj.mono (g:=g) (g':=g.put n D none) eo (fun _ _ e=>e) _ _ t4⟩;obtain⟨o,S⟩:=x.ce y q t1;rw[z,nw]at S;cases S
 ·rcases inv _ _ _ e with⟨_,_,K⟩|⟨J,j⟩
  ·exact tm.ne K.symm
  ·exact x.F.own _ _ j
structure aat(c:Cx H)(env:Env)(nm:Nat->Option Str)(aau:G)(bG:Heap)(σ:St H)(l:L)(xs:List V)(D C:Addr)(g:G)(h:Heap):Prop where
 inv:gh c env nm aau bG g h σ l
 tD:fZ c g env.locals D
 nD:bG.get? D=none
 oD:∃us k,h.get? D=some {cls:=.type "list",data:=.seq us k}/\cE c.N g xs us.toList
 tC:fZ c g env.locals C
 nC:bG.get? C=none
 ne:D≠C
 oC:∃m,h.Ns C m
def ym(c:Cx H)(A:Around)(env:Env)(nm:Nat->Option Str):List Expr->Option (X H V)->Prop
 |[],q=>q=none
 |[e],q=>∃x,q=some x/\nf c A env nm e (xB c.M x)
 |_,_=>False
theorem R3{y:List Expr}{q:Option (X H V)}{b:X H V}(z:ym c A env nm y q){g:G}{σ bx:St H}{l:L}{r:Option V}(R:Rel c g σ s.heap)(F:Loc c env nm g s.heap l)(o:xQ c.M q b l σ=some (r,bx)){Q:Bool->Shared->Prop}
  (B:r=none->∀g' h' tk,dh env.locals g s.heap g' h'->Rel c g' bx h'->Loc c env nm g' h' l->Q false {s with heap:=h',toks:=tk})
  (p:∀j v,r=some v->b l j=some (v,bx)->∀g' h' tk,dh env.locals g s.heap g' h'->Rel c g' j h'->Loc c env nm g' h' l->Q true {s with heap:=h',toks:=tk}):
  wpAny c.md A (forIn y true fun c r=>if r=true then do let ok ←PySem.isTrue c env (eval c env);pure (ForInStep.yield ok)else pure (ForInStep.yield r)) Q E s:=by
 match y,z with
 |[],z=>have:q=none:=z;subst this;obtain⟨v,t,I,o⟩:=cP o;cases o;exact wpAny_tests_nil (p σ v rfl I g s.heap s.toks (.refl _ _ _) R F)
 |[e],z=>obtain⟨x,rfl,S⟩:=z;obtain⟨w,t,I,o⟩:=cP o;refine wpAny_tests_one (S _ _ _ _ _ _ _ _ R F I fun g' h' tk T J K=>?_);cases w with|false=>cases o;exact B rfl g' h' tk T J K|true=>obtain⟨v,O,U,o⟩:=cP o;cases o;exact p t v rfl U g' h' tk T J K
theorem Loc.WM{g:G}{h:Heap}{l e:L}(F:Loc c env nm g h e)(k:∀i y,gT i=some y->nm i=some y/\bA e i=bA l i):Loc c env gT g h l where
 ns:=let⟨m,j,r⟩:=F.ns;⟨m,j,fun i x y a b d=>r i x y ((k i y d).2.trans a) b (k i y d).1⟩
 own:=F.own
 tp:=F.tp
 old:=F.old
 kW:=F.kW
mutual
theorem Ki{M:Mc H}:∀(t:Tg){v:V}{h:H}{l o:L}(_:fV M t v h l=some o)(j:Nat)(_:j∉kU t),bA o j=bA l j
 |.nm i,v,h,l,o,e,j,p=>by simp only[fV]at e;obtain⟨_,rfl⟩:=th e;exact Kw (by simpa[kU]using p)
 |.tp ts,v,h,l,o,e,j,p=>by simp only[fV]at e;cases q:eD M h v with|none=>rw[q]at e;cases e|some vs=>rw[q]at e;exact Kj ts e j (by simpa[kU]using p)
termination_by structural t=>t
theorem Kj{M:Mc H}:∀(ts:List Tg){vs:List V}{h:H}{l p:L}(_:rI M ts vs h l=some p)(j:Nat)(_:j∉uH ts),bA p j=bA l j
 |[],vs,h,l,p,e,j,_=>by cases vs with|nil=>simp only[rI]at e;cases e;rfl|cons=>cases e
 |t::ts,vs,h,l,p,o,j,q=>by
  cases vs with
  |nil=>cases o
  |cons v vs=>simp only[rI]at o;cases x:fV M t v h l with|none=>rw[x]at o;cases o|some y=>rw[x]at o;simp only[uH,pJ,not_or]at q;rw[Kj ts o j q.2];exact Ki t x j q.1
termination_by structural ts=>ts
end
theorem Ss{M:Mc H}{p:Nat->Option Str}{loc:Str->Bool}{t:Tg}{e:Expr}(_hc:pR p loc t e=true){v:V}{h:H}{l o:L}(q:fV M t v h l=some o)(j:Nat)(x:j∉kU t):bA o j=bA l j:=Ki t q j x
theorem Td(hh:A.handled=none){o:Env}(fc:jj o gT){loc:Str->Bool}(aw:∀y,loc y=true->o.kindOf y=some .local){t:Tg}{x iter ax:Expr}{ay:List Expr}{scope:Scope}{pos:Pos}(hc:pR gT loc t x=true)
  {b:X H V} {q:Option (X H V)} (hb:dv c A o gT ax b) (hq:ym c A o gT ay q) {a:Ad} {K:G} {bG:Heap} {l:L} {O:St H} {xs:List V} {D I:Addr} {T:Result->Shared->Prop} (ar:D≠I) (nD:bG.get? D=none)
  (hT:∀g h' tk us k,gh c o (but gT (kU t)) K bG g h' O l->fZ c g o.locals D->h'.get? D=some {cls:=.type "list",data:=.seq us k}->cE c.N g xs us.toList->T (.ok .next) {s with heap:=h',toks:=tk})
  {n:Nat} {σ:St H} {g:G} (az:gh c o (but gT (kU t)) K bG g s.heap σ l) (aA:mN c g o.locals bG s.heap (.li a) I 0) (tD:fZ c g o.locals D) (oD:s.heap.get? D=some {cls:=.type "list",data:=.seq #[]})
  (hx:jU c.M (.li a) (dE c.M t (xQ c.M q b)) n 0 [] l σ=some (xs,O)):
  codeAny c.md A (.compLoop (.ListComp ax [⟨x,iter,ay,0⟩] scope pos) 0 (.ref I) (.ref D) o) T s:=by
 have ht:zY x=true∨tM x=true:=by
  cases t with
  |nm i=>obtain⟨z,p,rfl,_⟩:=uz hc;exact .inl rfl
  |tp ts=>cases x<;>first|exact .inr rfl|cases hc
 refine RP (fun n W=>∃g σ i acc us k,gh c o (but gT (kU t)) K bG g W.heap σ l/\mN c g o.locals bG W.heap (.li a) I i/\fZ c g o.locals D/\W.heap.get? D=some {cls:=.type "list",data:=.seq us k}/\cE c.N g acc us.toList/\
  (∃tk,W={s with heap:=W.heap,toks:=tk})/\jU c.M (.li a) (dE c.M t (xQ c.M q b)) n i acc l σ=some (xs,O)) ?_ n ⟨g,σ,0,[],#[],0,az,aA,tD,oD,rfl,⟨s.toks,rfl⟩,hx⟩
 rintro n W ⟨g,σ,i,acc,us,k,Y,aB,tD,oD,rD,⟨tk,hs⟩,B⟩;cases n with
 |zero=>cases B
 |succ n=>
  simp only[jU]at B;cases pn:hX c.M (.li a) i σ.h with
  |none=>rw[pn]at B;cases B
  |some r=>
   rw[pn]at B;obtain⟨tm,nw,la,a1,it⟩:=aB;simp only[hX]at pn;cases p:c.M.get σ.h a with
   |list ys=>
    rw[p]at pn;obtain⟨vs,m,l1,l2,l3,_⟩:=Y.R.list p a1;cases qn:bA ys i with
    |none=>
     simp only[qn]at pn;cases pn;cases B;have e:=l2.none qn;refine wpAny_pyNext_list_end hh it ⟨_,l1,rfl,_,rfl⟩ (by simpa using e) fun h' he=>?_
     have:=hT g h' tk us k (Y.put tm nw he) tD (he D _ ar oD) rD;rw[hs];exact this
    |some v=>
     simp only[qn]at pn;cases pn;obtain⟨u,u1,u2⟩:=l2.at qn;refine wpAny_pyNext_list_item it ⟨_,l1,rfl,_,rfl⟩ (by simpa using u1) fun h' aC aD=>?_
     obtain⟨oi,aT,aU,a0⟩:=id aC;have S:gh c o (but gT (kU t)) K bG g h' σ l:=Y.put tm nw aD.extBut;have ak:mN c g o.locals bG h' (.li a) I (i+1):=⟨tm,nw,la,a1,aC⟩
     have J:h'.get? D=some {cls:=.type "list",data:=.seq us k}:=(aD.2 D ar).trans oD;refine zF (s:={W with heap:=h'}) aT aU (by decide) ht ?_;simp only at B;unfold dE at B;cases pb:fV c.M t v σ.h l with
     |none=>simp only[pb]at B;cases B
     |some al=>
      simp only[pb]at B;refine J1 (s:={W with heap:=h'}) hh fc aw hc S.R S.F u2 pb fun aE aF am aG aH=>?_
      cases pq:xQ c.M q b al σ with
      |none=>rw[pq]at B;cases B
      |some r=>
       obtain⟨r,Z⟩:=r;rw[pq]at B;have aa:∀{g':G}{aj:Heap}{bx:St H},dh o.locals g h' g' aj->Rel c g' bx aj->Loc c o gT g' aj al->gh c o (but gT (kU t)) K bG g' aj bx l:=fun U R' F'=>⟨S.T.trans U,R',F'.WM fun j y e=>⟨(zK e).1,Ss hc pb j (zK e).2⟩,S.ce⟩
       refine R3 (s:={W with heap:=aE,toks:=aF}) hq aG aH pq (fun e an ao ab ae af ag=>?_) fun aV w e eb an ao ab ae af ag=>?_
       ·subst e;simp only[mG,lr];have U:=am.trans ae;exact⟨n,uD n,an,Z,i+1,acc,us,k,aa U af ag,ak.da U,tD.da U J,tD.at U J,U.sP rD,⟨ab,by rw[hs]⟩,B⟩
       ·subst e;simp only[if_true];refine hb _ _ {W with heap:=ao,toks:=ab} _ _ _ _ _ af ag eb fun ap aI aq aJ aK aL aM aN=>?_
        have U:=(am.trans ae).trans aK;have au:=tD.at U J;have ah:=tD.da U J;simp only at B;obtain⟨aO,B⟩:=gZ B;rw[mD]at aO;have hsz:us.size<=sizeLine:=by have:=rD.len;simp only[qo]at this;rw[this];exact rH (Nat.le_of_lt aO)
        refine wpAny_list_append_plain (s:={W with heap:=aI,toks:=aq}) (hsz:=hsz) ⟨k,au⟩ fun aP ⟨aQ,av⟩ ai=>?_
        have aR:=(aa U aL aM).put ah nD ai.extBut;have aS:mN c ap o.locals bG aP (.li a) I (i+1):=by obtain⟨aW,aX,aY,a6,oo,aZ,r6⟩:=ak.da U;exact⟨aW,aX,aY,a6,oo,(ai.2 I (kQ ar)).trans aZ,r6⟩
        exact⟨n,uD n,ap,Z,i+1,acc++[w],us.push aJ,aQ,aR,aS,ah,av,by simpa using cE.append (U.sP rD) (cE.one aN),⟨aq,by rw[hs]⟩,B⟩
   |_=>rw[p]at pn;cases pn
structure Dw(scope:Scope):Prop where
 kind:scope.kind=.function
 cell:∀x∈scope.names,x.2≠ .cell
 loc:∀x∈scope.names,x.2=.local->scope.names.lookup x.1=some .local
theorem C4{env:Env}{g:G}{h:Heap}{l:L}(F:Loc c env nm g h l):∀{ns:List (Str×NameKind)}{cs cl:List (Str×Addr)},ku env.cells ns cs=some cl->(∀y q,cs.lookup y=some q->∃z,env.cells.lookup z=some q)->∀y q,cl.lookup y=some q->∃z,env.cells.lookup z=some q
 |[],cs,cl,h,k=>by cases h;exact k
 |(n,kd)::r,cs,cl,h,k=>by
  cases kd with
  |free=>
   simp only[ku]at h;cases p:env.cells.lookup n with
   |none=>rw[p]at h;cases h
   |some a=>
    rw[p]at h;refine C4 F h fun y q e=>?_
    rw[jT]at e;cases z:y==n with|true=>rw[z]at e;cases e;exact⟨n,p⟩|false=>rw[z]at e;exact k y q e
  |_=>simp only[ku]at h;exact C4 F h k
theorem Kz(hh:A.handled=none){scope:Scope}(ok:Dw scope){cl:List (Str×Addr)}(am:ku env.cells scope.names []=some cl)(fc:∀C,jj (compEnvC scope cl C env) gT){loc:Str->Bool}(an:∀C y,loc y=true->(compEnvC scope cl C env).kindOf y=some .local)
  {t:Tg} {K iter aa:Expr} {ab:List Expr} {pos:Pos} (hc:pR gT loc t K=true)
  (ae:∀C i y,but gT (kU t) i=some y->nm i=some y/\((compEnvC scope cl C env).kindOf y=some .cell∨(compEnvC scope cl C env).kindOf y=some .free)/\cl.lookup y=env.cells.lookup y/\env.kindOf y≠some .local)
  {b:X H V} {q:Option (X H V)} (hb:∀C,dv c A (compEnvC scope cl C env) gT aa b) (hq:∀C,ym c A (compEnvC scope cl C env) gT ab q) {a:Ad} {B:G} {bG:Heap} {l:L} {O U:St H} {xs:List V} {I:Addr} {RR:Value->Addr->Result->Shared->Prop}
  {ob:Obj} (hs:s.heap=bG.push ob) (W:Rel c B O bG) (j:Loc c env nm B bG l) (hI:I=bG.objs.size) (la:Addr) (ha:B.ad a false=some la) (aw:s.heap.IsListIter I la 0)
  (hx:jU c.M (.li a) (dE c.M t (xQ c.M q b)) (count c.M (.li a) O.h+1) 0 [] l O=some (xs,U))
  (ax:∀D C g h' tk,aat c env nm B bG U l xs D C g h'->RR (.ref D) C (.ok .next) {s with heap:=h',toks:=tk}):
  wpAny c.md A (newList []) (fun acc ao=>wpAny c.md A (newFunctionEnv scope env.globals cl [] env.qual none .none (some env)) (fun Y ap=>
   codeAny c.md A (.compStart (.ListComp aa [⟨K,iter,ab,0⟩] scope pos) 0 (.ref I) acc {Y with scope:=relabel scope env}) (RR acc Y.locals) ap) E ao) E s:=by
 refine xR (wpAny_newFunctionEnv ok.cell (by intro y hy;simp at hy) (fun J af ag=>?_) ok.kind);dsimp only at af ag⊢;generalize ah:s.heap.push {cls:=.type "list",dict:=none,data:=.seq ([]:List Value).toArray}=S at af ag⊢;have z1:s.heap.objs.size=bG.objs.size+1:=by rw[hs];exact Heap.size_push ..
 have z2:S.objs.size=bG.objs.size+2:=by rw[←ah];rw[Heap.size_push,z1]
 have hD:S.get? s.heap.objs.size=some {cls:=.type "list",data:=.seq #[]}:=by rw[←ah];exact kO _ rfl
 have aq:∀b o,s.heap.get? b=some o->S.get? b=some o:=fun b o e=>ah▸iV _ e
 have ai:∀b o,S.get? b=some o->J.get? b=some o:=fun b o e=>ag.extBut b o (qr (nc e)) (iV _ e)
 have ay:∀b o,bG.get? b=some o->s.heap.get? b=some o:=fun b o e=>by rw[hs];exact iV _ e
 have kp:∀b o,bG.get? b=some o->J.get? b=some o:=fun b o e=>ai b o (aq b o (ay b o e))
 have aj:∀a,bG.objs.size<=a->bG.get? a=none:=fun a ha=>by cases e:bG.get? a with|none=>rfl|some o=>exact absurd (nc e) (Nat.not_lt.mpr ha)
 have nI:bG.get? I=none:=aj I (by rw[hI];exact ez _);have nD:bG.get? s.heap.objs.size=none:=aj _ (by rw[z1];exact Nat.le_succ _);have nC:bG.get? S.objs.size=none:=aj _ (by rw[z2];exact Nat.le_add_right _ _);have az:s.heap.objs.size≠I:=by rw[z1,hI];exact Aw _
 have ar:s.heap.objs.size≠S.objs.size:=by rw[z1,z2];exact qr (uD _)
 have aA:I≠S.objs.size:=by rw[hI,z2];exact qr (Nat.lt_add_of_pos_right (by decide))
 have tI:=sD W j nI;have tD:=sD W j nD;have tC:=sD W j nC;have ak:∀{g:G}{a:Addr},fZ c g env.locals a->a≠S.objs.size->fZ c g S.objs.size a:=fun t h=>⟨t.own,t.tp,t.old,h⟩
 have FC:Loc c (compEnvC scope cl S.objs.size env) (but gT (kU t)) B J l:=by
  refine⟨⟨_,af,fun i x y e1 e2 e3=>?_⟩,tC.own,tC.tp,tC.old,fun y q e=>?_⟩
  ·obtain⟨h1,h2,h3,h4⟩:=ae S.objs.size i y e3;obtain⟨m,hm,r⟩:=j.ns;rcases r i x y e1 e2 h1 with⟨p,_⟩|⟨p,q,u,t1,t2,t3,t4⟩
   ·exact absurd p h4
   ·obtain⟨oc,ec,rc⟩:=t2;have aB:q≠S.objs.size:=fun z=>by rw[z,nC]at ec;cases ec
    exact .inr ⟨h2,q,u,h3.trans t1,⟨oc,kp q oc ec,rc⟩,ak t3 aB,t4⟩
  ·obtain⟨z,hz⟩:=C4 j am (fun y q e=>by cases e) y q e;obtain⟨o,e'⟩:=j.kW z q hz;exact⟨o,kp q o e'⟩
 have LC:gh c (compEnvC scope cl S.objs.size env) (but gT (kU t)) B bG B J O l:=⟨.grow kp,W.grow kp,FC,fun y q e=>by
  obtain⟨z,hz⟩:=C4 j am (fun y q e=>by cases e) y q e
  exact j.kW z q hz⟩
 have au:J.IsListIter I la 0:=by obtain⟨o,e,r⟩:=aw;exact⟨o,ai _ _ (aq _ _ e),r⟩
 have IC:mN c B S.objs.size bG J (.li a) I 0:=⟨ak tI aA,nI,la,ha,au⟩
 have Z:codeAny c.md A (.compLoop (.ListComp aa [⟨K,iter,ab,0⟩] scope pos) 0 (.ref I) (.ref s.heap.objs.size) (compEnvC scope cl S.objs.size env)) (RR (.ref s.heap.objs.size) S.objs.size) {s with heap:=J,toks:=s.toks+([]:List (Str×Value)).length}:=by
  refine Td (s:={s with heap:=J,toks:=s.toks+([]:List (Str×Value)).length}) hh (fc _) (an _) hc (hb _) (hq _) az nD (fun g h' tk us k L' al oD rD=>?_) LC IC (ak tD ar) (ai _ _ hD) hx;have T':∀L,dh L B bG g h':=fun L=>⟨L'.T.ad,L'.T.tp,L'.T.o8,L'.T.pQ,L'.T.live,fun a o e hn _=>L'.T.keep a o e hn fun z=>by
   have:a=S.objs.size:=z
   rw[this,nC]at e;cases e⟩
  have FE:Loc c env nm g h' l:=j.da (T' _) fun o e=>(T' S.objs.size).keep _ o e j.own fun z=>by rw[z,nC]at e;cases e
  have LE:gh c env nm B bG g h' U l:=⟨T' _,L'.R,FE,j.kW⟩
  have aC:fZ c g env.locals S.objs.size:=⟨L'.F.own,L'.F.tp,L'.F.old,tC.ne⟩
  have av:fZ c g env.locals s.heap.objs.size:=⟨al.own,al.tp,al.old,tD.ne⟩
  obtain⟨m,hm,_⟩:=L'.F.ns;exact ax _ _ g h' tk ⟨LE,av,nD,⟨us,k,oD,rD⟩,aC,nC,ar,m,hm⟩
 exact codeAny_compStart_list Z (wpAny_pyIter_listiter au Z)
theorem KA{M:Mc H}{v:V}{σ bx:St H}{a:Ad}(h:yb M v σ=some (a,bx)):v=.ref a/\bx=σ/\∃ys,M.get σ.h a=.list ys:=by
 unfold yb at h;cases v with
 |ref n=>simp only at h;cases p:M.get σ.h n with|list ys=>rw[p]at h;cases h;exact⟨rfl,rfl,ys,p⟩|_=>rw[p]at h;cases h
 |_=>cases h
theorem C5{M:Mc H}{t:It}{e:V->L->St H->R H (Option V)}:∀{n i:Nat}{acc:List V}{l:L}{σ bx:St H}{xs:List V},jU M t e n i acc l σ=some (xs,bx)->acc.length<=bu->xs.length<=bu
 |0,_,_,_,_,_,_,h,_=>by cases h
 |n+1,i,acc,l,σ,bx,xs,h,k=>by
  simp only[jU]at h;cases p:hX M t i σ.h with
  |none=>rw[p]at h;cases h
  |some r=>
   rw[p]at h;cases r with
   |none=>cases h;exact k
   |some v=>
    simp only at h;cases pe:e v l σ with
    |none=>rw[pe]at h;cases h
    |some j=>obtain⟨o,s⟩:=j;rw[pe]at h;cases o with|none=>exact C5 h k|some x=>simp only at h;obtain⟨hl,h⟩:=gZ h;rw[mD]at hl;exact C5 h (by simp;omega)
theorem WN(gd:Gd c)(hh:A.handled=none){scope:Scope}(ok:Dw scope){t:Tg}{e iter J:Expr}{K:List Expr}{pos:Pos}{loc:Str->Bool}(sQ:∀v,foldedSetIterable iter env v=pure v)
  (j:∃cl,ku env.cells scope.names []=some cl/\(∀C,jj (compEnvC scope cl C env) gT)/\(∀C y,loc y=true->(compEnvC scope cl C env).kindOf y=some .local)/\
   (∀C i y,but gT (kU t) i=some y->nm i=some y/\((compEnvC scope cl C env).kindOf y=some .cell∨(compEnvC scope cl C env).kindOf y=some .free)/\cl.lookup y=env.cells.lookup y/\env.kindOf y≠some .local))
  (hc:pR gT loc t e=true) {b x:X H V} {q:Option (X H V)} (hb:∀C cl,ku env.cells scope.names []=some cl->dv c A (compEnvC scope cl C env) gT J b) (hq:∀C cl,ku env.cells scope.names []=some cl->ym c A (compEnvC scope cl C env) gT K q) (h:dv c A env nm iter x):
  dv c A env nm (.ListComp J [⟨e,iter,K,0⟩] scope pos) (II c.M b t x q):=by
 obtain⟨cl,j,fc,O,I⟩:=j;intro Q E s g σ l v bx R F S k;obtain⟨w,ah,e1,S⟩:=cP S;obtain⟨a,ai,e2,S⟩:=cP S;obtain⟨xs,aj,e3,ag⟩:=cP S;obtain⟨rfl,rfl,ys,py⟩:=KA e2;rw[eval_ListComp];refine wpAny_comprehension_free (use:=none) rfl sQ (Ky j) ok.kind ok.loc (h _ _ _ _ _ _ _ _ R F e1 fun ak bG z al U B W Y=>?_);obtain⟨la,rfl,ha⟩:=Y;obtain⟨us,m,l1,l2,l3,_⟩:=B.list py ha;refine wpAny_pyIter_list (s:={s with heap:=bG,toks:=z}) ⟨_,l1,rfl,_,rfl⟩ ?_;refine Kz (s:={s with heap:=bG.push {cls:=.type "list_iterator",data:=.fields #[.ref la,.int 0 0]},toks:=z}) hh ok j fc O hc I (fun C=>hb C cl j) (fun C=>hq C cl j) rfl B W rfl la ha ⟨_,kO _ rfl,rfl,rfl⟩ e3 (RR:=fun acc C=>compPost c.md A E none Q acc C) fun D C am an tk ce=>?_
 obtain⟨mC,hC⟩:=ce.oC;refine⟨mC,hC,fun Z o=>?_⟩;obtain⟨ao,k',oD,rD⟩:=ce.oD;have aa:=ce.inv.put ce.tC ce.nC o.extBut;have ab:xs.length<=bu:=C5 e3 (mF _);obtain⟨ae,p,af,_⟩:=aa.adopt gd ag ce.tD ce.nD ((o.2 D ce.ne).trans oD) rD ab;exact k ae Z tk _ (U.trans p.T) p.R p.F af
end
section
variable{H:Type}{c:Cx H}{A:Around}{E:cV}{s:Shared}{env:Env}{nm gT:Nat->Option Str}
def DO(scope:Scope)(y:Str)(e pos:Pos):Bool:=e.line==pos.line&&!(scope.names.any fun x=>x.1==y&&(x.2==.local||x.2==.cell))
theorem Te{o:Expr}{j:List Comprehension}{scope:Scope}{pos p:Pos}{y:Str}{line:Nat}(hk:env.scope.kind=.function)(q:env.kindOf y=some .local)(h:DO scope y p pos=true):
  swapsWith (.ListComp o j scope pos) (some (.Name y p)) line env=pure true:=by
 have t:(env.blockKind==ScopeKind.function)=true:=by unfold Env.blockKind;rw[hk];rfl
 have e:swapsWith (.ListComp o j scope pos) (some (.Name y p)) line env=pure (env.blockKind==.function&&env.kindOf y==some .local&&p.line==pos.line&&!(scope.names.any fun(n,k)=>n==y&&(k==.local||k==.cell))):=rfl;unfold DO at h;rw[cY]at h;rw[e,t,q,h.1];have x:(!(scope.names.any fun(n,k)=>n==y&&(k==.local||k==.cell)))=true:=h.2;rw[x];rfl
theorem Vk(gd:Gd c)(hh:A.handled=none)(f:jj env nm){scope:Scope}(ok:Dw scope){t:Tg}{j iter W:Expr}{Y:List Expr}{pos:Pos}{loc J:Str->Bool}(sQ:∀v,foldedSetIterable iter env v=pure v)
  (Z:∀y,J y=true->env.kindOf y=some .local) {i:Nat} {te:Expr} {ah:Pos} (hi:vb nm J i te=true) (aa:∀y K,te=.Name y K->DO scope y K pos=true)
  (o:∃cl,ku env.cells scope.names []=some cl/\(∀C,jj (compEnvC scope cl C env) gT)/\(∀C y,loc y=true->(compEnvC scope cl C env).kindOf y=some .local)/\
   (∀C i y,but gT (kU t) i=some y->nm i=some y/\((compEnvC scope cl C env).kindOf y=some .cell∨(compEnvC scope cl C env).kindOf y=some .free)/\cl.lookup y=env.cells.lookup y/\env.kindOf y≠some .local))
  (hc:pR gT loc t j=true) {b x:X H V} {q:Option (X H V)} (hb:∀C cl,ku env.cells scope.names []=some cl->dv c A (compEnvC scope cl C env) gT W b) (hq:∀C cl,ku env.cells scope.names []=some cl->ym c A (compEnvC scope cl C env) gT Y q) (h:dv c A env nm iter x):
  lO c A env nm (.Assign [te] (.ListComp W [⟨j,iter,Y,0⟩] scope pos) ah) (wG i (II c.M b t x q)):=by
 obtain⟨y,K,rfl,aw,ax⟩:=uz hi;obtain⟨cl,o,fc,ai,ab⟩:=o;intro Q E s g σ l fl l' bx R F hx k;obtain⟨v,aA,hx,I⟩:=cP hx;obtain⟨w,aB,e1,hx⟩:=cP hx;obtain⟨a,aC,e2,hx⟩:=cP hx;obtain⟨xs,aD,e3,ay⟩:=cP hx;obtain⟨rfl,rfl,ys,az⟩:=KA e2;cases ps:bW l i v with
 |none=>rw[ps]at I;cases I
 |some aE=>
  rw[ps]at I;cases I;have hy:=Z y ax;rw[exec_Assign_Name_used _ _ _ _ (Te f.kind hy (aa y K rfl))];refine bC (rN (bC ?_));show wpAny _ A (do let _ ←comprehension (.ListComp W [⟨j,iter,Y,0⟩] scope pos) scope env _ (newList []) false (eval iter env) (some (assign (.Name y K) env))) _ _ s
  refine bC (qp (wpAny_comprehension_free (use:=some (assign (.Name y K) env)) (Q:=fun _ s'=>Q .next s') rfl sQ (Ky o) ok.kind ok.loc (h _ _ _ _ _ _ _ _ R F e1 fun aF bG O aG aj S ak al=>?_)) (fun _ s' hq=>bU (bU hq)) fun _ _ e=>e);obtain⟨la,rfl,ha⟩:=al;obtain⟨us,m,l1,l2,l3,_⟩:=S.list az ha;refine wpAny_pyIter_list (s:={s with heap:=bG,toks:=O}) ⟨_,l1,rfl,_,rfl⟩ ?_;refine Kz (s:={s with heap:=bG.push {cls:=.type "list_iterator",data:=.fields #[.ref la,.int 0 0]},toks:=O}) hh ok o fc ai hc ab (fun C=>hb C cl o) (fun C=>hq C cl o) rfl S ak rfl la ha ⟨_,kO _ rfl,rfl,rfl⟩ e3
   (RR:=fun acc C=>compPost c.md A E (some (assign (.Name y K) env)) (fun _ s'=>Q .next s') acc C) fun D C aH am tk ce=>?_
  obtain⟨mC,hC⟩:=ce.oC;obtain⟨aJ,k',oD,rD⟩:=ce.oD;have an:xs.length<=bu:=C5 e3 (mF _);obtain⟨ao,p,ap,ae⟩:=ce.inv.adopt gd ay ce.tD ce.nD oD rD an;have z:=ae C ce.tC (kQ ce.ne);refine CF (is:=[]) (s:={s with heap:=am,toks:=tk}) f aw hy p.R (p.F.but _) ap ps (fun aI af U aq ar=>?_) K;obtain⟨oc,es,ep,c1,c2⟩:=hC;refine⟨mC,⟨oc,es,ep,z.at U c1,c2⟩,fun au ag=>?_⟩;have av:=p.grow U aq (ar.weak fun i y e=>xM e (by simp));have B:=av.put z ce.nC ag.extBut;exact k ao au af _ (aj.trans B.T) B.R B.F rfl
end
section
variable{H:Type}{c:Cx H}{A:Around}{E:cV}{s:Shared}{env:Env}{nm gT:Nat->Option Str}
theorem gh.WO(gd:Gd c){iz g:G}{h₀ h:Heap}{σ bx:St H}{l:L}(x:gh c env nm iz h₀ g h σ l){o:O}{v:V}{k:Option Nat}(hx:new c.M k o σ=some (v,bx)){D:Addr}(tm:fZ c g env.locals D)(nw:h₀.get? D=none)
  (r:∀n,(g.put n D none).ad n false=some D->(g.put n D none).ad n true=none->(∀m b I,g.ad m b=some I->(g.put n D none).ad m b=some I)->gS c (g.put n D none) h n o):∃g',gh c env nm iz h₀ g' h bx l/\cj c.N g' v (.ref D)/\∀a,fZ c g env.locals a->a≠D->fZ c g' env.locals a:=by
 obtain⟨n,rfl,hf,dG,hl,rfl⟩:=zJ hx;have z:=x.R.obj n;rw[hf]at z;have gn:∀b,g.ad n b=none:=fun b=>by cases b;exact z.1;exact z.2
 have eo:∀m b I,g.ad m b=some I->(g.put n D none).ad m b=some I:=fun m b I e=>by
  by_cases B:m=n
  ·subst B;rw[gn]at e;cases e
  ·rw[G.qW B];exact e
 have inv:∀m b I,(g.put n D none).ad m b=some I->(m=n/\b=false/\I=D)∨(m≠n/\g.ad m b=some I):=fun m b I e=>by
  by_cases B:m=n
  ·subst B;cases b with|false=>rw[G.ka]at e;exact .inl ⟨rfl,rfl,(nM e).symm⟩|true=>rw[G.kM]at e;cases e
  ·rw[G.qW B]at e;exact .inr ⟨B,e⟩
 have R':Rel c (g.put n D none) ⟨c.M.set σ.h n o,σ.nx+1⟩ h:=by
  refine⟨fun m b m' b' a e S W=>?_,fun m=>?_,x.R.tup,x.R.old,fun m b a e Y=>?_,fun m b a e=>?_,fun m b e=>?_,fun m b a e=>?_,fun m b a e=>eo m b a (x.R.oY m b a e),x.R.oZ⟩
  ·rcases inv _ _ _ e with⟨rfl,rfl,rfl⟩|⟨J,j⟩<;>rcases inv _ _ _ S with⟨Z,U,K⟩|⟨Z,U⟩
   ·exact⟨Z.symm,U.symm⟩
   ·exact absurd U (tm.own _ _)
   ·subst K;exact absurd j (tm.own _ _)
   ·exact x.R.inj _ _ _ _ _ j U W
  ·by_cases B:m=n
   ·subst B;rw[Mc.C1 _ dG];exact r m G.ka G.kM eo
   ·rw[Mc.Dt _ dG B];exact gS.mono (x.R.obj m) eo (fun b q=>by rw[G.qW B];exact q) fun a vs q=>q
  ·rcases inv _ _ _ e with⟨rfl,rfl,rfl⟩|⟨J,j⟩
   ·exact tm.old
   ·exact x.R.fresh _ _ _ j Y
  ·rcases inv _ _ _ e with⟨rfl,rfl,rfl⟩|⟨J,j⟩
   ·exact dG
   ·exact x.R.ok _ _ _ j
  ·rcases inv _ _ _ e with⟨_,_,K⟩|⟨J,j⟩
   ·obtain⟨o,q⟩:=gd.sys;rw[K,tm.old]at q;cases q
   ·exact x.R.sys _ _ j
  ·rcases inv _ _ _ e with⟨rfl,rfl,rfl⟩|⟨J,j⟩
   ·exact tm.tp
   ·exact x.R.sep _ _ _ j
 have T':dh env.locals iz h₀ (g.put n D none) h:=⟨fun m b a e=>eo m b a (x.T.ad m b a e),x.T.tp,fun m b a e=>by
  rcases inv _ _ _ e with⟨rfl,rfl,rfl⟩|⟨J,j⟩
  ·exact .inr nw
  ·exact x.T.o8 _ _ _ j,x.T.pQ,x.T.live,x.T.keep⟩
 have tk:∀a,fZ c g env.locals a->a≠D->fZ c (g.put n D none) env.locals a:=fun a t ha=>⟨fun m b e=>by
  rcases inv _ _ _ e with⟨_,_,K⟩|⟨J,j⟩
  ·exact ha K
  ·exact t.own _ _ j,t.tp,t.old,t.ne⟩
 refine⟨_,⟨T',R',?_,x.ce⟩,⟨D,rfl,G.ka⟩,tk⟩;obtain⟨mm,B,rr⟩:=x.F.ns;refine⟨⟨mm,B,fun i w y e1 e2 e3=>?_⟩,fun m b e=>?_,x.F.tp,x.F.old,x.F.kW⟩
 ·rcases rr i w y e1 e2 e3 with⟨p,u,q,t⟩|⟨p,q,u,t1,t2,t3,t4⟩
  ·exact .inl ⟨p,u,q,cj.mono (g:=g) (g':=g.put n D none) eo (fun _ _ e=>e) _ _ t⟩
  ·refine .inr ⟨p,q,u,t1,t2,tk q t3 fun z=>?_,cj.mono (g:=g) (g':=g.put n D none) eo (fun _ _ e=>e) _ _ t4⟩;obtain⟨o,S⟩:=x.ce y q t1;rw[z,nw]at S;cases S
 ·rcases inv _ _ _ e with⟨_,_,K⟩|⟨J,j⟩
  ·exact tm.ne K.symm
  ·exact x.F.own _ _ j
theorem WQ(gd:Gd c){e:Expr}{x:X H V}{pos:Pos}(hc:kdsCode c.K env.code=true)(hn:jd e=true)(h:dv c A env nm e x):dv c A env nm (.Set [e] 0 pos) (OB c.M x):=by
 intro Q E s g σ l v bx R F O q;obtain⟨w,ah,e1,O⟩:=cP O;unfold Ea at O;cases w with
 |int z=>
  simp only at O;rw[arm_eval_Set];refine bC (rN ?_);refine bC (kds_main (R.pM gd) hc fun b=>?_);rw[zl hn];refine kds_core (ts:=[do let v ←eval e env;standAt pos;pure v]) rfl rfl (by show 1<=30;decide) rfl fun j=>?_
  have kp:∀b o,s.heap.get? b=some o->(s.heap.push {cls:=.type "set",dict:=none,data:=.set #[] 0 (.fresh 0 0 j)}).get? b=some o:=fun b o e=>iV _ e
  have nD:s.heap.get? s.heap.objs.size=none:=m4;have p:gh c env nm g s.heap g (s.heap.push {cls:=.type "set",dict:=none,data:=.set #[] 0 (.fresh 0 0 j)}) σ l:=⟨.grow kp,R.grow kp,F.grow kp,F.kW⟩
  have tD:fZ c g env.locals s.heap.objs.size:=sD R F nD;have oD:(s.heap.push {cls:=.type "set",dict:=none,data:=.set #[] 0 (.fresh 0 0 j)}).get? s.heap.objs.size=some {cls:=.type "set",dict:=none,data:=.set #[] 0 (.fresh 0 0 j)}:=kO _ rfl;refine bC (bC (h _ _ {s with heap:=s.heap.push {cls:=.type "set",dict:=none,data:=.set #[] 0 (.fresh 0 0 j)}} _ _ _ _ _ p.R p.F e1 fun ai bG aj ak B S U W=>?_));refine bC (rN (bU (bC (iy (bU (bU ?_))))));obtain⟨t,rfl⟩:=W;have K:=tD.at B oD;have I:=tD.da B oD;have Y:=p.grow B S U;refine kds_fill_cons ?_;unfold setAdd;refine iy (bC ((intKind c.prog c.w).pyHash (k:=z.val c.N) (by simp[intKind,Value.isInt]) ?_));refine wpAny_setAddHashed_of (knd:=intKind c.prog c.w) (k:=z.val c.N) (by simp[intKind,Value.isInt]) rfl ((setObjOf_fresh (knd:=intKind c.prog c.w) j).setOf K (by decide)) (by decide) fun Z hs hS=>?_
  refine kds_fill_nil rfl ?_;have aa:=Y.put I nD hs.extBut;obtain⟨o',af,ag,tt,f1,f2,f3⟩:=hS;obtain⟨ab,J,ae,_⟩:=aa.WO gd O I nD fun n p1 p2 _=>⟨s.heap.objs.size,o',_,_,p1,p2,f1,f2.1,⟨o',af,ag,tt,f1,f2,f3⟩,by simp,fun i=>by
   rw[m7,iG];constructor
   ·rintro(h|h)
    ·cases h
    ·exact⟨z,fB,h.symm⟩
   ·rintro⟨y,h1,h2⟩
    cases kP.mp h1;exact .inr h2.symm⟩
  exact q ab Z _ _ J.T J.R J.F ae
 |_=>cases O
end
theorem aav{lR:Nat->Nat->(Bool->Shared->Prop)->Shared->Prop}{Q:Array Nat->Shared->Prop}{s:Shared}(h:lR 1 0 (fun b j=>bif b then Q #[1,0] j else Q #[0,1] j) s):(kas_sort 2).kasWp lR Q s:=by
 have e:(kas_sort 2).kasWp lR Q s=lR 1 0 (fun b j=>bif b then Q #[1,0] j else Q #[0,1] j) s:=by
  show lR 1 0 _ s=_
  congr 1;funext c j;cases c<;>rfl
 rw[e];exact h
def Ie(h:Heap)(L:Addr):List (Addr×Obj):=(List.range h.objs.size).filterMap fun a=>match h.get? a with
 |some o=>if a=L then none else some (a,o)
 |none=>none
theorem vF{h:Heap}{L a:Addr}{o:Obj}:(a,o)∈Ie h L↔h.get? a=some o/\a≠L:=by
 unfold Ie;rw[List.mem_filterMap];constructor
 ·rintro⟨b,_,j⟩;cases p:h.get? b with
  |none=>rw[p]at j;cases j
  |some o'=>
   rw[p]at j
   by_cases e:b=L
   ·simp[e]at j
   ·simp only[e,lr]at j;cases j;exact⟨p,e⟩
 ·rintro⟨q,t⟩;exact⟨a,Ax.mpr (nc q),by rw[q];simp[t]⟩
def Mq:Heap:={}
section
variable{H:Type}{c:Cx H}{A:Around}{E:cV}{s:Shared}{env:Env}{nm gT:Nat->Option Str}
theorem KY(gd:Gd c){g:G}{σ:St H}(K:A.units+5<cLine):∀{x y:List V}{b:Bool}{us vs:List Value}{i:Nat}{Q:Bool->Shared->Prop}{s:Shared},Rel c g σ s.heap->yx c.M.F c.M.P.sl x y=some b->cE c.N g x us->cE c.N g y vs->(i=0->vC (.tup x)=true/\vC (.tup y)=true)->
  Q b s->KatLex c.prog c.w A true (decide (us.length<vs.length)) Q (us.zip vs) i s
 |[],y,b,us,vs,i,Q,s,R,h,o,j,_,q=>by have:us=[]:=o;subst this;have n:=j.len;refine kat_nil ?_;cases y with|nil=>cases h;simpa[n]using q|cons=>cases h;simpa[n]using q
 |x::xs,[],b,us,vs,i,Q,s,R,h,o,j,_,q=>by have:vs=[]:=j;subst this;rw[List.zip_nil_right];refine kat_nil ?_;cases h;simpa using q
 |x::xs,y::ys,b,us,vs,i,Q,s,R,h,⟨u,z,O,o,I⟩,⟨v,B,S,j,J⟩,hi,q=>by
  subst O;subst S;simp only[yx]at h;obtain⟨hf,h⟩:=gZ h;rw[cY]at hf;rw[DG];refine kat_cons ?_;cases p:eqv c.M.F x y with
  |none=>rw[p]at h;cases h
  |some r=>
   rw[p]at h;refine J5 gd R hf.1 hf.2 p o j K ?_;cases r with
   |true=>
    refine kat_yes ?_;have e:decide ((u::z).length<(v::B).length)=decide (z.length<B.length):=by simp
    rw[e];exact KY gd K R h I J (fun e=>by simp at e) q
   |false=>
    refine kat_no ?_;cases i with
    |zero=>
     obtain⟨U,W⟩:=hi rfl;cases x with
     |str k=>cases y with|str Y=>obtain⟨t,rfl⟩:=o;obtain⟨Z,rfl⟩:=j;refine oneLt_str ?_;simp only[Bm]at h;rw[gd.sl _ _ _ h];exact q|_=>cases W
     |_=>cases U
    |succ i=>refine kat_one u v ?_;exact Gj gd h o j q
theorem R5(gd:Gd c){n:Nat}(rm:Rm A n){g:G}{σ:St H}{l:L}(R:Rel c g σ s.heap)(F:Loc c env nm g s.heap l){x y:V}{b:Bool}(Z:vC x=true)(hy:vC y=true)(aa:tV c.M.F c.M.P.sl y x=some b){la:Addr}{u v:Value}(hl:s.heap.IsList la #[u,v])
  (hu:cj c.N g x u) (hv:cj c.N g y v) {Q:cV}
  (q:∀D h' k,s.heap.get? D=none->(∀a o,s.heap.get? a=some o->a≠env.locals->h'.get? a=some o)->h'.get? D=some {cls:=.type "list",data:=.seq (bif b then #[v,u]else #[u,v]) k}->Loc c env nm g h' l->Q (.ref D) {s with heap:=h'}):
  wpAny c.md A (call (.builtin "sorted") [.ref la]) Q E s:=by
 cases x with
 |tup x=>
  cases y with
  |tup y=>
   obtain⟨m,hm,rr⟩:=F.ns;have FL:∀j,j.Ns env.locals m->(∀a o,s.heap.get? a=some o->a≠env.locals->j.get? a=some o)->Loc c env nm g j l:=fun j hn J=>⟨⟨m,hn,fun i x y W e2 Y=>by
     rcases rr i x y W e2 Y with p|⟨p,q,u,O,⟨oc,ec,rc⟩,t3,t4⟩
     ·exact .inl p
     ·exact .inr ⟨p,q,u,O,⟨oc,J _ _ ec t3.ne,rc⟩,t3,t4⟩⟩,F.own,F.tp,F.old,fun y q e=>by
     obtain⟨o,e'⟩:=F.kW y q e
     by_cases hq:q=env.locals
     ·obtain⟨o',_,_,ab,_⟩:=hn;exact⟨o',hq▸ab⟩
     ·exact⟨o,J _ _ e' hq⟩⟩
   obtain⟨S,us,rfl,h1,h2⟩:=hu;obtain⟨U,vs,rfl,k1,k2⟩:=hv;obtain⟨ox,W,e2,n1,Y⟩:=R.tup S us h1;obtain⟨oy,f1,f2,n2,f3⟩:=R.tup U vs k1;have nx:S≠env.locals:=fun z=>by rw[z,F.tp]at h1;cases h1
   have ny:U≠env.locals:=fun z=>by rw[z,F.tp]at k1;cases k1
   have no:∀a o,Mq.get? a=some o->False:=fun a o e=>by cases e
   refine kat_sorted (h₀:=Mq) (L:=env.locals) (m:=m) (news:=Ie s.heap env.locals) (vs:=[.ref S,.ref U]) ⟨hm,fun b o e=>(no b o e).elim,mF _⟩ (fun p hp=>?_) hl (ez 2) (nU rfl) fun D ep h' F' N' hD=>?_
   ·obtain⟨i1,i2⟩:=vF.mp hp;exact⟨i1,i2,rfl⟩
   ·have J:∀a o,s.heap.get? a=some o->a≠env.locals->h'.get? a=some o:=fun a o e I=>(N' (a,o) (.tail _ (vF.mpr ⟨e,I⟩))).1
    have nD:s.heap.get? D=none:=by
     cases z:s.heap.get? D with
     |none=>rfl
     |some o=>
      by_cases hz:D=env.locals
      ·exact absurd hz (N' _ (.head _)).2.1
      ·exact absurd (hD (D,o) (vF.mpr ⟨z,hz⟩)) (Nat.lt_irrefl _)
    have ae:fZ c g D env.locals:=⟨F.own,F.tp,F.old,fun z=>(N' _ (.head _)).2.1 z.symm⟩
    have R':Rel c g σ h':=R.ext ae fun b o hb e=>J b o e hb
    have first:∀{z:List V}{ws:List Value},vC (.tup z)=true->cE c.N g z ws->∃a t r,ws=.str a t::r:=fun{z ws} hz hr=>by
     cases z with
     |nil=>cases hz
     |cons z zs=>obtain⟨w,r,rfl,hw,_⟩:=hr;cases z with|str k=>obtain⟨t,rfl⟩:=hw;exact⟨_,t,r,rfl⟩|_=>cases hz
    obtain⟨a1,O,r1,rfl⟩:=first Z h2
    obtain⟨a2,t2,r2,rfl⟩:=first hy k2
    refine kat_kind (s:={s with heap:=h'}) (vs:=[.ref S,.ref U]) (fs:=[.str a1 O,.str a2 t2]) (T:=.type "str") (.cons (J _ _ W nx) e2 Y rfl (.cons (J _ _ f1 ny) f2 f3 rfl .nil)) (nU rfl) (fun w hw=>?_) rfl ?_
    ·rcases gx.mp hw with rfl|hw
     ·exact .now
     ·cases kP.mp hw;exact .now
    ·refine aav ?_;show wpAny _ _ (keyLt' (tuples' true) (.ref U) (.ref S)) _ _ _
     refine kat_lt (s:={s with heap:=h'}) (J _ _ f1 ny) f3 (J _ _ W nx) Y ?_;have e:decide ((Value.str a2 t2::r2).toArray.size<(Value.str a1 O::r1).toArray.size)=decide ((Value.str a2 t2::r2).length<(Value.str a1 O::r1).length):=by simp
     rw[e];refine KY (A:=A.in1.in1) (s:={s with heap:=h'}) gd (by have:=rm.un;show A.units+1+1+5<_;omega) R' aa k2 h2 (fun _=>⟨hy,Z⟩) ?_;cases b with
     |true=>
      refine KasFin.intro F' N' (.head fun p hp=>qr (hD p hp)) fun j c' K B=>?_
      exact q D j c' nD (fun a o e I=>(B (a,o) (.tail _ (vF.mpr ⟨e,I⟩))).1) (B _ (.head _)).1 (FL j K.ns fun a o e I=>(B (a,o) (.tail _ (vF.mpr ⟨e,I⟩))).1)
     |false=>
      refine KasFin.intro F' N' (.head fun p hp=>qr (hD p hp)) fun j c' K B=>?_
      exact q D j c' nD (fun a o e I=>(B (a,o) (.tail _ (vF.mpr ⟨e,I⟩))).1) (B _ (.head _)).1 (FL j K.ns fun a o e I=>(B (a,o) (.tail _ (vF.mpr ⟨e,I⟩))).1)
  |_=>cases hy
 |_=>cases Z
end
section
variable{prog:Program}{w:World}{A:Around}{E:cV}{s:Shared}
theorem Un{a:Addr}{vs:List Value}{n:Nat}{P:PySem.Fin->Shared->Prop}(o:vs.length<2)(ho:s.heap.get? a=some (seqObj "list" vs.toArray n))(h:P (.done (.ret .none)) {s with heap:=sortedHeap s.heap a vs vs.toArray}):
  wpAny (model prog w) A (Builtin.«list.sort» ⟨[.ref a],[]⟩) P E s:=by
 have p:a<s.heap.objs.size:=nc ho;have j:vs.toArray.size<2:=by simpa using o
 have hs:vs.length<=sizeLine:=by rw[v9];omega
 rw[list_sort_plain];refine bC (listItems_at ho rfl (bC (listUpdate_at ho rfl ?_ (by simpa using hs) (mF _))));obtain⟨k,hk⟩:∃k,(s.heap.update a (Obj.mapSeq fun _=>#[])).get? a=some (seqObj "list" #[] k):=⟨_,get?_update_seq ho (fun _=>#[])⟩
 refine bC (seqEpoch_at hk rfl (bC (wpAny_newTuple ?_ (by simpa using hs))));refine bC (wpAny_newList ?_ (mF _));refine iy ?_;have e:(((s.heap.update a (Obj.mapSeq fun _=>#[])).push (seqObj "tuple" vs.toArray 0)).push (seqObj "list" #[] 0)).get? a=some (seqObj "list" #[] k):=
  iV _ (iV _ hk)
 show wpAny (model prog w) A _ P E {s with heap:=((s.heap.update a (Obj.mapSeq fun _=>#[])).push (seqObj "tuple" vs.toArray 0)).push (seqObj "list" #[] 0)}
 dsimp only;rw[df j,df j];refine bC (bU ?_);rw[StateT.run_pure];refine bC (bU ?_);dsimp only;have hz:(arrOf (SortSt.mk' general' (vs.toArray.zip vs.toArray) #[] 7 none)).map (·.2)=vs.toArray:=by
  show(vs.toArray.zip vs.toArray).map (·.2)=vs.toArray
  apply Array.toList_inj.mp;simp[List.map_snd_zip]
 refine bC (seqEpoch_at e rfl ?_);rw[hz];refine bC (listUpdate_at e rfl ?_ (mF _) (by show vs.toArray.size<=_;simp;omega));simp only[bne_self_eq_false,mG,lr];exact bU h
theorem Su{l:Addr}{vs:List Value}{Q:cV}(e:vs.length<2)(hl:s.heap.IsList l vs.toArray)(h:Q (.ref (s.heap.objs.size+1)) {s with heap:=sortedAll s.heap vs vs.toArray}):
  wpAny (model prog w) A (call (.builtin "sorted") [.ref l]) Q E s:=by
 have hs:vs.length<=sizeLine:=by rw[v9];omega
 refine Calls.call_function_entry kind_sorted plain_sorted entry_sorted (args_sorted1 _) ?_;unfold Builtin.«sorted»;refine bC (m:=checkCount "sorted" 1 1 _) (bU (bC (collect_list hl ?_ hs)));refine bC (wpAny_newList ?_ hs);have z:((s.heap.push (seqObj "list" #[] 0)).update s.heap.objs.size (Obj.mapSeq (·++vs.toArray))).objs.size=s.heap.objs.size+1:=by rw[Heap.size_update,size_push']
 have hk:(((s.heap.push (seqObj "list" #[] 0)).update s.heap.objs.size (Obj.mapSeq (·++vs.toArray))).push (seqObj "list" vs.toArray 0)).get? (s.heap.objs.size+1)=some (seqObj "list" vs.toArray 0):=by rw[←z];exact kO _ rfl
 show wpAny _ _ _ _ _ {s with heap:=((s.heap.push (seqObj "list" #[] 0)).update s.heap.objs.size (Obj.mapSeq (·++vs.toArray))).push (seqObj "list" vs.toArray 0)}
 rw[z];refine bC (iy (pK slot_list_sort ⟨_,hk,rfl⟩ entry_list_sort (Un e hk ⟨_,rfl,?_⟩) (args_list_sort _)));exact bU ⟨_,rfl,h⟩
theorem Uo{h:Heap}{vs:List Value}:(∃k,(sortedAll h vs vs.toArray).get? (h.objs.size+1)=some (seqObj "list" vs.toArray k))/\∀b o,h.get? b=some o->(sortedAll h vs vs.toArray).get? b=some o:=by
 have z:((h.push (seqObj "list" #[] 0)).update h.objs.size (Obj.mapSeq (·++vs.toArray))).objs.size=h.objs.size+1:=by rw[Heap.size_update,size_push']
 unfold sortedAll;generalize p:(h.push (seqObj "list" #[] 0)).update h.objs.size (Obj.mapSeq (·++vs.toArray))=X at z;have hk:(X.push (seqObj "list" vs.toArray 0)).get? (h.objs.size+1)=some (seqObj "list" vs.toArray 0):=by rw[←z];exact kO _ rfl
 have keep:∀b o,h.get? b=some o->X.get? b=some o:=fun b o e=>by have lt:=nc e;rw[←p,Heap.get?_update_ne _ _ _ _ (qr lt)];exact iV _ e
 unfold sortedHeap;obtain⟨k,j⟩:∃k,((X.push (seqObj "list" vs.toArray 0)).update (h.objs.size+1) (Obj.mapSeq fun _=>#[])).get? (h.objs.size+1)=some (seqObj "list" #[] k):=⟨_,get?_update_seq hk (fun _=>#[])⟩
 refine⟨⟨_,get?_update_seq (iV _ (iV _ j)) (fun _=>vs.toArray)⟩,fun b o e=>?_⟩;have lt:b≠h.objs.size+1:=qr (Nat.lt_succ_of_lt (nc e));rw[Heap.get?_update_ne _ _ _ _ lt];refine iV _ (iV _ ?_);rw[Heap.get?_update_ne _ _ _ _ lt];exact iV _ (keep b o e)
end
section
variable{H:Type}{c:Cx H}{A:Around}{E:cV}{s:Shared}{env:Env}{nm gT:Nat->Option Str}
theorem RD(gd:Gd c){n:Nat}(rm:Rm A n){g:G}{σ bx:St H}{l:L}(R:Rel c g σ s.heap)(F:Loc c env nm g s.heap l){as:List V}{us:List Value}{v:V}
  (ho:cE c.N g as us) {Q:cV} (q:∀g' h' tk u,dh env.locals g s.heap g' h'->Rel c g' bx h'->Loc c env nm g' h' l->cj c.N g' v u->Q u {s with heap:=h',toks:=tk})
  (B:GU c.M as σ=some (v,bx)):wpAny c.md A (call (.builtin "sorted") us) Q E s:=by
 unfold GU at B
 match as,ho,B with
 |[.ref r],ho,B=>
  obtain⟨u,rfl,a,rfl,ha⟩:=ho.inv1;simp only at B;cases p:c.M.get σ.h r with
  |list xs=>
   rw[p]at B;simp only at B;obtain⟨us,m,l1,Z,l3,_⟩:=R.list p ha;have hl:s.heap.IsList a us:=⟨_,l1,rfl,_,rfl⟩
   cases t:Hz c.M xs with
   |none=>rw[t]at B;cases B
   |some ys=>
    rw[t]at B;simp only at B;have S:xs.length<2->ys=xs->wpAny c.md A (call (.builtin "sorted") [.ref a]) Q E s:=fun hn hy=>by
     subst hy;have hz:=Z.len;have O:s.heap.IsList a us.toList.toArray:=by rw[Array.toArray_toList];exact hl
     refine Su (vs:=us.toList) (by omega) O ?_;obtain⟨⟨k,f1⟩,f2⟩:=Uo (h:=s.heap) (vs:=us.toList);obtain⟨g',T',R',F',V'⟩:=zD gd R F B (Heap.get?_none_of_le (Nat.le_succ _)) f2 f1 (by simpa using Z) l3;exact q g' _ s.toks _ T' R' F' V'
    match xs,t with
    |[],t=>cases t;exact S (by decide) rfl
    |[x],t=>cases t;exact S (uD 1) rfl
    |[x,y],t=>
     simp only[Hz]at t;obtain⟨hf,t⟩:=gZ t;rw[cY]at hf;cases pl:tV c.M.F c.M.P.sl y x with
     |none=>rw[pl]at t;cases t
     |some b=>
      rw[pl]at t;obtain⟨U,W,e,v1,v2⟩:=Z.inv2;have O:s.heap.IsList a #[U,W]:=by have:us=#[U,W]:=Array.toList_inj.mp e;rw[←this];exact hl
      refine R5 gd rm R F hf.1 hf.2 pl O v1 v2 fun D h' k nD kp oD FL=>?_
      have ne:D≠env.locals:=fun z=>by obtain⟨o,e⟩:=F.alive;rw[z,e]at nD;cases nD
      have tD:fZ c g env.locals D:=sD R F nD;have K:gh c env nm g s.heap g h' σ l:=by
       refine⟨⟨fun _ _ _ e=>e,fun _ _ e=>e,fun _ _ _ e=>.inl e,fun _ _ e=>.inl e,fun a o e=>?_,fun a o e _ Y=>kp a o e Y⟩,R.ext (L:=D) (a:=env.locals) ⟨F.own,F.tp,F.old,kQ ne⟩ fun b o hb e=>kp b o e hb,FL,F.kW⟩
       by_cases Y:a=env.locals
       ·obtain⟨o',e'⟩:=FL.alive;exact⟨o',Y▸e'⟩
       ·exact⟨o,kp a o e Y⟩
      cases b with|true=>cases t;obtain⟨I,j,J,_⟩:=K.adopt gd B tD nD oD (by exact⟨W,[U],rfl,v2,U,[],rfl,v1,rfl⟩) l3;exact q I h' s.toks _ j.T j.R j.F J|false=>cases t;obtain⟨I,j,J,_⟩:=K.adopt gd B tD nD oD (by exact⟨U,[W],rfl,v1,W,[],rfl,v2,rfl⟩) l3;exact q I h' s.toks _ j.T j.R j.F J
  |_=>rw[p]at B;cases B
end
structure Fi where
 ks:List (Str×NameKind)
 ns:List (Nat×Str)
 cd:Bool
def Fi.ko(f:Fi)(y:Str):Option NameKind:=f.ks.lookup y
def Fi.nm(f:Fi)(i:Nat):Option Str:=f.ns.lookup i
def Fi.loc(f:Fi)(y:Str):Bool:=f.ko y==some .local
def Fi.glob(f:Fi)(y:Str):Bool:=f.ko y==some .globalImplicit&&!(y==("__debug__":Str))
def Fi.isFree(f:Fi)(y:Str):Bool:=f.ko y==some .cell||f.ko y==some .free
def Vl(l:List (Nat×Str)):Bool:=l.all fun p=>!(p.2==("__debug__":Str))&&!(p.2==("__classdict__":Str))
def tE{α:Type} [BEq α]:List α->Bool
 |[]=>true
 |a::r=>!(r.any fun b=>b==a)&&tE r
def Fi.ok(f:Fi):Bool:=tE (f.ns.map (·.1))&&tE (f.ns.map (·.2))&&Vl f.ns
theorem vx{α:Type} [BEq α] [LawfulBEq α]:∀{l:List α},tE l=true->l.Nodup
 |[],_=>List.nodup_nil
 |a::r,h=>by rw[tE,cY,pI]at h;refine nN.mpr ⟨fun e=>?_,vx h.2⟩;have:(r.any fun b=>b==a)=true:=Au.mpr ⟨a,e,by simp⟩;rw[this]at h;cases h.1
theorem nG{α e:Type} [BEq α] [LawfulBEq α]:∀{l:List (α×e)}{a:α}{b:e},l.lookup a=some b->(a,b)∈l
 |[],_,_,h=>by cases h
 |(x,y)::r,a,b,h=>by rw[jT]at h;cases p:a==x with|true=>rw[p]at h;cases h;rw[dM.mp p];exact fB|false=>rw[p]at h;exact hO _ (nG h)
theorem JW{α j:Type} [BEq α] [LawfulBEq α]:∀{l:List (α×j)}{a:α}{b:j},(l.map (·.1)).Nodup->(a,b)∈l->l.lookup a=some b
 |[],_,_,_,h=>by cases h
 |(x,y)::r,a,b,e,h=>by
  rw[gf,nN]at e;rw[jT];rcases gx.mp h with h|h
  ·cases h;simp
  ·have:(a==x)=false:=by
    cases p:a==x with|false=>rfl|true=>rw[dM.mp p]at h;exact absurd (kq.mpr ⟨_,h,rfl⟩) e.1
   rw[this];exact JW e.2 h
theorem Vm{l:List (Nat×Str)}(e:(l.map (·.2)).Nodup){i j:Nat}{y:Str}(h1:(i,y)∈l)(h2:(j,y)∈l):i=j:=by
 induction l with
 |nil=>cases h1
 |cons p r o=>
  rw[gf,nN]at e;rcases gx.mp h1 with h1|h1<;>rcases gx.mp h2 with h2|h2
  ·rw[←h1]at h2;cases h2;rfl
  ·rw[←h1]at e;exact absurd (kq.mpr ⟨_,h2,rfl⟩) e.1
  ·rw[←h2]at e;exact absurd (kq.mpr ⟨_,h1,rfl⟩) e.1
  ·exact o e.2 h1 h2
section
variable{H:Type}{c:Cx H}{env:Env}
structure jw(c:Cx H)(env:Env)(f:Fi):Prop where
 kind:env.scope.kind=.function
 glob:env.globals=mainGlobals
 AV:env.builtins=builtinsNs
 ks:env.scope.names=f.ks
 ok:f.ok=true
 cells:∀y,f.isFree y=true->∃a,env.cells.lookup y=some a
 code:f.cd=true->kdsCode c.K env.code=true
theorem jw.ko{f:Fi}(x:jw c env f)(y:Str):env.kindOf y=f.ko y:=by unfold Env.kindOf Fi.ko;rw[x.ks]
theorem jw.n8{f:Fi}(x:jw c env f):jj env f.nm:=by
 have h:=x.ok;unfold Fi.ok at h;rw[cY,cY]at h;have o:∀i y,f.nm i=some y->(y==("__debug__":Str))=false/\(y==("__classdict__":Str))=false:=fun i y e=>by have:=gR.mp h.2 _ (nG e);rw[cY,pI,pI]at this;exact this
 exact{kind:=x.kind,glob:=x.glob,AV:=x.AV,inj:=fun i j y p q=>Vm (vx h.1.2) (nG p) (nG q),EP:=fun i y e=>(o i y e).1,OS:=fun i y e=>(o i y e).2}
theorem jw.loc{f:Fi}(x:jw c env f)(y:Str)(h:f.loc y=true):env.kindOf y=some .local:=by rw[x.ko];unfold Fi.loc at h;exact dM.mp h
theorem jw.uJ{f:Fi}(x:jw c env f){y:Str}(h:f.glob y=true):env.kindOf y=some .globalImplicit/\(y==("__debug__":Str))=false:=by unfold Fi.glob at h;rw[cY,pI]at h;exact⟨by rw[x.ko];exact dM.mp h.1,h.2⟩
def C6(ko:Str->Option NameKind)(l:List (Str×NameKind)):List (Str×NameKind):=l.map fun p=>bif p.2==.free&&ko p.1==some .cell then(p.1,.cell)else p
def NG:List Tg->List Expr->List (Nat×Str)
 |t::ts,e::es=>match t with
  |.nm i=>match e with|.Name y _=>(i,y)::NG ts es|_=>[]
  |_=>[]
 |_,_=>[]
def OT(t:Tg)(e:Expr):List (Nat×Str):=match t with
 |.nm i=>match e with|.Name y _=>[(i,y)]|_=>[]
 |.tp ts=>match e with|.Tuple es _ _=>NG ts es|_=>[]
def IT(i:Nat)(l:List Nat):Bool:=l.any (Nat.beq i)
def Fi.keep(f:Fi)(e:Scope)(t:Tg):List (Nat×Str):=f.ns.filter fun p=>e.names.lookup p.2==some .free&&!(IT p.1 (kU t))
def Fi.sub(f:Fi)(j:Scope)(t:Tg)(e:Expr):Fi:=⟨C6 f.ko j.names,OT t e++f.keep j t,f.cd⟩
def GX(sc:Scope):Bool:=sc.kind==.function&&sc.names.all fun p=>!(p.2==.cell)&&(!(p.2==.local)||sc.names.lookup p.1==some .local)
def Fi.AA(f:Fi)(j:Scope)(t:Tg)(e:Expr):Bool:=GX j&&(f.sub j t e).ok&&pR (f.sub j t e).nm (f.sub j t e).loc t e&&(OT t e).all (fun p=>IT p.1 (kU t))&&
 (f.keep j t).all (fun p=>(f.sub j t e).isFree p.2&&f.isFree p.2)&&j.names.all fun p=>!(p.2==.free)||f.isFree p.1
theorem Gb{o:Scope}(h:GX o=true):Dw o:=by
 unfold GX at h;rw[cY]at h;have k:=gR.mp h.2;refine⟨dM.mp h.1,fun x j e=>?_,fun x j e=>?_⟩
 ·have:=k x j;rw[e]at this;simp at this
 ·have:=k x j;rw[e]at this;simpa using this
theorem GK{cells:List (Str×Addr)}:∀(ns:List (Str×NameKind))(cs:List (Str×Addr)),(∀p∈ns,p.2=.free->∃a,cells.lookup p.1=some a)->
  ∃cl,ku cells ns cs=some cl/\(∀y,(y,NameKind.free)∈ns->cl.lookup y=cells.lookup y)/\∀y,(y,NameKind.free)∉ns->cl.lookup y=cs.lookup y
 |[],cs,_=>⟨cs,rfl,(fun y h=>by simp at h),fun _ _=>rfl⟩
 |(n,k)::r,cs,h=>by
  have hr:∀p∈r,p.2=.free->∃a,cells.lookup p.1=some a:=fun p hp=>h p (hO _ hp)
  have e:k≠ .free->ku cells ((n,k)::r) cs=ku cells r cs:=fun hk=>by cases k<;>first|rfl|exact absurd rfl hk
  by_cases hk:k=.free
  ·subst hk;obtain⟨a,ha⟩:=h (n,.free) fB rfl;obtain⟨cl,o,q,j⟩:=GK r ((n,a)::cs) hr;refine⟨cl,by simp only[ku];rw[ha];exact o,fun y hy=>?_,fun y hy=>?_⟩
   ·by_cases t:(y,NameKind.free)∈r
    ·exact q y t
    ·rcases gx.mp hy with hy|hy
     ·cases hy;rw[j _ t,jT,vR,ha]
     ·exact absurd hy t
   ·rw[gx,not_or]at hy;rw[j y hy.2,jT];have:(y==n)=false:=by
     cases p:y==n with|false=>rfl|true=>rw[dM.mp p]at hy;exact absurd rfl hy.1
    rw[this]
  ·obtain⟨cl,o,q,j⟩:=GK r cs hr;refine⟨cl,by rw[e hk];exact o,fun y hy=>?_,fun y hy=>j y fun z=>hy (hO _ z)⟩;rcases gx.mp hy with hy|hy
   ·cases hy;exact absurd rfl hk
   ·exact q y hy
theorem RE{f:Fi}(x:jw c env f){j:Scope}:(relabel j env).names=C6 f.ko j.names:=by
 unfold relabel C6;show j.names.map _=j.names.map _
 refine List.map_congr_left fun p _=>?_
 have e:(env.scope.kind==ScopeKind.function)=true:=by rw[x.kind];rfl
 show(if(p.2==.free&&env.scope.kind==.function&&env.kindOf p.1==some .cell)=true then(p.1,NameKind.cell)else(p.1,p.2))=_
 rw[e,x.ko,tL];cases(p.2==NameKind.free&&f.ko p.1==some NameKind.cell)<;>rfl
theorem J2{ko:Str->Option NameKind}{l:List (Str×NameKind)}(j:∀p∈l,p.2≠ .cell){y:Str}{k:NameKind}(h:(C6 ko l).lookup y=some k)(hk:k=.cell∨k=.free):(y,NameKind.free)∈l:=by
 obtain⟨p,hp,e⟩:=kq.mp (nG h);cases z:(p.2==NameKind.free&&ko p.1==some NameKind.cell)with
 |true=>rw[z]at e;rw[cY]at z;cases e;obtain⟨a,b⟩:=p;have:b=.free:=dM.mp z.1;subst this;exact hp
 |false=>
  rw[z]at e;have e:p=(y,k):=e;subst e;rcases hk with rfl|rfl
  ·exact absurd rfl (j _ hp)
  ·exact hp
theorem jw.sub{f:Fi}(x:jw c env f){o:Scope}{t:Tg}{e:Expr}(h:f.AA o t e=true):∃cl,ku env.cells o.names []=some cl/\(∀C,jw c (compEnvC o cl C env) (f.sub o t e))/\
  (∀C i y,but (f.sub o t e).nm (kU t) i=some y->f.nm i=some y/\((compEnvC o cl C env).kindOf y=some .cell∨(compEnvC o cl C env).kindOf y=some .free)/\cl.lookup y=env.cells.lookup y/\env.kindOf y≠some .local):=by
 unfold Fi.AA at h;simp only[cY]at h;obtain⟨⟨⟨⟨⟨S,U⟩,h3⟩,W⟩,Y⟩,Z⟩:=h;have ok:=Gb S;have K:∀p∈o.names,p.2=.free->∃a,env.cells.lookup p.1=some a:=fun p hp e=>by have:=gR.mp Z p hp;rw[e]at this;exact x.cells p.1 (by simpa using this)
 obtain⟨cl,c1,c2,c3⟩:=GK o.names [] K;have sub:∀C,jw c (compEnvC o cl C env) (f.sub o t e):=fun C=>⟨ok.kind,x.glob,x.AV,RE x,U,fun y hy=>by
  have hm:(y,NameKind.free)∈o.names:=by
   unfold Fi.isFree at hy;rw[m7,dM,dM]at hy;rcases hy with hy|hy
   ·exact J2 ok.cell hy (.inl rfl)
   ·exact J2 ok.cell hy (.inr rfl)
  show∃a,cl.lookup y=some a
  rw[c2 y hm]
  exact K _ hm rfl,x.code⟩
 refine⟨cl,c1,sub,fun C i y hy=>?_⟩;obtain⟨B,I⟩:=zK hy;have hm:=nG B;have z:(i,y)∈f.keep o t:=by
  rcases pJ.mp hm with hm|hm
  ·have:=gR.mp W _ hm;unfold IT at this;obtain⟨j,hj,J⟩:=Au.mp this;have e:i=j:=gc.mp J;exact absurd (e▸hj) I
  ·exact hm
 have k5:=gR.mp Y _ z;rw[cY]at k5;obtain⟨m1,O⟩:=vT.mp z;rw[cY,dM]at O;have hf:=nG O.1;have q:=x.ok;unfold Fi.ok at q;rw[cY,cY]at q;refine⟨JW (vx q.1.1) m1,?_,c2 y hf,?_⟩
 ·rw[(sub C).ko];have:=k5.1;unfold Fi.isFree at this;rw[m7,dM,dM]at this;exact this
 ·rw[x.ko];have:=k5.2;unfold Fi.isFree at this;rw[m7,dM,dM]at this;rcases this with h|h<;>(show f.ko y≠_)<;>(have h:f.ko y=_:=h)<;>rw[h]<;>simp
end
structure lS where
 wd:List Str
 fd:List Str
 fn:List (Nat×Str)
 cl:List Str
 gl:List Str
 md:List (Nat×Str)
structure ye{H:Type}(c:Cx H)(T:lS):Prop where
 wd:∀(k:Nat) t,T.wd[k]?=some t->c.N.tab k=t
 fd:∀(k:Nat) t,T.fd[k]?=some t->c.N.fd k=t
 fn:∀(i:Nat) x,T.fn.lookup i=some x->c.N.gl x=some (.ref (c.N.fa i))/\keepIn c.K (.ref (c.N.fa i))=true
 cl:∀(i:Nat) x,T.cl[i]?=some x->c.N.gl x=some (.ref (c.N.cl i))
 gl:∀(j:Nat) x,T.gl[j]?=some x->c.N.gn j=x/\c.M.P.gv j≠ .no
 md:∀(m:Nat) x,T.md.lookup m=some x->x=Bu c.N m
 bn:∀b,b<7->b≠2->c.N.gl (IQ b)=some (wj b)
 rg:c.N.gl "range"=some (.type "range")
 en:c.N.gl "enumerate"=some (.type "enumerate")
 me:∀i m f,c.M.P.me i m=some f->yc m=none/\keepIn c.K (.ref (c.N.fa f))=true
def NH(T:lS)(v:V)(u:Const):Bool:=match v with
 |.none=>(match u with|.none=>true|_=>false)
 |.bool b=>(match u with|.bool e=>b==e|_=>false)
 |.int z=>(match z with
  |.l i=>(match u with|.int j=>i==j|_=>false)
  |.y _ _=>false)
 |.str k=>(match u with|.str t=>T.wd[k]?==some t|_=>false)
 |_=>false
def GY:E->Bool
 |.c v=>(match v with|.none=>true|_=>false)
 |_=>false
def Dx:List Keyword->Bool
 |[]=>true
 |_::_=>false
def DP(es:List Expr):Bool:=es.all jd&&Nat.blt es.length 20
def nQ:Expr->Option (Str×List Expr)
 |.Call (.Name x _) es ks _=>bif Dx ks&&DP es then some (x,es)else none
 |_=>none
def DQ:Expr->Option (Expr×Str×List Expr)
 |.Call (.Attribute o x e) es ks pos=>bif Dx ks&&DP es&&vH o&&e.endLine==pos.line then some (o,x,es)else none
 |_=>none
def De(f:Fi)(x:Expr):Option (List Expr):=match nQ x with
 |some (y,es)=>bif y==("list":Str)&&f.glob y then(match es with
  |[r]=>(match nQ r with
   |some (z,as)=>bif z==("range":Str)&&f.glob z then some as else none
   |none=>none)
  |_=>none)else none
 |none=>none
def AB:Expr->Option (Expr×Expr×Expr×List Expr×Scope×Pos)
 |.ListComp j [⟨e,iter,o,n⟩] p pos=>bif n==0&&Dv iter then some (j,e,iter,o,p,pos)else none
 |_=>none
mutual
def ed(T:lS):E->Fi->Expr->Bool
 |.c v,_,x=>match x with|.Constant u _ _=>NH T v u|_=>false
 |.l i,f,x=>match x with|.Name y _=>f.nm i==some y|_=>false
 |.gl j,f,x=>match x with|.Name y _=>T.gl[j]?==some y&&f.glob y|_=>false
 |.at e i,f,x=>match x with|.Attribute a y _=>T.fd[i]?==some y&&vH a&&ed T e f a|_=>false
 |.ix e i,f,x=>match x with|.Subscript a b _=>ed T e f a&&ed T i f b|_=>false
 |.sl e lo hi,f,x=>match x with|.Subscript a (.Slice l h none _) _=>ed T e f a&&(match l with|none=>GY lo|some l=>ed T lo f l)&&(match h with|none=>GY hi|some h=>ed T hi f h)|_=>false
 |.rv e,f,x=>match x with|.Subscript a (.Slice none none (some (.UnaryOp .USub (.Constant (.int i) _ _) _)) _) _=>i==1&&ed T e f a|_=>false
 |.bi o a b,f,x=>match x with|.BinOp u op v _=>op==ER o&&ed T a f u&&ed T b f v|_=>false
 |.ng a,f,x=>match x with|.UnaryOp .USub u _=>ed T a f u|_=>false
 |.nt a,f,x=>match x with|.UnaryOp .Not u _=>ed T a f u|_=>false
 |.an es,f,x=>match x with|.BoolOp .And us _=>rj T es f us|_=>false
 |.or es,f,x=>match x with|.BoolOp .Or us _=>rj T es f us|_=>false
 |.cm o a b,f,x=>match x with|.Compare u [op] [v] _=>op==ES o&&!(behindInMarks op v)&&ed T a f u&&ed T b f v|_=>false
 |.ie t a b,f,x=>match x with|.IfExp u v w _=>ed T t f u&&ed T a f v&&ed T b f w|_=>false
 |.tu es,f,x=>match x with|.Tuple us _ _=>Nat.ble us.length 1000&&us.all jd&&rj T es f us|_=>false
 |.li _ es,f,x=>match x with|.List us _=>Nat.ble us.length 1000&&us.all jd&&rj T es f us|_=>false
 |.d0 _,_,x=>match x with|.Dict [] [] _=>true|_=>false
 |.se e,f,x=>match x with|.Set [u] k _=>k==0&&jd u&&f.cd&&ed T e f u|_=>false
 |.cf i es,f,x=>match nQ x with|some (y,us)=>T.fn.lookup i==some y&&f.glob y&&rj T es f us|none=>false
 |.ck i _ es,f,x=>match nQ x with|some (y,us)=>T.cl[i]?==some y&&f.glob y&&rj T es f us|none=>false
 |.cb b es,f,x=>bif Nat.beq b 2 then(match De f x with
   |some us=>rj T es f us
   |none=>false)else(match nQ x with
  |some (y,us)=>y==IQ b&&Nat.blt b 7&&f.glob y&&rj T es f us
  |none=>false)
 |.me e m es,f,x=>match DQ x with|some (o,y,us)=>T.md.lookup m==some y&&ed T e f o&&rj T es f us|none=>false
 |.lc b t i q,f,x=>match AB x with|some (z,p,iter,B,I,_)=>f.AA I t p&&ed T b (f.sub I t p) z&&ed T i f iter&&Ig T q (f.sub I t p) B|none=>false
termination_by structural e=>e
def rj(T:lS):List E->Fi->List Expr->Bool
 |[],_,us=>match us with|[]=>true|_::_=>false
 |e::es,f,us=>match us with|[]=>false|u::us=>ed T e f u&&rj T es f us
termination_by structural e=>e
def Ig(T:lS):Option E->Fi->List Expr->Bool
 |.none,_,us=>match us with|[]=>true|_::_=>false
 |some e,f,us=>match us with|[u]=>ed T e f u|_=>false
termination_by structural e=>e
end
theorem vD{x:Expr}{y:Str}{us:List Expr}(h:nQ x=some (y,us)):∃p pos,x=.Call (.Name y p) us [] pos/\us.all jd=true/\us.length<20:=by
 unfold nQ at h;split at h
 ·obtain⟨e,j⟩:=gZ h;cases j;rw[cY]at e;unfold DP at e;rw[cY,mD]at e;rename_i ks pos;cases ks with|nil=>exact⟨_,_,rfl,e.2.1,e.2.2⟩|cons=>exact absurd e.1 (by simp[Dx])
 ·cases h
theorem Tf{x o:Expr}{y:Str}{us:List Expr}(h:DQ x=some (o,y,us)):∃j pos,x=.Call (.Attribute o y j) us [] pos/\us.all jd=true/\us.length<20/\vH o=true/\(j.endLine==pos.line)=true:=by
 unfold DQ at h;split at h
 ·obtain⟨e,p⟩:=gZ h;cases p;rw[cY,cY,cY]at e;unfold DP at e;rw[cY,mD]at e;rename_i ks pos;cases ks with|nil=>exact⟨_,_,rfl,e.1.1.2.1,e.1.1.2.2,e.1.2,e.2⟩|cons=>exact absurd e.1.1.1 (by simp[Dx])
 ·cases h
theorem R6{f:Fi}{x:Expr}{us:List Expr}(h:De f x=some us):∃p t pos e,x=.Call (.Name "list" p) [.Call (.Name "range" t) us [] e] [] pos/\us.all jd=true/\f.glob "list"=true/\f.glob "range"=true:=by
 unfold De at h;cases p:nQ x with
 |none=>rw[p]at h;cases h
 |some r=>
  obtain⟨y,es⟩:=r;rw[p]at h;simp only at h;obtain⟨j,k⟩:=gZ h;rw[cY,dM]at j;obtain⟨rfl,j⟩:=j;obtain⟨J,pos,rfl,_,_⟩:=vD p
  match es,k with
  |[r],k=>simp only at k;cases q:nQ r with|none=>rw[q]at k;cases k|some B=>obtain⟨z,as⟩:=B;rw[q]at k;simp only at k;obtain⟨o,k2⟩:=gZ k;cases k2;rw[cY,dM]at o;obtain⟨rfl,o⟩:=o;obtain⟨t,e,rfl,I,_⟩:=vD q;exact⟨_,_,_,_,rfl,I,j,o⟩
theorem KZ{x j e iter:Expr}{o:List Expr}{q:Scope}{pos:Pos}(h:AB x=some (j,e,iter,o,q,pos)):x=.ListComp j [⟨e,iter,o,0⟩] q pos/\Dv iter=true:=by
 unfold AB at h;split at h
 ·obtain⟨p,t⟩:=gZ h;cases t;rw[cY,dM]at p;obtain⟨rfl,p⟩:=p;exact⟨rfl,p⟩
 ·cases h
theorem FX{iter:Expr}(h:Dv iter=true)(env:Env)(v:Value):foldedSetIterable iter env v=pure v:=by cases iter<;>first|(cases h;done)|rfl
theorem dx{a b:Bool}(h:(a&&b)=true):a=true/\b=true:=by rwa[cY]at h
section
variable{H:Type}{c:Cx H}{A:Around}
theorem Rm.less{n:Nat}(r:Rm A (n+1)):Rm A n:=⟨r.hd,by have:=r.dp;omega,by have:=r.un;omega⟩
theorem Sv{T:lS}(tk:ye c T){v:V}{u:Const}(h:NH T v u=true)(env:Env)(nm:Nat->Option Str)(k:Nat)(pos:Pos):dv c A env nm (.Constant u k pos) (xC v):=by
 cases v with
 |none=>cases u<;>first|(cases h;done)|exact TR _ _
 |bool b=>cases u<;>first|(cases h;done)|(have e:=dM.mp h;subst e;exact TS _ _ _)
 |int z=>cases z with
  |l i=>cases u<;>first|(cases h;done)|(have e:=dM.mp h;subst e;exact LR _ _ _)
  |y=>cases h
 |str j=>cases u<;>first|(cases h;done)|(exact U1 _ _ _ _ (tk.wd _ _ (dM.mp h)))
 |_=>cases h
theorem K0{T:lS}{e:E}{C:CH H}(h:GY e=true)(env:Env)(nm:Nat->Option Str):AW c A env nm none (b9 c.M C e):=by
 cases e with
 |c v=>cases v<;>first|(cases h;done)|exact S2
 |_=>cases h
def OU(c:Cx H)(A:Around)(C:CH H)(env:Env)(nm:Nat->Option Str)(e:E)(x:Expr):Prop:=dv c A env nm x (b9 c.M C e)/\nf c A env nm x (xB c.M (b9 c.M C e))
structure aaw(c:Cx H)(A:Around)(C:CH H)(env:Env)(nm:Nat->Option Str)(es:List E)(us:List Expr):Prop where
 l:us.all jd=true->qy c A env nm us (dA c.M C es)
 an:us≠[]->uQ c A env nm .And us (AR c.M C es)/\uP c A env nm .And us (xB c.M (AR c.M C es))
 or:us≠[]->uQ c A env nm .Or us (AS c.M C es)/\uP c A env nm .Or us (xB c.M (AS c.M C es))
variable(gd:Gd c){T:lS}(tk:ye c T){n:Nat}(rm:Rm A (n+1)){C:CH H}(hC:uO c n C)
theorem lI(gd:Gd c){env:Env}{nm:Nat->Option Str}{e:E}{x:Expr}(hp:Gm x=true)(h:dv c A env nm x (b9 c.M C e)):OU c A C env nm e x:=⟨h,U6 gd hp h⟩
include gd tk rm hC
mutual
theorem fF:∀(e:E)(f:Fi)(x:Expr),ed T e f x=true->∀env,jw c env f->OU c A C env f.nm e x
 |.c v,f,x,h,env,fo=>by cases x with|Constant u k pos=>exact lI gd rfl (Sv tk h env f.nm k pos)|_=>cases h
 |.l i,f,x,h,env,fo=>by cases x with|Name y pos=>exact lI gd rfl (SO fo.n8 i y pos (dM.mp h))|_=>cases h
 |.gl j,f,x,h,env,fo=>by cases x with|Name y pos=>obtain⟨B,I⟩:=dx h;obtain⟨g1,g2⟩:=tk.gl _ _ (dM.mp B);obtain⟨Z,g4⟩:=fo.uJ I;exact lI gd rfl (Uh gd fo.n8 j pos g1.symm g2 Z g4)|_=>cases h
 |.at e i,f,x,h,env,fo=>by cases x with|Attribute a y pos=>obtain⟨B,I⟩:=dx h;obtain⟨h0,B⟩:=dx B;exact lI gd rfl (Wp gd pos (tk.fd _ _ (dM.mp h0)).symm B (fF e f a I env fo).1)|_=>cases h
 |.ix e i,f,x,h,env,fo=>by cases x with|Subscript a b pos=>obtain⟨B,I⟩:=dx h;exact lI gd rfl (Wm gd (by have:=rm.un;omega) pos (fF e f a B env fo).1 (fF i f b I env fo).1)|_=>cases h
 |.sl e lo hi,f,x,h,env,fo=>by
  unfold ed at h;split at h
  ·rename_i a l r p pos;obtain⟨B,J⟩:=dx h;obtain⟨B,I⟩:=dx B;refine lI gd rfl (Wn gd p pos (fF e f a B env fo).1 ?_ ?_)
   ·cases l with|none=>exact K0 (T:=T) I env f.nm|some l=>exact Gk (fF lo f l I env fo).1
   ·cases r with|none=>exact K0 (T:=T) J env f.nm|some r=>exact Gk (fF hi f r J env fo).1
  ·cases h
 |.rv e,f,x,h,env,fo=>by
  unfold ed at h;split at h
  ·obtain⟨B,I⟩:=dx h;have e1:=dM.mp B;subst e1;exact lI gd rfl (Wo gd _ _ _ _ _ (fF e f _ I env fo).1)
  ·cases h
 |.bi o a b,f,x,h,env,fo=>by cases x with|BinOp u op v pos=>obtain⟨B,J⟩:=dx h;obtain⟨B,I⟩:=dx B;exact lI gd rfl (U3 gd op pos (dM.mp B) (fF a f u I env fo).1 (fF b f v J env fo).1)|_=>cases h
 |.ng a,f,x,h,env,fo=>by
  unfold ed at h;split at h
  ·exact lI gd rfl (LU _ (fF a f _ h env fo).1)
  ·cases h
 |.nt a,f,x,h,env,fo=>by
  unfold ed at h;split at h
  ·have k:=fF a f _ h env fo;exact⟨U8 gd _ k.1,U9 _ k.2⟩
  ·cases h
 |.an es,f,x,h,env,fo=>by
  unfold ed at h;split at h
  ·rename_i us pos;cases us with
   |nil=>cases es with|nil=>exact⟨fun Q E s g σ l v bx R F U=>(by cases U),fun Q E s g σ l v bx R F U=>(by cases U)⟩|cons=>cases h
   |cons u us=>have k:=(rG es f _ h env fo).an (by simp);exact⟨KV _ k.1,KU _ k.2⟩
  ·cases h
 |.or es,f,x,h,env,fo=>by
  unfold ed at h;split at h
  ·rename_i us pos;cases us with
   |nil=>cases es with|nil=>exact⟨fun Q E s g σ l v bx R F U=>(by cases U),fun Q E s g σ l v bx R F U=>(by cases U)⟩|cons=>cases h
   |cons u us=>have k:=(rG es f _ h env fo).or (by simp);exact⟨KV _ k.1,KU _ k.2⟩
  ·cases h
 |.cm o a b,f,x,h,env,fo=>by
  unfold ed at h;split at h
  ·obtain⟨B,h4⟩:=dx h;obtain⟨B,J⟩:=dx B;obtain⟨B,I⟩:=dx B;rw[pI]at I;have k1:=(fF a f _ J env fo).1;have k2:=(fF b f _ h4 env fo).1;exact⟨Ww gd rm _ _ (dM.mp B) I k1 k2,U7 gd rm _ _ (dM.mp B) I k1 k2⟩
  ·cases h
 |.ie t a b,f,x,h,env,fo=>by cases x with|IfExp u v w pos=>obtain⟨B,J⟩:=dx h;obtain⟨B,I⟩:=dx B;have k1:=fF t f u B env fo;have k2:=fF a f v I env fo;have k3:=fF b f w J env fo;exact⟨Va _ k1.2 k2.1 k3.1,Vb _ k1.2 k2.2 k3.2⟩|_=>cases h
 |.tu es,f,x,h,env,fo=>by cases x with|Tuple us k pos=>obtain⟨B,J⟩:=dx h;obtain⟨B,I⟩:=dx B;exact lI gd rfl (SP k pos (nU B) ((rG es f us J env fo).l I))|_=>cases h
 |.li s es,f,x,h,env,fo=>by cases x with|List us pos=>obtain⟨B,J⟩:=dx h;obtain⟨B,I⟩:=dx B;exact lI gd rfl (TV gd s pos (nU B) ((rG es f us J env fo).l I))|_=>cases h
 |.d0 s,f,x,h,env,fo=>by
  unfold ed at h;split at h
  ·exact lI gd rfl (Wx gd s _)
  ·cases h
 |.se e,f,x,h,env,fo=>by
  unfold ed at h;split at h
  ·obtain⟨B,J⟩:=dx h;obtain⟨B,h4⟩:=dx B;obtain⟨B,I⟩:=dx B;have e1:=dM.mp B;subst e1;exact lI gd rfl (WQ gd (fo.code h4) I (fF e f _ J env fo).1)
  ·cases h
 |.cf i es,f,x,h,env,fo=>by unfold ed at h;cases p:nQ x with|none=>rw[p]at h;cases h|some r=>obtain⟨y,us⟩:=r;rw[p]at h;simp only at h;obtain⟨B,J⟩:=dx h;obtain⟨B,I⟩:=dx B;obtain⟨p1,pos,rfl,K,i2⟩:=vD p;obtain⟨g1,g2⟩:=tk.fn _ _ (dM.mp B);obtain⟨Z,g4⟩:=fo.uJ I;exact lI gd rfl (Wq gd fo.n8 rm.less hC i p1 pos g1 g2 Z g4 K ((rG es f us J env fo).l K))
 |.ck i s es,f,x,h,env,fo=>by unfold ed at h;cases p:nQ x with|none=>rw[p]at h;cases h|some r=>obtain⟨y,us⟩:=r;rw[p]at h;simp only at h;obtain⟨B,J⟩:=dx h;obtain⟨B,I⟩:=dx B;obtain⟨p1,pos,rfl,K,i2⟩:=vD p;obtain⟨Z,g4⟩:=fo.uJ I;exact lI gd rfl (Wv gd fo.n8 rm hC i s p1 pos (tk.cl _ _ (dM.mp B)) Z g4 K ((rG es f us J env fo).l K))
 |.cb b es,f,x,h,env,fo=>by
  unfold ed at h;cases hb:Nat.beq b 2 with
  |true=>rw[hb]at h;have e1:=gc.mp hb;subst e1;simp only[gG]at h;cases p:De f x with|none=>rw[p]at h;cases h|some us=>rw[p]at h;obtain⟨p1,p2,pos,aa,rfl,K,i2,i3⟩:=R6 p;exact lI gd rfl (Wu gd fo.n8 rm p1 p2 pos aa (tk.bn 1 (by decide) (by decide)) tk.rg (fo.uJ i2).1 (fo.uJ i3).1 K ((rG es f us h env fo).l K))
  |false=>
   rw[hb]at h;have e2:b≠2:=fun z=>by subst z;cases hb
   simp only[jg]at h;cases p:nQ x with
   |none=>rw[p]at h;cases h
   |some r=>
    obtain⟨y,us⟩:=r;rw[p]at h;simp only at h;obtain⟨B,h4⟩:=dx h;obtain⟨B,J⟩:=dx B;obtain⟨B,I⟩:=dx B;obtain⟨p1,pos,rfl,K,i2⟩:=vD p;obtain⟨Z,g4⟩:=fo.uJ J;have e1:=dM.mp B;rw[mD]at I;have hg:=tk.bn b I e2;rw[←e1]at hg;have kl:=(rG es f us h4 env fo).l K
    by_cases e3:b=3
    ·subst e3;exact lI gd rfl (LX gd fo.n8 3 p1 pos hg Z g4 K kl fun _ _ _ _ _ _ _ _ _ _ R F ho U q=>RD gd rm R F ho q U)
    ·exact lI gd rfl (Wr gd fo.n8 rm b p1 pos e3 e2 hg Z g4 K kl)
 |.me e m es,f,x,h,env,fo=>by unfold ed at h;cases p:DQ x with|none=>rw[p]at h;cases h|some r=>obtain⟨o,y,us⟩:=r;rw[p]at h;simp only at h;obtain⟨B,J⟩:=dx h;obtain⟨B,I⟩:=dx B;obtain⟨ap,pos,rfl,K,i2,i3,i4⟩:=Tf p;exact lI gd rfl (Wt gd rm.less hC m ap pos (tk.md _ _ (dM.mp B)) (fun i f hf=>(tk.me i m f hf).1) (fun i f hf=>(tk.me i m f hf).2) i3 K i2 i4 (fF e f o I env fo).1 ((rG es f us J env fo).l K))
 |.lc b t i q,f,x,h,env,fo=>by
  unfold ed at h;cases p:AB x with
  |none=>rw[p]at h;cases h
  |some r=>
   obtain⟨ab,W,iter,ae,sc,pos⟩:=r;rw[p]at h;simp only at h;obtain⟨B,h4⟩:=dx h;obtain⟨B,J⟩:=dx B;obtain⟨B,I⟩:=dx B;obtain⟨rfl,af⟩:=KZ p;obtain⟨cl,c1,c2,c3⟩:=fo.sub B;have Y:=B;unfold Fi.AA at Y;simp only[cY]at Y;have one:∀S O,ku env.cells sc.names []=some O->jw c (compEnvC sc O S env) (f.sub sc t W):=fun S O e=>by rw[c1]at e;cases e;exact c2 S
   exact lI gd rfl (WN gd rm.hd (Gb Y.1.1.1.1.1) (FX af env) ⟨cl,c1,fun S=>(c2 S).n8,fun S y hy=>(c2 S).loc y hy,c3⟩ Y.1.1.1.2
    (fun S O e=>(fF b _ ab I _ (one S O e)).1) (fun S O e=>KC q _ ae h4 _ (one S O e)) (fF i f iter J env fo).1)
termination_by structural e=>e
theorem rG:∀(es:List E)(f:Fi)(us:List Expr),rj T es f us=true->∀env,jw c env f->aaw c A C env f.nm es us
 |[],f,us,h,env,fo=>by cases us with|nil=>exact⟨fun _=>U2,fun z=>absurd rfl z,fun z=>absurd rfl z⟩|cons=>cases h
 |e::es,f,us,h,env,fo=>by
  cases us with
  |nil=>cases h
  |cons u us=>
   obtain⟨q,j⟩:=dx h;have k1:=fF e f u q env fo;have k2:=rG es f us j env fo;refine⟨fun o=>?_,fun _=>?_,fun _=>?_⟩
   ·rw[xX,cY]at o;exact TU o.1 k1.1 (k2.l o.2)
   ·cases us with
    |nil=>cases es with|nil=>exact⟨Lk _ k1.1,Lj _ k1.2⟩|cons=>cases j
    |cons t us=>cases es with|nil=>cases j|cons x es=>obtain⟨a1,p⟩:=k2.an (by simp);exact⟨Ve gd k1.1 a1,Vc k1.2 p⟩
   ·cases us with
    |nil=>cases es with|nil=>exact⟨Lk _ k1.1,Lj _ k1.2⟩|cons=>cases j
    |cons t us=>cases es with|nil=>cases j|cons x es=>obtain⟨a1,p⟩:=k2.or (by simp);exact⟨Vf gd k1.1 a1,Vd k1.2 p⟩
termination_by structural e=>e
theorem KC:∀(q:Option E)(f:Fi)(us:List Expr),Ig T q f us=true->∀env,jw c env f->ym c A env f.nm us (IL c.M C q)
 |.none,f,us,h,env,fo=>by cases us with|nil=>rfl|cons=>cases h
 |some e,f,us,h,env,fo=>by
  unfold Ig at h;split at h
  ·exact⟨_,rfl,(fF e f _ h env fo).2⟩
  ·cases h
termination_by structural e=>e
end
end
def yf:List Ta->Option (List Nat)
 |[]=>some []
 |.nm i::r=>match yf r with|some l=>some (i::l)|none=>none
 |.at _ _::_=>none
def DR(T:lS)(f:Fi):List Ta->List Expr->Bool
 |[],[]=>true
 |.nm i::ts,e::es=>vb f.nm f.loc i e&&DR T f ts es
 |.at o fi::ts,e::es=>(match e with
  |.Attribute x y _=>T.fd[fi]?==some y&&ed T o f x
  |_=>false)&&DR T f ts es
 |_,_=>false
def HE(f:Fi):List Nat->List Str->Bool
 |[],[]=>true
 |i::is,y::ys=>f.nm i==some y&&f.loc y&&HE f is ys
 |_,_=>false
def WR:E->Bool
 |.c v=>(match v with|.none=>true|_=>false)
 |_=>false
def Ed(T:lS)(f:Fi)(j:Expr)(r:Sr)(x:Expr):Bool:=match r with
 |.ex e=>ed T e f x
 |.rg es=>match nQ x with|some (y,us)=>y==("range":Str)&&f.glob y&&rj T es f us|none=>false
 |.en e=>match nQ x with
  |some (y,us)=>y==("enumerate":Str)&&f.glob y&&tM j&&(match us with
   |[u]=>jd u&&ed T e f u
   |_=>false)
  |none=>false
def HF(T:lS)(f:Fi)(i:Nat)(e:E)(j x:Expr):Bool:=vb f.nm f.loc i j&&(match e with
 |.lc _ _ _ _=>ed T e f x&&(match x with
  |.ListComp _ _ o pos=>(match j with
   |.Name y p=>DO o y p pos
   |_=>false)
  |_=>false)
 |_=>oE x&&ed T e f x)
def HG(T:lS)(f:Fi)(ts:List Ta)(es:List Expr)(x:Expr):Bool:=match yd f.ko es x with
 |some none=>DR T f ts es
 |some (some ys)=>(match yf ts with
  |some is=>HE f is ys&&tE is&&(Nat.beq is.length 2||Nat.beq is.length 3)
  |none=>false)
 |none=>false
mutual
def pN(T:lS)(f:Fi):S->Stmt->Bool
 |.as i e,s=>match s with|.Assign [p] x _=>HF T f i e p x|_=>false
 |.aa o fi e,s=>match s with|.Assign [.Attribute x y _] v _=>T.fd[fi]?==some y&&oE v&&ed T o f x&&ed T e f v|_=>false
 |.ai o i e,s=>match s with|.Assign [.Subscript x j _] v _=>oE v&&ed T o f x&&ed T i f j&&ed T e f v|_=>false
 |.tp ts e,s=>match s with|.Assign [.Tuple es _ _] v _=>oE v&&ed T e f v&&HG T f ts es v|_=>false
 |.ga o fi e,s=>match s with|.AugAssign (.Attribute x y _) .Add v _=>T.fd[fi]?==some y&&ed T o f x&&ed T e f v|_=>false
 |.gi o i e,s=>match s with|.AugAssign (.Subscript x j _) .Add v _=>GJ j&&ed T o f x&&ed T i f j&&ed T e f v|_=>false
 |.ex e,s=>match s with|.Expr x _=>oE x&&ed T e f x|_=>false
 |.if t a b,s=>match s with|.If x u v _=>ed T t f x&&uT T f a u&&uT T f b v|_=>false
 |.wh t b,s=>match s with|.While x u [] _=>ed T t f x&&uT T f b u|_=>false
 |.fo t r b,s=>match s with|.For p x u [] _=>pR f.nm f.loc t p&&Dv x&&Ed T f p r x&&uT T f b u|_=>false
 |.rt e,s=>match s with
  |.Return x _=>(match x with
   |none=>WR e
   |some x=>ed T e f x)
  |_=>false
 |.co,s=>match s with|.Continue _=>true|_=>false
termination_by structural e=>e
def uT(T:lS)(f:Fi):List S->List Stmt->Bool
 |[],us=>match us with|[]=>true|_::_=>false
 |s::j,us=>match us with|[]=>false|u::us=>pN T f s u&&uT T f j us
termination_by structural e=>e
end
section
variable{H:Type}{c:Cx H}{A:Around}(gd:Gd c){T:lS}(tk:ye c T){n:Nat}(rm:Rm A (n+1)){C:CH H}(hC:uO c n C)
theorem Lm{C:CH H}:∀{ts:List Ta}{is:List Nat},yf ts=some is->pP c.M C ts=oL is
 |[],is,h=>by cases h;rfl
 |.nm i::r,is,h=>by simp only[yf]at h;cases p:yf r with|none=>rw[p]at h;cases h|some l=>rw[p]at h;cases h;simp only[pP,oL];rw[Lm p]
 |.at _ _::_,is,h=>by cases h
theorem Ln{f:Fi}:∀{is:List Nat}{ys:List Str},HE f is ys=true->is.length=ys.length/\∀(k i:Nat)(y:Str),is[k]?=some i->ys[k]?=some y->f.nm i=some y/\f.loc y=true
 |[],[],_=>⟨rfl,fun k i y h=>by simp at h⟩
 |i::is,y::ys,h=>by obtain⟨e,q⟩:=dx h;obtain⟨e,t⟩:=dx e;obtain⟨k1,k2⟩:=Ln q;refine⟨by simp[k1],fun k j z o p=>?_⟩;cases k with|zero=>cases o;cases p;exact⟨dM.mp e,t⟩|succ k=>exact k2 k j z (by simpa using o) (by simpa using p)
 |[],_::_,h=>by cases h
 |_::_,[],h=>by cases h
include gd tk rm hC
theorem F3{f:Fi}{env:Env}(fo:jw c env f):∀{ts:List Ta}{es:List Expr},DR T f ts es=true->uI c A env f.nm f.loc (pP c.M C ts) es
 |[],[],_=>.nil
 |.nm i::ts,e::es,h=>by obtain⟨j,p⟩:=dx h;exact .cons (.nm j) (F3 fo p)
 |.at o fi::ts,e::es,h=>by obtain⟨j,p⟩:=dx h;cases e with|Attribute x y pos=>obtain⟨j,q⟩:=dx j;exact .cons (.IS (tk.fd _ _ (dM.mp j)).symm (fF gd tk rm hC o f x q env fo).1) (F3 fo p)|_=>cases j
 |[],_::_,h=>by cases h
 |.nm _::_,[],h=>by cases h
 |.at _ _::_,[],h=>by cases h
theorem Sw{f:Fi}{env:Env}(fo:jw c env f){U:Expr}{r:Sr}{x:Expr}(h:Ed T f U r x=true):AY c A env f.nm x (tY c.M C r)/\∀l s a I,tY c.M C r l s=some (.en a,I)->tM U=true:=by
 cases r with
 |ex e=>refine⟨Vh gd (fF gd tk rm hC e f x h env fo).1,fun l s a I z=>?_⟩;obtain⟨v,t,_,j⟩:=cP z;unfold uE uM iter at j;cases v with|ref W=>simp only at j;cases p:c.M.get t.h W<;>rw[p]at j<;>cases j|_=>cases j
 |rg es=>
  simp only[Ed]at h;cases p:nQ x with
  |none=>rw[p]at h;cases h
  |some q=>obtain⟨y,us⟩:=q;rw[p]at h;simp only at h;obtain⟨o,J⟩:=dx h;obtain⟨o,K⟩:=dx o;obtain⟨O,pos,rfl,S,Y⟩:=vD p;have z:=dM.mp o;subst z;refine⟨Vi gd fo.n8 O pos tk.rg (fo.uJ K).1 S ((rG gd tk rm hC es f us J env fo).l S),fun l s a I z=>?_⟩;obtain⟨v,t,_,j⟩:=cP z;cases p:range v with|none=>rw[p]at j;cases j|some xs=>rw[p]at j;cases j
 |en e=>
  simp only[Ed]at h;cases p:nQ x with
  |none=>rw[p]at h;cases h
  |some q=>
   obtain⟨y,us⟩:=q;rw[p]at h;simp only at h;obtain⟨o,B⟩:=dx h;obtain⟨o,J⟩:=dx o;obtain⟨o,K⟩:=dx o;obtain⟨O,pos,rfl,S,Y⟩:=vD p;have z:=dM.mp o;subst z
   match us,B with|[u],B=>obtain⟨B,Z⟩:=dx B;exact⟨Vj gd fo.n8 O pos tk.en (fo.uJ K).1 B (fF gd tk rm hC e f u Z env fo).1,fun _ _ _ _ _=>J⟩
theorem R7{f:Fi}{env:Env}(fo:jw c env f){i:Nat}{e:E}{J x:Expr}{pos:Pos}(h:HF T f i e J x=true):lO c A env f.nm (.Assign [J] x pos) (wG i (b9 c.M C e)):=by
 unfold HF at h;obtain⟨Y,h⟩:=dx h;have plain:oE x=true->ed T e f x=true->lO c A env f.nm (.Assign [J] x pos) (wG i (b9 c.M C e)):=fun j K=>Wy fo.n8 fo.loc pos Y j (fF gd tk rm hC e f x K env fo).1
 cases e with
 |lc b t it q=>
  simp only at h;obtain⟨j,K⟩:=dx h;unfold ed at j;cases p:AB x with
  |none=>rw[p]at j;cases j
  |some r=>
   obtain⟨O,B,iter,S,U,Z⟩:=r;rw[p]at j;simp only at j;obtain⟨j,h7⟩:=dx j;obtain⟨j,h6⟩:=dx j;obtain⟨j,h5⟩:=dx j;obtain⟨rfl,W⟩:=KZ p;obtain⟨cl,c1,c2,c3⟩:=fo.sub j;have I:=j;unfold Fi.AA at I;simp only[cY]at I;have one:∀z o,ku env.cells U.names []=some o->jw c (compEnvC U o z env) (f.sub U t B):=fun z o e=>by rw[c1]at e;cases e;exact c2 z
   exact Vk gd rm.hd fo.n8 (Gb I.1.1.1.1.1) (FX W env) fo.loc Y (fun y py e=>by subst e;exact K) ⟨cl,c1,fun z=>(c2 z).n8,fun z y hy=>(c2 z).loc y hy,c3⟩ I.1.1.1.2
    (fun z o e=>(fF gd tk rm hC b _ O h5 _ (one z o e)).1) (fun z o e=>KC gd tk rm hC q _ S h7 _ (one z o e)) (fF gd tk rm hC it f iter h6 env fo).1
 |_=>exact plain (dx h).1 (dx h).2
theorem R8{f:Fi}{env:Env}(fo:jw c env f){ts:List Ta}{e:E}{es:List Expr}{x:Expr}{k:Nat}{p pos:Pos}(t:oE x=true)(z:ed T e f x=true)(h:HG T f ts es x=true):lO c A env f.nm (.Assign [.Tuple es k p] x pos) (EL c.M (pP c.M C ts) (b9 c.M C e)):=by
 have hk:env.kindOf=f.ko:=funext fo.ko;unfold HG at h;cases q:yd f.ko es x with
 |none=>rw[q]at h;cases h
 |some r=>
  rw[q]at h;cases r with
  |none=>exact WK gd rm.hd fo.n8 fo.loc k p pos (F3 gd tk rm hC fo h) (by rw[hk];exact q) t (fF gd tk rm hC e f x z env fo).1
  |some ys=>simp only at h;cases j:yf ts with|none=>rw[j]at h;cases h|some is=>rw[j]at h;simp only at h;obtain⟨o,B⟩:=dx h;obtain⟨o,O⟩:=dx o;obtain⟨S,I⟩:=Ln o;rw[Lm j];rw[m7,gc,gc]at B;exact WL rm.hd fo.n8 k p pos (by rw[hk];exact q) (fun k i y J K=>⟨(I k i y J K).1,fo.loc _ (I k i y J K).2⟩) S (vx O) B t (fF gd tk rm hC e f x z env fo).1
mutual
theorem Sx{f:Fi}{env:Env}(fo:jw c env f):∀(s:S)(u:Stmt),pN T f s u=true->lO c A env f.nm u (eJ c.M C s)
 |.as i e,u,h=>by
  unfold pN at h;split at h
  ·exact R7 gd tk rm hC fo h
  ·cases h
 |.aa o fi e,u,h=>by
  unfold pN at h;split at h
  ·obtain⟨j,x⟩:=dx h;obtain⟨j,q⟩:=dx j;obtain⟨j,p⟩:=dx j;exact Wz gd _ _ (tk.fd _ _ (dM.mp j)).symm p (fF gd tk rm hC o f _ q env fo).1 (fF gd tk rm hC e f _ x env fo).1
  ·cases h
 |.ai o i e,u,h=>by
  unfold pN at h;split at h
  ·obtain⟨j,x⟩:=dx h;obtain⟨j,q⟩:=dx j;obtain⟨j,p⟩:=dx j;exact WA gd (by have:=rm.un;omega) _ _ j (fF gd tk rm hC o f _ p env fo).1 (fF gd tk rm hC i f _ q env fo).1 (fF gd tk rm hC e f _ x env fo).1
  ·cases h
 |.tp ts e,u,h=>by
  unfold pN at h;split at h
  ·obtain⟨j,q⟩:=dx h;obtain⟨j,p⟩:=dx j;exact R8 gd tk rm hC fo j p q
  ·cases h
 |.ga o fi e,u,h=>by
  unfold pN at h;split at h
  ·obtain⟨j,q⟩:=dx h;obtain⟨j,p⟩:=dx j;exact WB gd _ _ (tk.fd _ _ (dM.mp j)).symm (fF gd tk rm hC o f _ p env fo).1 (fF gd tk rm hC e f _ q env fo).1
  ·cases h
 |.gi o i e,u,h=>by
  unfold pN at h;split at h
  ·obtain⟨j,x⟩:=dx h;obtain⟨j,q⟩:=dx j;obtain⟨j,p⟩:=dx j;exact WC gd (by have:=rm.un;omega) _ _ j (fF gd tk rm hC o f _ p env fo).1 (fF gd tk rm hC i f _ q env fo).1 (fF gd tk rm hC e f _ x env fo).1
  ·cases h
 |.ex e,u,h=>by
  unfold pN at h;split at h
  ·obtain⟨j,p⟩:=dx h;exact WD _ (by unfold interactive;rw[fo.kind];rfl) j (fF gd tk rm hC e f _ p env fo).1
  ·cases h
 |.if t a b,u,h=>by
  unfold pN at h;split at h
  ·obtain⟨j,q⟩:=dx h;obtain⟨j,p⟩:=dx j;exact WE _ (fF gd tk rm hC t f _ j env fo).2 (vA fo a _ p) (vA fo b _ q)
  ·cases h
 |.wh t b,u,h=>by
  unfold pN at h;split at h
  ·obtain⟨j,p⟩:=dx h;exact WI _ (fF gd tk rm hC t f _ j env fo).2 (vA fo b _ p)
  ·cases h
 |.fo t r b,u,h=>by
  unfold pN at h;split at h
  ·obtain⟨j,x⟩:=dx h;obtain⟨j,q⟩:=dx j;obtain⟨j,p⟩:=dx j;obtain⟨k1,k2⟩:=Sw gd tk rm hC fo q;exact WJ rm.hd fo.n8 fo.loc _ j (FX p env) k2 k1 (vA fo b _ x)
  ·cases h
 |.rt e,u,h=>by
  unfold pN at h;split at h
  ·split at h
   ·cases e with
    |c v=>cases v<;>first|(cases h;done)|exact Vg _
    |_=>cases h
   ·exact WG _ (fF gd tk rm hC e f _ h env fo).1
  ·cases h
 |.co,u,h=>by
  unfold pN at h;split at h
  ·exact WH _
  ·cases h
termination_by structural s=>s
theorem vA{f:Fi}{env:Env}(fo:jw c env f):∀(e:List S)(us:List Stmt),uT T f e us=true->uS c A env f.nm us (cy c.M C e)
 |[],us,h=>by cases us with|nil=>exact Ul|cons=>cases h
 |s::e,us,h=>by cases us with|nil=>cases h|cons u us=>obtain⟨j,o⟩:=dx h;exact S7 (Sx fo s u j) (vA fo e us o)
termination_by structural e=>e
end
end
theorem Lo{α e:Type}{f g:α->Option e}:∀{l:List α},(∀a∈l,f a=g a)->l.filterMap f=l.filterMap g
 |[],_=>rfl
 |a::r,h=>by rw[List.filterMap_cons,List.filterMap_cons,h a fB,Lo fun b j=>h b (hO _ j)]
theorem KD:∀{ys:List Str}{vs:List Value},ys.Nodup->vs.length=ys.length->ys.filterMap (fun n=>((ys.zip vs).lookup n).map (n,·))=ys.zip vs/\ys.filter (fun n=>((ys.zip vs).lookup n).isNone)=[]
 |[],[],_,_=>⟨rfl,rfl⟩
 |y::ys,v::vs,o,hl=>by
  rw[nN]at o;obtain⟨q,t⟩:=KD (ys:=ys) (vs:=vs) o.2 (by simpa using hl);have e:∀n∈ys,((y,v)::ys.zip vs).lookup n=(ys.zip vs).lookup n:=fun n j=>by
   rw[jT];have:(n==y)=false:=by cases p:n==y with|false=>rfl|true=>rw[dM.mp p]at j;exact absurd j o.1
   rw[this]
  refine⟨?_,?_⟩
  ·rw[DG,List.filterMap_cons,jT,vR];show(y,v)::_=_
   congr 1;refine Eq.trans ?_ q;exact Lo fun n j=>by rw[e n j]
  ·rw[DG,List.filter_cons,jT,vR];show List.filter _ ys=[]
   refine Eq.trans ?_ t;exact List.filter_congr fun n j=>by rw[e n j]
 |[],_::_,_,hl=>by simp at hl
 |_::_,[],_,hl=>by simp at hl
def Gn(p:Arguments):Bool:=p.posonlyargs.isEmpty&&p.vararg.isNone&&p.kwonlyargs.isEmpty&&p.kwarg.isNone
theorem Sy{fd:FuncData}(hp:Gn fd.params=true)(hd:fd.defaults=.none)(e:(fd.params.args.map (·.arg)).Nodup){vs:List Value}(hl:vs.length=fd.params.args.length):
  bindArgs fd ⟨vs,[]⟩=pure ((fd.params.args.map (·.arg)).zip vs):=by
 unfold Gn at hp;obtain⟨hp,j⟩:=dx hp;obtain⟨hp,o⟩:=dx hp;obtain⟨t,x⟩:=dx hp;generalize q:fd.params=p at t x o j e hl;obtain⟨a1,B,a3,a4,a5,a6,K⟩:=p;simp only[List.isEmpty_iff,DK]at t x o j;subst t x o j;obtain⟨y,z⟩:=KD (vs:=vs) e (by simpa using hl);unfold bindArgs;rw[q,hd];simp only[m8,eY];have I:seqItems? Value.none=pure none:=rfl;rw[I];have J:¬(vs.length>(B.map (·.arg)).length):=by rw[oK,hl];exact Nat.lt_irrefl _
 dsimp only at e hl y z;simp only[pure_bind,List.forIn_nil,J,Option.getD_none,List.drop_nil,cQ,Nat.sub_zero,vU,z,y,sN,List.isEmpty_nil,ft,mG,lr,List.drop_length,List.zip_nil_left,false_and,lL,lM]
theorem Gc:∀(e:List (Str×NameKind))(n:Nat)(acc:List (Str×Addr))(y:Str),((∃a,acc.lookup y=some a)∨(y,NameKind.cell)∈e)->∃a,(cellsFrom n e acc).lookup y=some a
 |[],n,acc,y,h=>by
  rcases h with h|h
  ·exact h
  ·cases h
 |(x,k)::r,n,acc,y,h=>by
  unfold cellsFrom;cases hk:k==NameKind.cell with
  |true=>
   rw[df rfl];refine Gc r _ _ y ?_;rcases h with⟨a,h⟩|h
   ·rw[jT];cases p:y==x with|true=>exact .inl ⟨_,rfl⟩|false=>exact .inl ⟨a,h⟩
   ·rcases gx.mp h with h|h
    ·cases h;exact .inl ⟨n,by rw[jT,vR]⟩
    ·exact .inr h
  |false=>
   rw[bL (by simp)];refine Gc r _ _ y ?_;rcases h with h|h
   ·exact .inl h
   ·rcases gx.mp h with h|h
    ·cases h;simp at hk
    ·exact .inr h
theorem K1{ko:Str->Option NameKind}:∀{r:List (Str×Value)}{m:Str->Option Value}{y:Str},(∀p∈r,p.1≠y)->bindL ko r m y=m y
 |[],m,y,_=>rfl
 |(n,v)::r,m,y,h=>by
  unfold bindL;rw[K1 fun p hp=>h p (hO _ hp)];split
  ·show(if y=n then some v else m y)=m y
   rw[bL fun z=>h (n,v) fB z.symm]
  ·rfl
theorem K2{ko:Str->Option NameKind}:∀{r:List (Str×Value)}{m:Str->Option Value}{y:Str},(∀p∈r,p.1≠y)->bindC ko r m y=m y
 |[],m,y,_=>rfl
 |(n,v)::r,m,y,h=>by
  unfold bindC;rw[K2 fun p hp=>h p (hO _ hp)];split
  ·rfl
  ·show(if y=n then some v else m y)=m y
   rw[bL fun z=>h (n,v) fB z.symm]
theorem Lp{ko:Str->Option NameKind}:∀{r:List (Str×Value)}{m:Str->Option Value}{y:Str}{v:Value},(r.map (·.1)).Nodup->(y,v)∈r->ko y=some .local->bindL ko r m y=some v
 |(n,u)::r,m,y,v,e,h,hk=>by
  rw[gf,nN]at e;unfold bindL;rcases gx.mp h with h|h
  ·cases h;have j:∀p∈r,p.1≠n:=fun p hp z=>e.1 (kq.mpr ⟨p,hp,z⟩)
   rw[K1 j,df hk];show(if n=n then some u else m n)=some u
   rw[df rfl]
  ·exact Lp e.2 h hk
theorem Lq{ko:Str->Option NameKind}:∀{r:List (Str×Value)}{m:Str->Option Value}{y:Str}{v:Value},(r.map (·.1)).Nodup->(y,v)∈r->ko y≠some .local->bindC ko r m y=some v
 |(n,u)::r,m,y,v,e,h,hk=>by
  rw[gf,nN]at e;unfold bindC;rcases gx.mp h with h|h
  ·cases h;have j:∀p∈r,p.1≠n:=fun p hp z=>e.1 (kq.mpr ⟨p,hp,z⟩)
   rw[K2 j,bL hk];show(if n=n then some u else m n)=some u
   rw[df rfl]
  ·exact Lq e.2 h hk
def DS:Nat->List Str->List (Nat×Str)
 |_,[]=>[]
 |n,y::r=>(n,y)::DS (n+1) r
theorem Lr:∀{ys:List Str}{n i:Nat}{y:Str},(i,y)∈DS n ys->n<=i/\ys[i-n]?=some y
 |y::r,n,i,z,h=>by
  rcases gx.mp h with h|h
  ·cases h;exact⟨ez _,by simp⟩
  ·obtain⟨j,e⟩:=Lr h;refine⟨by omega,?_⟩;have:i-n=(i-(n+1))+1:=by omega
   rw[this];simpa using e
def Vn:Value->Bool
 |.none=>true
 |_=>false
def tQ(fd:FuncData)(ys:List Str):Fi:=⟨fd.scope.names,DS 0 ys,true⟩
def sF(fd:FuncData):List Str:=fd.params.args.map (·.arg)
def OV(K:Frag)(T:lS)(d:Fd)(ys:List Str)(fd:FuncData):Bool:=
 codeIn K fd.code fd.qualname&&kdsCode K fd.code&&Gn fd.params&&Vn fd.defaults&&fd.closure.isEmpty&&fd.globals==mainGlobals&&fd.builtins==builtinsNs&&fd.scope.kind==.function&&
 !fd.scope.isGenerator&&!fd.scope.isCoroutine&&sF fd==ys.take d.ar&&Nat.beq fd.params.args.length d.ar&&tE (sF fd)&&(sF fd).all (fun y=>(tQ fd ys).loc y||(tQ fd ys).ko y==some .cell)&&
 fd.scope.names.all (fun p=>!(p.2==.free))&&(tQ fd ys).ok&&(match fd.body with
  |.stmts body=>uT T (tQ fd ys) d.bd body
  |_=>false)
def wI(K:Frag)(T:lS)(a:Addr)(d:Fd)(ys:List Str):Bool:=match K.lookup a with
 |some o=>(match o.data with
  |.func fd=>OV K T d ys fd
  |_=>false)
 |none=>false
theorem Ls:∀(n i:Nat)(x:V),bA (fill n) i=some x->x=.no
 |n+1,0,x,h=>by cases h;rfl
 |n+1,i+1,x,h=>Ls n i x h
theorem LY{α:Type}:∀{a b:List α}{i:Nat}{x:α},bA (a++b) i=some x->bA a i=some x∨∃j,bA b j=some x
 |[],b,i,x,h=>.inr ⟨i,h⟩
 |y::a,b,0,x,h=>.inl h
 |y::a,b,i+1,x,h=>LY (a:=a) (i:=i) h
section
variable{H:Type}{c:Cx H}
theorem Th{M:Type}{x:R M (Fl×L)}{v:V}{bx:St M}(h:ri x=some (v,bx)):∃e l,x=some ((e,l),bx)/\(match e with|.rt w=>v=w|_=>v=.none):=by
 unfold ri at h;cases x with
 |none=>cases h
 |some p=>obtain⟨⟨e,l⟩,s⟩:=p;simp only at h;cases e with|rt w=>cases h;exact⟨_,_,rfl,rfl⟩|nx=>cases h;exact⟨_,_,rfl,rfl⟩|cn=>cases h;exact⟨_,_,rfl,rfl⟩
theorem Up(gd:Gd c){T:lS}(tk:ye c T){n:Nat}{C:CH H}(hC:uO c n C){f:Nat}{d:Fd}{ys:List Str}(B:wI c.K T (c.N.fa f) d ys=true):ND c (n+2) f (enter c.M C d):=by
 intro A Tq s g σ vs us v bx rm R hv I q;unfold wI at B;cases po:c.K.lookup (c.N.fa f)with
 |none=>rw[po]at B;cases B
 |some o=>
  rw[po]at B;simp only at B;cases pd:o.data with
  |func fd=>
   rw[pd]at B;simp only[OV,cY]at B;obtain⟨⟨⟨⟨⟨⟨⟨⟨⟨⟨⟨⟨⟨⟨⟨⟨h1,h2⟩,h3⟩,h4⟩,h5⟩,h6⟩,h7⟩,h8⟩,h9⟩,ai⟩,aj⟩,ak⟩,al⟩,am⟩,an⟩,ao⟩,t⟩:=B;cases pb:fd.body with
   |stmts body=>
    rw[pb]at t;simp only at t;have ap:=dM.mp aj;have aq:=gc.mp ak;unfold enter at I;obtain⟨hl,I⟩:=gZ I;replace hl:=gc.mp hl;have Y:us.length=fd.params.args.length:=by rw[hv.len,hl,aq]
    have Z:=vx al;have aa:fd.defaults=.none:=by cases z:fd.defaults<;>rw[z]at h4<;>first|rfl|cases h4
    have ho:s.heap.get? (c.N.fa f)=some o:=R.pM gd _ _ po;have J:∀y∈sF fd,(tQ fd ys).ko y=some .local∨(tQ fd ys).ko y=some .cell:=fun y hy=>by have:=gR.mp am y hy;rw[m7]at this;exact this.imp (fun z=>dM.mp z) fun z=>dM.mp z
    have cellOf:∀y,(tQ fd ys).ko y=some .cell->∃a,(cellsFrom (s.heap.objs.size+1) fd.scope.names []).lookup y=some a:=fun y hy=>Gc _ _ _ _ (.inr (nG hy))
    obtain⟨fl,l',I,O⟩:=Th I;refine codeAny_call_cells (fd:=fd) (body:=body) (vals:=us) (binds:=(sF fd).zip us) (by have:=rm.dp;omega) ho pd (gd.MQ.keeps R.old) (codeRec_of (R.pM gd) h1) pb (Sy h3 aa Z Y) (List.isEmpty_iff.mp h5) (fun x I=>?_) (fun K W=>?_)
     (by simpa using ai) (by simpa using h9) (dM.mp h8)
    ·have hm:x.1∈sF fd:=(List.of_mem_zip (show(x.1,x.2)∈_ from I)).1;rcases J _ hm with h|h
     ·exact .inl h
     ·obtain⟨a,ha⟩:=cellOf _ h;exact .inr ⟨h,by rw[ha];rfl⟩
    ·have fo:jw c (callEnvC fd s.heap.objs.size (c.N.fa f)) (tQ fd ys):=⟨dM.mp h8,dM.mp h6,dM.mp h7,rfl,ao,fun y hy=>by
      unfold Fi.isFree at hy;rw[m7,dM,dM]at hy;rcases hy with hy|hy
      ·exact cellOf y hy
      ·have:=gR.mp an _ (nG hy)
       simp at this,fun _=>h2⟩
     have keep:=W.toInCall.keep;have ab:Rel c g σ K.heap:=R.grow keep;have nL:s.heap.get? s.heap.objs.size=none:=m4;have fresh:∀a,s.heap.get? a=none->(∀n b,g.ad n b≠some a)/\g.tp a=none/\c.h₀.get? a=none:=fun a ha=>by
      refine⟨fun n b e=>?_,?_,?_⟩
      ·obtain⟨o,q⟩:=R.owned e;rw[ha]at q;cases q
      ·cases z:g.tp a with|none=>rfl|some vs=>obtain⟨o,q⟩:=R.C0 z;rw[ha]at q;cases q
      ·cases z:c.h₀.get? a with|none=>rfl|some o=>have:=R.old _ _ z;rw[ha]at this;cases this
     have ae:Loc c (callEnvC fd s.heap.objs.size (c.N.fa f)) (tQ fd ys).nm g K.heap (vs++fill (d.nl-d.ar)):=by
      refine⟨⟨_,W.toInCall.ns,fun i x y S e2 e3=>?_⟩,(fresh _ nL).1,(fresh _ nL).2.1,(fresh _ nL).2.2,fun y q e=>?_⟩
      ·rcases LY S with S|⟨j,S⟩
       ·obtain⟨_,hy⟩:=Lr (nG e3);rw[Nat.sub_zero]at hy;obtain⟨u,u1,u2⟩:=hv.at S;have ar:i<d.ar:=by rw[oG]at S;have:=(lK.mp S).1;omega
        have af:(sF fd)[i]?=some y:=by rw[ap,List.getElem?_take,df ar];exact hy
        have hz:(y,u)∈(sF fd).zip us:=by refine iw (i:=i) ?_;rw[List.getElem?_zip_eq_some];exact⟨af,by simpa using u1⟩
        have ag:(((sF fd).zip us).map (·.1)).Nodup:=by rw[List.map_fst_zip (by rw[sF,oK,Y];exact ez _)];exact Z
        rcases J y (iw af)with h|h
        ·exact .inl ⟨h,u,Lp ag hz h,u2⟩
        ·obtain⟨a,ha⟩:=cellOf y h;have hc:=W.cell y a ha;have hk:(callEnvC fd s.heap.objs.size (c.N.fa f)).kindOf y≠some .local:=by rw[show(callEnvC fd s.heap.objs.size (c.N.fa f)).kindOf y=some .cell from h];simp
         rw[Lq ag hz hk]at hc;have ah:=W.above y a (nG ha);have na:s.heap.get? a=none:=Heap.get?_none_of_le (Nat.le_of_lt ah);exact .inr ⟨.inl h,a,u,ha,hc,⟨(fresh a na).1,(fresh a na).2.1,(fresh a na).2.2,Nat.ne_of_gt ah⟩,u2⟩
       ·exact absurd (Ls _ _ _ S) e2
      ·obtain⟨o,e',_⟩:=W.cell y q e;exact⟨o,e'⟩
     obtain⟨bG,av,p⟩:=W.toInCall.same;have au:Rm (A.deeper (callEnvC fd s.heap.objs.size (c.N.fa f))) (n+1):=⟨rm.hd,by have:=rm.dp;show A.depth+1+10*(n+1)+20<_;omega,by have:=rm.un;show A.units+3+100*(n+1)+200<_;omega⟩
     refine vA gd tk au hC fo d.bd body t _ _ _ _ _ _ _ _ _ ab ae I fun g' h' U fw T R' F' V'=>?_
     obtain⟨k1,k2⟩:=dh.call (L':=s.heap.objs.size) keep nL T;cases fl with|rt w=>obtain⟨u,rfl,hu⟩:=V';cases O;have:=q g' h' U _ k1 k2 R' hu;rw[p];exact this|nx=>cases O;cases V';have:=q g' h' U _ k1 k2 R' rfl;rw[p];exact this|cn=>cases O;cases V';have:=q g' h' U _ k1 k2 R' rfl;rw[p];exact this
   |_=>rw[pb]at t;cases t
  |_=>rw[pd]at B;cases B
end
theorem Kk{H:Type}{c:Cx H}(gd:Gd c){T:lS}(tk:ye c T)(hf:∀f d,c.M.P.fn f=some d->∃ys,wI c.K T (c.N.fa f) d ys=true):∀n,uO c (2*n) (bH c.M n)
 |0=>fun f A j s g σ vs us v bx rm R o e q=>by cases e
 |n+1=>fun f A j s g σ vs us v bx rm R o e q=>by unfold bH at e;cases p:c.M.P.fn f with|none=>rw[p]at e;cases e|some d=>rw[p]at e;obtain⟨ys,t⟩:=hf f d p;exact Up gd tk (Kk gd tk hf n) t A j s g σ vs us v bx rm R o e q
def ET:List Nat:=[21,35,56,77,91,96,103,110,117,124,129,146,153,160,167,174,181,188,195,209,230,237,244,251,258,265,272,279,286,293,300,307,314,321,328,335,342,349,356,363,370,377,384,398,405,412,434,441,446,453,460,467,474,479,486,491]
def mj:List Str:=fields.map Str.ofString
def ml:List Str:=Y1.map Str.ofString
def wJ:List Str:=glN.map Str.ofString
def Tb:lS where
 wd:=ml
 fd:=mj
 fn:=fnN.map fun p=>(p.1,Str.ofString p.2)
 cl:=clN.map Str.ofString
 gl:=wJ
 md:=OP.map fun p=>(p.1,Str.ofString p.2)
def OW(P:Params)(i:Nat):Bool:=match ET[i]?,Bq[i]?,OO[i]? with
 |some a,some d,some ys=>wI (hd.heap_39 P) Tb a d (ys.map Str.ofString)
 |_,_,_=>false
set_option maxHeartbeats 4000000 in
theorem WS(P:Params):∀i,i<56->OW P i=true
 |0,_=>by with_unfolding_all rfl
 |1,_=>by with_unfolding_all rfl
 |2,_=>by with_unfolding_all rfl
 |3,_=>by with_unfolding_all rfl
 |4,_=>by with_unfolding_all rfl
 |5,_=>by with_unfolding_all rfl
 |6,_=>by with_unfolding_all rfl
 |7,_=>by with_unfolding_all rfl
 |8,_=>by with_unfolding_all rfl
 |9,_=>by with_unfolding_all rfl
 |10,_=>by with_unfolding_all rfl
 |11,_=>by with_unfolding_all rfl
 |12,_=>by with_unfolding_all rfl
 |13,_=>by with_unfolding_all rfl
 |14,_=>by with_unfolding_all rfl
 |15,_=>by with_unfolding_all rfl
 |16,_=>by with_unfolding_all rfl
 |17,_=>by with_unfolding_all rfl
 |18,_=>by with_unfolding_all rfl
 |19,_=>by with_unfolding_all rfl
 |20,_=>by with_unfolding_all rfl
 |21,_=>by with_unfolding_all rfl
 |22,_=>by with_unfolding_all rfl
 |23,_=>by with_unfolding_all rfl
 |24,_=>by with_unfolding_all rfl
 |25,_=>by with_unfolding_all rfl
 |26,_=>by with_unfolding_all rfl
 |27,_=>by with_unfolding_all rfl
 |28,_=>by with_unfolding_all rfl
 |29,_=>by with_unfolding_all rfl
 |30,_=>by with_unfolding_all rfl
 |31,_=>by with_unfolding_all rfl
 |32,_=>by with_unfolding_all rfl
 |33,_=>by with_unfolding_all rfl
 |34,_=>by with_unfolding_all rfl
 |35,_=>by with_unfolding_all rfl
 |36,_=>by with_unfolding_all rfl
 |37,_=>by with_unfolding_all rfl
 |38,_=>by with_unfolding_all rfl
 |39,_=>by with_unfolding_all rfl
 |40,_=>by with_unfolding_all rfl
 |41,_=>by with_unfolding_all rfl
 |42,_=>by with_unfolding_all rfl
 |43,_=>by with_unfolding_all rfl
 |44,_=>by with_unfolding_all rfl
 |45,_=>by with_unfolding_all rfl
 |46,_=>by with_unfolding_all rfl
 |47,_=>by with_unfolding_all rfl
 |48,_=>by with_unfolding_all rfl
 |49,_=>by with_unfolding_all rfl
 |50,_=>by with_unfolding_all rfl
 |51,_=>by with_unfolding_all rfl
 |52,_=>by with_unfolding_all rfl
 |53,_=>by with_unfolding_all rfl
 |54,_=>by with_unfolding_all rfl
 |55,_=>by with_unfolding_all rfl
 |n+56,h=>by omega
def yz:Nat->Addr
 |0=>38
 |1=>59
 |2=>80
 |3=>212
 |_=>387
def aax:List (String×Value):=[("MASK",.int 4294967295 189),("TOP",.int 2147483648 370),("ROUND",.int 4294967296 372),("COMMUTING",.ref 130),("PURE",.ref 131),("ADDRESSED",.ref 133),("TELLING",.ref 134),("WIDENINGS",.ref 135),
 ("_law_SIZE",.int 4294967296 944),("_law_TWO",.ref 413),("_law_ONE",.ref 414),("_law_EITHER",.ref 415),("_law_HEAD",.ref 426),("_law_GIVE",.ref 429),
 ("num",.ref 21),("Step",.ref 38),("Block",.ref 59),("Func",.ref 80),("followers",.ref 91),("preds",.ref 96),("postorder",.ref 103),("order",.ref 110),("nearest_over",.ref 117),("dominators",.ref 124),("children_of",.ref 129),
 ("signed",.ref 146),("set_once",.ref 153),("slot_told",.ref 160),("holders_of_slots",.ref 167),("let_go",.ref 174),("private_slots",.ref 181),("is_inside",.ref 188),("may_meet",.ref 195),("Cell",.ref 212),("Numbering",.ref 387),
 ("only_way",.ref 398),("number_blocks",.ref 405),("number_func",.ref 412),("_law_numbered",.ref 434),("_law_sum",.ref 441),("_law_meets",.ref 446),("_law_between",.ref 453),("_law_memory_right",.ref 460),("_law_told_twice",.ref 467),
 ("_law_twice_right",.ref 474),("_law_edges_right",.ref 479),("_law_carried_right",.ref 486),("law",.ref 491)]
def EU:List (Str×Value):=aax.map fun p=>(Str.ofString p.1,p.2)
def Bv:List (Str×Value):=[("len",.builtin "len"),("list",.type "list"),("sorted",.builtin "sorted"),("str",.type "str"),("tuple",.type "tuple"),("bool",.type "bool"),("range",.type "range"),("enumerate",.type "enumerate")]
def tZ:List Nat:=[130,131,133,134,135,416,418,420,423,428]
def EV:List Nat:=[136,137,138,139,413,414,415,417,419,421,422,424,425,426,427,429]
def word(wl:Nat->Str)(k:Nat):Str:=match ml[k]? with
 |some t=>t
 |none=>bif Nat.blt k 1000 then⟨#[200+k]⟩else wl k
def ef(zv:Nat->Int)(wl:Nat->Str):Nm where
 tab:=word wl
 fd:=fun k=>(mj[k]?).getD ""
 cl:=yz
 zv:=zv
 fa:=fun i=>(ET[i]?).getD 0
 md:=fun m=>((OP.map fun p=>(p.1,Str.ofString p.2)).lookup m).getD ""
 gl:=fun x=>(EU++Bv).lookup x
 gn:=fun j=>(wJ[j]?).getD ""
def rU(K:Frag)(a:Addr):Option (List Value):=bif EV.any (Nat.beq a)then(match K.lookup a with
 |some o=>(match o.data with
  |.seq vs _=>some vs.toList
  |_=>none)
 |none=>none)else none
def jz(P:Params):G where
 ad:=fun n b=>match n with|.s i=>bif b then none else tZ[i]?|.g _=>none
 tp:=rU (hd.heap_39 P)
def iZ{H:Type}(M:Mc H)(zv:Nat->Int)(wl:Nat->Str)(w:World)(h₀:Heap):Cx H:=⟨M,ef zv wl,Challenge.rw_nm0051_01.row.prog,w,h₀,jz w.params,hd.heap_39 w.params⟩
def zZ(o:Option Value)(a:Addr):Bool:=match o with
 |some (.ref b)=>Nat.beq b a
 |_=>false
theorem K3{o:Option Value}{a:Addr}(h:zZ o a=true):o=some (.ref a):=by
 unfold zZ at h;split at h
 ·rw[gc.mp h]
 ·cases h
theorem JU{α:Type}{l:List α}{i:Nat}{x:α}(h:l[i]?=some x)(f:Nat->α->Bool)(k:(List.range l.length).all (fun i=>match l[i]? with|some x=>f i x|none=>true)=true):f i x=true:=by have hi:i<l.length:=(lK.mp h).1;have:=gR.mp k i (Ax.mpr hi);rw[h]at this;exact this
section
variable(zv:Nat->Int)(wl:Nat->Str)(P:Params)
theorem Y6:Tb.fn.all (fun p=>zZ ((ef zv wl).gl p.2) ((ef zv wl).fa p.1)&&keepIn (hd.heap_39 P) (.ref ((ef zv wl).fa p.1)))=true:=by with_unfolding_all rfl
theorem Y7:(List.range Tb.cl.length).all (fun i=>match Tb.cl[i]? with|some x=>zZ ((ef zv wl).gl x) ((ef zv wl).cl i)|none=>true)=true:=by with_unfolding_all rfl
def Ih(v:V):Bool:=match v with|.no=>false|_=>true
theorem Vo{v:V}(h:Ih v=true):v≠ .no:=fun e=>by subst e;cases h
theorem Y8:(List.range wJ.length).all (fun i=>match wJ[i]? with|some _=>Ih (prog.gv i)|none=>true)=true:=by with_unfolding_all rfl
theorem Y9:Tb.md.all (fun p=>p.2==Bu (ef zv wl) p.1)=true:=by with_unfolding_all rfl
theorem Za:Br.all (fun p=>(yc p.1).isNone&&keepIn (hd.heap_39 P) (.ref ((ef zv wl).fa p.2)))=true:=by with_unfolding_all rfl
theorem Lu:∀{l:List (Nat×Nat)}{k b:Nat},AU k l=some b->(k,b)∈l
 |(a,b)::r,k,x,h=>by unfold AU at h;cases p:Nat.beq a k with|true=>rw[p]at h;cases h;rw[gc.mp p];exact fB|false=>rw[p]at h;exact hO _ (Lu h)
theorem Mr{i m f:Nat}(h:prog.me i m=some f):i=4/\(m,f)∈Br:=by replace h:(bif Nat.beq i 4 then AU m Br else none)=some f:=h;cases p:Nat.beq i 4 with|true=>rw[p]at h;exact⟨gc.mp p,Lu h⟩|false=>rw[p]at h;cases h
theorem Ms{H:Type}(M:Mc H)(e:M.P=prog)(w:World)(h₀:Heap):ye (iZ M zv wl w h₀) Tb where
 wd:=fun k t h=>by
  show word wl k=t
  unfold word;rw[show ml[k]?=some t from h]
 fd:=fun k t h=>by
  show(mj[k]?).getD ""=t
  rw[show mj[k]?=some t from h];rfl
 fn:=fun i x h=>by have:=gR.mp (Y6 zv wl w.params) _ (nG h);rw[cY]at this;exact⟨K3 this.1,this.2⟩
 cl:=fun i x h=>K3 (JU h (fun i x=>zZ ((ef zv wl).gl x) ((ef zv wl).cl i)) (Y7 zv wl))
 gl:=fun j x h=>by
  refine⟨?_,?_⟩
  ·show(wJ[j]?).getD ""=x
   rw[show wJ[j]?=some x from h];rfl
  ·show M.P.gv j≠ .no
   rw[e];exact Vo (JU (show wJ[j]?=some x from h) (fun i _=>Ih (prog.gv i)) Y8)
 md:=fun m x h=>dM.mp (gR.mp (Y9 zv wl) _ (nG h))
 bn:=fun b o p=>by
  show(EU++Bv).lookup (IQ b)=some (wj b)
  match b,o,p with
  |0,_,_=>with_unfolding_all rfl
  |1,_,_=>with_unfolding_all rfl
  |2,_,h=>exact absurd rfl h
  |3,_,_=>with_unfolding_all rfl
  |4,_,_=>with_unfolding_all rfl
  |5,_,_=>with_unfolding_all rfl
  |6,_,_=>with_unfolding_all rfl
  |n+7,h,_=>omega
 rg:=by with_unfolding_all rfl
 en:=by with_unfolding_all rfl
 me:=fun i m f h=>by have h:M.P.me i m=some f:=h;rw[e]at h;have:=gR.mp (Za zv wl w.params) _ (Mr h).2;rw[cY,DK]at this;exact this
end
theorem Uq:tE ml=true:=by with_unfolding_all rfl
theorem WT:ml.all (fun t=>t.cps.all (fun x=>Nat.blt x 128))=true:=by with_unfolding_all rfl
theorem Ur:tE mj=true:=by with_unfolding_all rfl
theorem Hl:mj.length=32:=by with_unfolding_all rfl
theorem Hm:ml.length=51:=by with_unfolding_all rfl
theorem Dy{α:Type}:∀{l:List α}(_:l.Nodup){i j:Nat}{x:α}(_:l[i]?=some x)(_:l[j]?=some x),i=j
 |y::r,e,0,0,x,_,_=>rfl
 |y::r,e,0,j+1,x,o,p=>by rw[nN]at e;simp at o p;subst o;exact absurd (iw p) e.1
 |y::r,e,i+1,0,x,o,p=>by rw[nN]at e;simp at o p;subst p;exact absurd (iw o) e.1
 |y::r,e,i+1,j+1,x,o,p=>by rw[nN]at e;simp at o p;rw[Dy e.2 o p]
 |[],_,i,_,_,h,_=>by simp at h
section
variable(zv:Nat->Int)(wl:Nat->Str)
theorem CS{k:Nat}(h:ml[k]?=none)(hk:k<1000):word wl k=⟨#[200+k]⟩:=by
 unfold word;rw[h];have:Nat.blt k 1000=true:=by rw[Nat.blt];exact Am hk
 rw[this];rfl
theorem zL{k:Nat}{t:Str}(h:ml[k]?=some t):word wl k=t:=by unfold word;rw[h]
theorem Df{k:Nat}{t:Str}(h:ml[k]?=some t):∀x∈t.cps,x<128:=fun x e=>by have:=gR.mp WT t (iw h);rw[Array.all_eq_true']at this;have:=this x e;exact nU this
theorem Lv{a b:Nat}(ha:a<1000)(j:b<1000)(h:word wl a=word wl b):a=b:=by
 cases pa:ml[a]? with
 |some t=>rw[zL wl pa]at h;cases e:ml[b]? with|some u=>rw[zL wl e]at h;subst h;exact Dy (vx Uq) pa e|none=>rw[CS wl e j]at h;subst h;have:=Df pa (200+b) (by simp);omega
 |none=>rw[CS wl pa ha]at h;cases e:ml[b]? with|some u=>rw[zL wl e]at h;subst h;have:=Df e (200+a) (by simp);omega|none=>rw[CS wl e j]at h;have:=lu (fun t:Str=>t.cps.toList) h;simp at this;exact this
theorem Vp(e:∀k,1000<=k->PyData.strOk (wl k)=true)(k:Nat):PyData.strOk (word wl k)=true:=by
 cases p:ml[k]? with
 |some t=>rw[zL wl p];unfold PyData.strOk;rw[Array.all_eq_true'];intro x j;have:=Df p x j;simp;omega
 |none=>
  by_cases hk:k<1000
  ·rw[CS wl p hk];unfold PyData.strOk;simp;omega
  ·have:word wl k=wl k:=by
    unfold word;rw[p];have:Nat.blt k 1000=false:=by cases q:Nat.blt k 1000 with|false=>rfl|true=>exact absurd (nU q) hk
    rw[this];rfl
   rw[this];exact e k (Nat.le_of_not_lt hk)
theorem GL:∀{l:List (Nat×Nat×Nat)}{k j r:Nat},we k j l=some r->(k,j,r)∈l
 |(a,b,c)::l,k,j,r,h=>by unfold we at h;cases p:(Nat.beq a k&&Nat.beq b j)with|true=>rw[p]at h;cases h;rw[cY]at p;rw[gc.mp p.1,gc.mp p.2];exact fB|false=>rw[p]at h;exact hO _ (GL h)
theorem WU{a b r:Nat}(h:prog.cat a b=some r):word wl a++word wl b=word wl r/\(word wl a).length+(word wl b).length<=sizeLine:=by have:=GL (show we a b Ia=some r from h);simp only[Ia,gx,vV,or_false,Prod.mk.injEq]at this;rcases this with⟨rfl,rfl,rfl⟩|⟨rfl,rfl,rfl⟩|⟨rfl,rfl,rfl⟩|⟨rfl,rfl,rfl⟩<;>exact⟨by with_unfolding_all rfl,by rw[v9];exact Ay (by with_unfolding_all rfl)⟩
theorem WV{a n b:Nat}(h:prog.chr a n=some b):∃x,(word wl a).cps[n]?=some x/\(word wl b).cps=#[x]/\n<1000:=by
 have:=GL (show we a n Ib=some b from h);simp only[Ib,gx,vV,or_false,Prod.mk.injEq]at this;rcases this with⟨rfl,rfl,rfl⟩|⟨rfl,rfl,rfl⟩
 ·exact⟨115,by with_unfolding_all rfl,by with_unfolding_all rfl,by decide⟩
 ·exact⟨117,by with_unfolding_all rfl,by with_unfolding_all rfl,by decide⟩
theorem Zb{a b:Nat}{r:Bool}(h:prog.sl a b=some r):decide ((word wl a).cps.toList<(word wl b).cps.toList)=r:=by have h:HD a b=some r:=h;unfold HD at h;split at h<;>cases h<;>with_unfolding_all rfl
theorem WW{i:Int}{b:Nat}(h:prog.dec i=some b):0<=i/\i<1000/\Str.ofString (toString i)=word wl b:=by
 have h:Ic i=some b:=h;unfold Ic at h
 by_cases q:i=8
 ·subst q;cases h;exact⟨by decide,by decide,by with_unfolding_all rfl⟩
 ·by_cases e:i=16
  ·subst e;cases h;exact⟨by decide,by decide,by with_unfolding_all rfl⟩
  ·by_cases j:i=32
   ·subst j;cases h;exact⟨by decide,by decide,by with_unfolding_all rfl⟩
   ·have t:(i==8)=false:=km.mpr q;have o:(i==16)=false:=km.mpr e;have p:(i==32)=false:=km.mpr j;rw[t,o,p]at h;cases h
end
section
variable(zv:Nat->Int)(wl:Nat->Str)(P:Params)
abbrev yn(P:Params)(i:Nat):Bool:=(List.range 32).all fun f=>!(prog.eE i f)||yy (hd.heap_39 P) (yz i) ((mj[f]?).getD "")
theorem aay:yn P 0=true:=by with_unfolding_all rfl
theorem aaz:yn P 1=true:=by with_unfolding_all rfl
theorem aaA:yn P 2=true:=by with_unfolding_all rfl
theorem aaB:yn P 3=true:=by with_unfolding_all rfl
theorem aaC:yn P 4=true:=by with_unfolding_all rfl
theorem Dg{i f:Nat}(h:prog.eE i f=true):f<32:=by
 match i with|0=>have:=nU (show Nat.ble f 5=true from h);omega|1=>have h:(Nat.ble 6 f&&Nat.ble f 8)=true:=h;rw[cY]at h;have:=nU h.2;omega|2=>have h:(Nat.ble 9 f&&Nat.ble f 15)=true:=h;rw[cY]at h;have:=nU h.2;omega|3=>have h:(Nat.ble 16 f&&Nat.ble f 17)=true:=h;rw[cY]at h;have:=nU h.2;omega|n+4=>have h:(Nat.ble 18 f&&Nat.ble f 31)=true:=h;rw[cY]at h;have:=nU h.2;omega
theorem WX{i f:Nat}(h:prog.eE i f=true):yy (hd.heap_39 P) (yz i) ((mj[f]?).getD "")=true:=by
 have hf:=Dg h;have e:∀{i},yn P i=true->prog.eE i f=true->yy (hd.heap_39 P) (yz i) ((mj[f]?).getD "")=true:=fun{i} k h=>by have:=gR.mp k f (Ax.mpr hf);rw[h]at this;exact this
 match i,h with|0,h=>exact e (aay P) h|1,h=>exact e (aaz P) h|2,h=>exact e (aaA P) h|3,h=>exact e (aaB P) h|n+4,h=>exact e (aaC P) (show prog.eE 4 f=true from h)
theorem WY{i f j:Nat}(h:prog.eE i f=true)(h':prog.eE i j=true)(e:(mj[f]?).getD ""=(mj[j]?).getD ""):f=j:=by
 have a:f<mj.length:=by rw[Hl];exact Dg h
 have b:j<mj.length:=by rw[Hl];exact Dg h'
 rw[qZ a,qZ b]at e;have e:mj[f]=mj[j]:=e;exact Dy (vx Ur) (qZ a) (by rw[e];exact qZ b)
theorem Us:Br.all (fun p=>Bt (hd.heap_39 P) 387 ((ef zv wl).md p.1) ((ef zv wl).fa p.2)&&!(mj.any fun t=>t==(ef zv wl).md p.1))=true:=by with_unfolding_all rfl
theorem Vq{i m f:Nat}(h:prog.me i m=some f):Bt (hd.heap_39 P) (yz i) ((ef zv wl).md m) ((ef zv wl).fa f)=true/\∀j,prog.eE i j=true->(ef zv wl).fd j≠(ef zv wl).md m:=by
 obtain⟨rfl,o⟩:=Mr h;have:=gR.mp (Us zv wl P) _ o;rw[cY,pI,List.any_eq_false]at this;refine⟨this.1,fun j hf e=>?_⟩;have a:j<mj.length:=by rw[Hl];exact Dg hf
 have e:(mj[j]?).getD ""=(ef zv wl).md m:=e;rw[qZ a]at e;have e:mj[j]=(ef zv wl).md m:=e;exact this.2 _ (List.getElem_mem a) (by rw[e];exact vR _)
theorem Vr{i f:Nat}(h:prog.rp i=some f):EO (hd.heap_39 P) (yz i) ((ef zv wl).fa f)=true:=by
 match i,h with
 |0,h=>cases h;with_unfolding_all rfl
 |1,h=>cases h;with_unfolding_all rfl
 |2,h=>cases h;with_unfolding_all rfl
 |3,h=>cases h;with_unfolding_all rfl
 |4,h=>cases h;with_unfolding_all rfl
 |n+5,h=>cases h
theorem Ti:(List.range 56).all (fun i=>keepIn (hd.heap_39 P) (.ref ((ef zv wl).fa i)))=true:=by with_unfolding_all rfl
theorem MU{f:Nat}{d:Fd}(h:prog.fn f=some d):f<56:=by have h:bA Bq f=some d:=h;rw[oG]at h;have:=(lK.mp h).1;exact this
theorem Ut{f:Nat}{d:Fd}(h:prog.fn f=some d):keepIn (hd.heap_39 P) (.ref ((ef zv wl).fa f))=true:=
 gR.mp (Ti zv wl P) _ (Ax.mpr (MU h))
theorem WZ{f:Nat}{d:Fd}(h:prog.fn f=some d):∃ys,wI (hd.heap_39 P) Tb ((ef zv wl).fa f) d ys=true:=by
 have hf:=MU h;have k:=WS P f hf;unfold OW at k;rw[show Bq[f]?=some d by rw[←oG];exact h]at k;split at k
 ·rename_i a o ys j e p;injection e with e;subst e;refine⟨ys.map Str.ofString,?_⟩;show wI _ Tb ((ET[f]?).getD 0) d (ys.map Str.ofString)=true
  rw[j];exact k
 ·cases k
end
section
variable(N:Nm)(g:G)
mutual
def uU:V->Value->Bool
 |.no,_=>false
 |.none,v=>match v with|.none=>true|_=>false
 |.bool b,v=>match v with|.bool c=>b==c|_=>false
 |.int z,v=>match v with|.int i _=>i==z.val N|_=>false
 |.str k,v=>match v with|.str t _=>t==N.tab k|_=>false
 |.tup l,v=>match v with
  |.ref a=>match g.tp a with|some vs=>DT l vs|none=>false
  |_=>false
 |.lst _,_=>false
 |.ref n,v=>match v with|.ref a=>g.ad n false==some a|_=>false
termination_by structural x=>x
def DT:List V->List Value->Bool
 |[],vs=>match vs with|[]=>true|_::_=>false
 |x::xs,vs=>match vs with|[]=>false|v::r=>uU x v&&DT xs r
termination_by structural x=>x
end
mutual
theorem xG:∀(x:V)(v:Value),uU N g x v=true->cj N g x v
 |.no,_,h=>by cases h
 |.none,v,h=>by cases v<;>first|rfl|cases h
 |.bool b,v,h=>by
  cases v<;>first|(cases h;done)|skip
  simp only[uU,dM]at h;subst h;rfl
 |.int z,v,h=>by
  cases v<;>first|(cases h;done)|skip
  simp only[uU,dM]at h;subst h;exact⟨_,rfl⟩
 |.str k,v,h=>by
  cases v<;>first|(cases h;done)|skip
  simp only[uU,dM]at h;subst h;exact⟨_,rfl⟩
 |.tup l,v,h=>by
  cases v<;>first|(cases h;done)|skip
  rename_i a;simp only[uU]at h;cases p:g.tp a with|none=>rw[p]at h;cases h|some vs=>rw[p]at h;exact⟨a,vs,rfl,p,GN l vs h⟩
 |.lst _,_,h=>by cases h
 |.ref n,v,h=>by
  cases v<;>first|(cases h;done)|skip
  simp only[uU,dM]at h;exact⟨_,rfl,h⟩
termination_by structural x=>x
theorem GN:∀(x:List V)(v:List Value),DT N g x v=true->cE N g x v
 |[],v,h=>by cases v<;>first|rfl|cases h
 |x::xs,v,h=>by cases v with|nil=>cases h|cons v r=>simp only[DT,cY]at h;exact⟨v,r,rfl,xG x v h.1,GN xs r h.2⟩
termination_by structural x=>x
end
end
section
variable(zv:Nat->Int)(wl:Nat->Str)(P:Params)
theorem W1:(List.range 14).all (fun j=>match(ef zv wl).gl ((ef zv wl).gn j)with|some v=>uU (ef zv wl) (jz P) (prog.gv j) v|none=>false)=true:=by with_unfolding_all rfl
theorem Zc{j:Nat}(h:prog.gv j≠ .no):∃v,(ef zv wl).gl ((ef zv wl).gn j)=some v/\cj (ef zv wl) (jz P) (prog.gv j) v:=by
 by_cases e:j<14
 ·have:=gR.mp (W1 zv wl P) j (Ax.mpr e);cases p:(ef zv wl).gl ((ef zv wl).gn j)with|none=>rw[p]at this;cases this|some v=>rw[p]at this;exact⟨v,rfl,xG _ _ _ _ this⟩
 ·refine absurd ?_ h;show(bA OQ j).getD .no=.no
  rw[oG,xU (by show 14<=j;omega)];rfl
def Ii:Value->Value->Bool
 |.int i t,v=>match v with|.int j u=>i==j&&Nat.beq t u|_=>false
 |.ref a,v=>match v with|.ref b=>Nat.beq a b|_=>false
 |.builtin a,v=>match v with|.builtin b=>a==b|_=>false
 |.type a,v=>match v with|.type b=>a==b|_=>false
 |_,_=>false
theorem Vs{v u:Value}(h:Ii v u=true):v=u:=by
 cases v<;>cases u<;>first|(cases h;done)|skip
 all_goals simp only[Ii,cY,dM]at h
 ·rw[h.1,gc.mp h.2]
 ·rw[h]
 ·rw[h]
 ·rw[gc.mp h]
def Ij(o:Option Value)(u:Value):Bool:=match o with
 |some v=>Ii v u
 |none=>false
theorem LZ{o:Option Value}{u:Value}(h:Ij o u=true):o=some u:=by cases o with|none=>cases h|some v=>rw[Vs h]
def MV(o:Option (Option Value))(u:Value):Bool:=match o with
 |some o=>Ij o u
 |none=>false
theorem Uu{o:Option (Option Value)}{u:Value}(h:MV o u=true):o=some (some u):=by cases o with|none=>cases h|some v=>rw[LZ h]
def OX(o:Option (Option Value)):Bool:=match o with
 |some none=>true
 |_=>false
theorem W2{o:Option (Option Value)}(h:OX o=true):o=some none:=by
 cases o with
 |none=>cases h
 |some v=>cases v<;>first|rfl|cases h
set_option maxHeartbeats 4000000 in
theorem W3:EU.all (fun p=>MV (nsIn (hd.heap_39 P) 3 p.1) p.2)=true:=by with_unfolding_all rfl
theorem Vt:Bv.all (fun p=>OX (nsIn (hd.heap_39 P) 3 p.1))=true:=by with_unfolding_all rfl
theorem Vu:Bv.all (fun p=>!(p.1==("__name__":Str))&&Ij (bootBuiltins p.1) p.2)=true:=by decide+kernel
theorem Zd{x:Str}{v:Value}(h:(ef zv wl).gl x=some v):nsIn (hd.heap_39 P) 3 x=some (some v)∨(nsIn (hd.heap_39 P) 3 x=some none/\x≠"__name__"/\bootBuiltins x=some v):=by
 rcases pJ.mp (nG (show(EU++Bv).lookup x=some v from h))with hm|hm
 ·exact .inl (Uu (gR.mp (W3 P) _ hm))
 ·have:=gR.mp Vu _ hm;rw[cY,pI,km]at this;exact .inr ⟨W2 (gR.mp (Vt P) _ hm),this.1,LZ this.2⟩
end
section
variable{H:Type}(M:Mc H)(zv:Nat->Int)(wl:Nat->Str)(w:World)(h₀:Heap)
theorem DU(p:M.P=prog)(t:(hd.heap_39 w.params).In h₀){mH:List Str}{mJ:ExcName->Option Value}{mg mb:Str->Option Value}(T:Top hd.view_39 mH mJ mg mb h₀)
  (zb:∀k,M.F.lo k<=zv k/\zv k<=M.F.hi k)
  (fact:∀o a b r,M.F.fact o a b M.F.op=some r->b.val (ef zv wl)≠0/\(o=0->Int.fdiv (a.val (ef zv wl)) (b.val (ef zv wl))=r.val (ef zv wl))/\(o=1->Int.fmod (a.val (ef zv wl)) (b.val (ef zv wl))=r.val (ef zv wl)))
  (tx:∀k W l,(k,W,l)∈M.F.tx->∃n s,(n,s)∈l/\zv k=n/\word wl W=word wl s)
  (cls:∀a,∃i∈M.F.cl a,i<1000/\word wl a=word wl i) (J:∀k,1000<=k->PyData.strOk (wl k)=true):Gd (iZ M zv wl w h₀) where
 MQ:=T.nolimit
 sys:=by have S:=T.seer (by decide+kernel);obtain⟨Z,⟨o,_,_,h,_⟩,_⟩:=S.mods;exact⟨o,h⟩
 zb:=zb
 fact:=fact
 cls:=cls
 tx:=tx
 cat:=fun a b r h=>WU wl (show prog.cat a b=some r by rw[←p];exact h)
 IM:=Vp wl J
 lit:=fun a b ha y h=>Lv wl ha y h
 sl:=fun a b r h=>Zb wl (show prog.sl a b=some r by rw[←p];exact h)
 chr:=fun a n b h=>WV wl (show prog.chr a n=some b by rw[←p];exact h)
 dec:=fun i b h=>WW wl (show prog.dec i=some b by rw[←p];exact h)
 pM:=t
 OR:=fun j h=>by
  have h:M.P.gv j≠ .no:=h;show∃v,_/\cj _ _ (M.P.gv j) v
  rw[p]at h⊢;exact Zc zv wl w.params h
 acc:=fun i f h=>WX w.params (show prog.eE i f=true by rw[←p];exact h)
 NB:=fun i f z h h' e=>WY (show prog.eE i f=true by rw[←p];exact h) (show prog.eE i z=true by rw[←p];exact h') e
 ic:=fun i m f h=>by obtain⟨K,O⟩:=Vq zv wl w.params (show prog.me i m=some f by rw[←p];exact h);exact⟨K,fun z hf=>O z (by rw[←p];exact hf)⟩
 make:=fun i f h=>Vr zv wl w.params (show prog.rp i=some f by rw[←p];exact h)
 Y3:=fun f d h=>Ut zv wl w.params (show prog.fn f=some d by rw[←p];exact h)
 glob:=fun x v h A env Q E s I y B q=>by
  rcases Zd zv wl w.params h with e|⟨e,U,Y⟩
  ·exact loadGlobal_global (env:=env) (I▸T.g.keeps B) (mg_of t T.g e) q
  ·exact loadGlobal_builtin (env:=env) (I▸T.g.keeps B) (mg_none_of t T.g e) (y▸T.b.keeps B) ((T.builtins x U).trans Y) q
theorem Ze(e:M.P=prog):∀f d,(iZ M zv wl w h₀).M.P.fn f=some d->∃ys,wI (iZ M zv wl w h₀).K Tb ((iZ M zv wl w h₀).N.fa f) d ys=true:=fun f d h=>WZ zv wl w.params (show prog.fn f=some d by rw[←e];exact h)
end
section
variable{H:Type}(M:Mc H)(zv:Nat->Int)(wl:Nat->Str)(w:World)(h₀:Heap)
def Mt(K:Frag)(a:Addr):Bool:=match K.lookup a with
 |some o=>(match o.cls with
  |.type n=>n=="tuple"
  |_=>false)&&(match o.data with
  |.seq _ _=>true
  |_=>false)
 |none=>false
theorem W5(P:Params):EV.all (Mt (hd.heap_39 P))=true:=by with_unfolding_all rfl
theorem DV(y:(hd.heap_39 w.params).In h₀){a:Addr}{vs:List Value}(e:rU (hd.heap_39 w.params) a=some vs):h₀.IsTuple a vs.toArray:=by
 unfold rU at e;cases p:EV.any (Nat.beq a)with
 |false=>rw[p]at e;cases e
 |true=>
  rw[p]at e;obtain⟨b,B,t⟩:=Au.mp p;have:=gR.mp (W5 w.params) _ B;rw[←gc.mp t]at this;unfold Mt at this;cases q:(hd.heap_39 w.params).lookup a with
  |none=>rw[q]at this;cases this
  |some o=>
   rw[q]at this e;simp only[cY]at this;obtain⟨j,x⟩:=this;cases r:o.data with
   |seq us n=>simp only[gG,r]at e;cases e;refine⟨o,y _ _ q,?_,n,by rw[r]⟩;cases z:o.cls with|type s=>rw[z]at j;simp only[dM]at j;rw[j]|_=>rw[z]at j;cases j
   |_=>rw[r]at x;cases x
def MW(N:Nm)(es:List (V×V)):Bool:=es.all (fun e=>jW e.1 6&&!(Nat.beq (kk e.1) 0))&&es.all (fun e=>es.all fun j=>Nat.beq (kk e.1) (kk j.1))
theorem Lw{N:Nm}{es:List (V×V)}(h:MW N es=true)(p:(es.map fun e=>dt N e.1).Nodup):lY N es:=by unfold MW at h;rw[cY]at h;refine⟨fun e j q o=>gc.mp (gR.mp (gR.mp h.2 e j) q o),fun e j=>?_,p⟩;have:=gR.mp h.1 e j;rw[cY,pI]at this;exact⟨this.1,fun z=>by rw[z]at this;cases this.2⟩
theorem Gp{zv:Nat->Int}{wl:Nat->Str}:∀{l:List Nat}{es:List (V×V)}(_:es.map (·.1)=l.map V.str)(_:l.Nodup)(_:∀k∈l,k<1000),(es.map fun e=>dt (ef zv wl) e.1).Nodup
 |[],[],_,_,_=>List.nodup_nil
 |[],_::_,h,_,_=>by cases h
 |_::_,[],h,_,_=>by cases h
 |k::r,e::es,h,hl,o=>by
  rw[nN]at hl;rw[gf,gf,List.cons.injEq]at h;rw[gf,nN,h.1];refine⟨fun x=>?_,Gp h.2 hl.2 fun j p=>o j (hO _ p)⟩;obtain⟨t,y,q⟩:=kq.mp x;have:t.1∈r.map V.str:=by rw[←h.2];exact kq.mpr ⟨t,y,rfl⟩
  obtain⟨j,p,z⟩:=kq.mp this;rw[←z]at q;have q:some (PyData.str (word wl j))=some (PyData.str (word wl k)):=q;have:=Lv wl (o j (hO _ p)) (o k fB) (PyData.str.inj (nM q));subst this;exact hl.1 p
theorem Tj{zv:Nat->Int}{wl:Nat->Str}{l:List Nat}(hl:l.Nodup)(j:∀k∈l,k<1000):((l.map fun k=>((V.str k,V.int (.l 1)):V×V)).map fun e=>dt (ef zv wl) e.1).Nodup:=
 Gp (by rw[List.map_map];rfl) hl j
theorem CU(w:World)(i j:Int){n:Int}(h:reduceHash (Builtin.Tuple.tupleHashOf [hashInt i,hashInt j])=n):n=rP w (.tuple [.int i,.int j]):=h.symm
def oH:Ad->O
 |.s i=>match bA uN i with|some o=>o|none=>.free
 |.g _=>.free
variable{h:Heap}
theorem zG(j:(hd.heap_39 w.params).In h){i a:Nat}{l:List V}{vs:Array Value}{k:Nat}(e:tZ[i]?=some a)(o:(hd.heap_39 w.params).lookup a=some {cls:=.type "list",data:=.seq vs k})(r:cE (ef zv wl) (jz w.params) l vs.toList)(hl:l.length<=bu):gS (iZ M zv wl w h₀) (jz w.params) h (.s i) (.list l):=
 ⟨a,vs,k,e,rfl,j _ _ o,r,hl⟩
theorem zH(j:(hd.heap_39 w.params).In h){i a:Nat}{l:List (V×V)}{cR:Array DictEntry}{k ep:Nat}(e:tZ[i]?=some a)(o:(hd.heap_39 w.params).lookup a=some {cls:=.type "dict",data:=.dict cR k})(p:ep=k)(r:jv (iZ M zv wl w h₀) (jz w.params) l cR.toList)(hk:lY (ef zv wl) l)(hl:l.length<=bu):gS (iZ M zv wl w h₀) (jz w.params) h (.s i) (.dict l ep):=
 ⟨a,cR,e,rfl,by rw[p];exact j _ _ o,r,hk,hl⟩
theorem GO{l:List Nat}(hl:l.Nodup)(o:∀k∈l,k<1000):lY (ef zv wl) (l.map fun k=>((V.str k,V.int (.l 1)):V×V)):=by
 refine⟨fun e p t q=>?_,fun e p=>?_,Tj hl o⟩
 ·obtain⟨j,_,rfl⟩:=kq.mp p;obtain⟨x,_,rfl⟩:=kq.mp q;rfl
 ·obtain⟨j,_,rfl⟩:=kq.mp p;exact⟨rfl,by simp[kk]⟩
set_option maxHeartbeats 2000000 in
theorem aaD(e:(hd.heap_39 w.params).In h):gS (iZ M zv wl w h₀) (jz w.params) h (.s 0) (oH (.s 0)):=by
 refine zH M zv wl w h₀ e (by rfl) (by with_unfolding_all rfl) (by rfl) ?_ (GO zv wl (by decide) (by decide)) (by decide)
 with_unfolding_all (repeat (refine .cons (kd:=.str _) rfl rfl ⟨_,rfl⟩ ⟨_,rfl⟩ ?_))
 exact .nil
set_option maxHeartbeats 2000000 in
theorem aaE(e:(hd.heap_39 w.params).In h):gS (iZ M zv wl w h₀) (jz w.params) h (.s 1) (oH (.s 1)):=by
 refine zH M zv wl w h₀ e (by rfl) (by with_unfolding_all rfl) (by rfl) ?_ (GO zv wl (by decide) (by decide)) (by decide)
 with_unfolding_all (repeat (refine .cons (kd:=.str _) rfl rfl ⟨_,rfl⟩ ⟨_,rfl⟩ ?_))
 exact .nil
theorem aaF(e:(hd.heap_39 w.params).In h):gS (iZ M zv wl w h₀) (jz w.params) h (.s 2) (oH (.s 2)):=by
 refine zH M zv wl w h₀ e (by rfl) (by with_unfolding_all rfl) (by rfl) ?_ (Lw (by rfl) (Gp (l:=[8,9,10]) rfl (by decide) (by decide))) (by decide)
 with_unfolding_all (repeat (refine .cons (kd:=.str _) rfl rfl ⟨_,rfl⟩ ⟨_,rfl⟩ ?_))
 exact .nil
theorem aaG(e:(hd.heap_39 w.params).In h):gS (iZ M zv wl w h₀) (jz w.params) h (.s 3) (oH (.s 3)):=by
 refine zH M zv wl w h₀ e (by rfl) (by with_unfolding_all rfl) (by rfl) ?_ (GO zv wl (l:=[7,6]) (by decide) (by decide)) (by decide)
 with_unfolding_all (repeat (refine .cons (kd:=.str _) rfl rfl ⟨_,rfl⟩ ⟨_,rfl⟩ ?_))
 exact .nil
theorem aaH(e:(hd.heap_39 w.params).In h):gS (iZ M zv wl w h₀) (jz w.params) h (.s 4) (oH (.s 4)):=by
 refine zH M zv wl w h₀ e (by rfl) (by with_unfolding_all rfl) (by rfl) ?_ (Lw (by rfl) ?_) (by decide)
 ·refine .cons (kd:=.tuple [.int 1,.int 1]) rfl (CU w _ _ (by decide+kernel)) (xG _ _ _ _ (by with_unfolding_all rfl)) ⟨_,rfl⟩ ?_;refine .cons (kd:=.tuple [.int 1,.int 0]) rfl (CU w _ _ (by decide+kernel)) (xG _ _ _ _ (by with_unfolding_all rfl)) ⟨_,rfl⟩ ?_;refine .cons (kd:=.tuple [.int 2,.int 1]) rfl (CU w _ _ (by decide+kernel)) (xG _ _ _ _ (by with_unfolding_all rfl)) ⟨_,rfl⟩ ?_;refine .cons (kd:=.tuple [.int 2,.int 0]) rfl (CU w _ _ (by decide+kernel)) (xG _ _ _ _ (by with_unfolding_all rfl)) ⟨_,rfl⟩ ?_;exact .nil
 ·show([some (PyData.tuple [.int 1,.int 1]),some (PyData.tuple [.int 1,.int 0]),some (PyData.tuple [.int 2,.int 1]),some (PyData.tuple [.int 2,.int 0])]:List (Option PyData)).Nodup
  simp
theorem Ee(e:(hd.heap_39 w.params).In h){i:Nat}(hi:5<=i)(j:i<9):gS (iZ M zv wl w h₀) (jz w.params) h (.s i) (oH (.s i)):=by
 match i,hi,j with|5,_,_=>exact zG M zv wl w h₀ e (by rfl) (by with_unfolding_all rfl) (by rfl) (by decide)|6,_,_=>exact zG M zv wl w h₀ e (by rfl) (by with_unfolding_all rfl) (by rfl) (by decide)|7,_,_=>exact zG M zv wl w h₀ e (by rfl) (by with_unfolding_all rfl) (by rfl) (by decide)|8,_,_=>exact zG M zv wl w h₀ e (by rfl) (by with_unfolding_all rfl) (by rfl) (by decide)
theorem aaI(e:(hd.heap_39 w.params).In h):gS (iZ M zv wl w h₀) (jz w.params) h (.s 9) (oH (.s 9)):=by exact zG M zv wl w h₀ e (by rfl) (by with_unfolding_all rfl) (GN _ _ _ _ (by with_unfolding_all rfl)) (by decide)
theorem L0(e:(hd.heap_39 w.params).In h)(n:Ad):gS (iZ M zv wl w h₀) (jz w.params) h n (oH n):=by
 match n with|.g k=>exact⟨rfl,rfl⟩|.s 0=>exact aaD M zv wl w h₀ e|.s 1=>exact aaE M zv wl w h₀ e|.s 2=>exact aaF M zv wl w h₀ e|.s 3=>exact aaG M zv wl w h₀ e|.s 4=>exact aaH M zv wl w h₀ e|.s 5=>exact Ee M zv wl w h₀ e (by decide) (by decide)|.s 6=>exact Ee M zv wl w h₀ e (by decide) (by decide)|.s 7=>exact Ee M zv wl w h₀ e (by decide) (by decide)|.s 8=>exact Ee M zv wl w h₀ e (by decide) (by decide)|.s 9=>exact aaI M zv wl w h₀ e|.s (k+10)=>exact⟨rfl,rfl⟩
theorem sI{n:Ad}{b:Bool}{a:Addr}(e:(jz w.params).ad n b=some a):∃i,i<10/\n=.s i/\b=false/\tZ[i]?=some a:=by
 cases n with
 |g k=>cases e
 |s i=>cases b with|true=>cases e|false=>have e:tZ[i]?=some a:=e;exact⟨i,(lK.mp e).1,rfl,rfl,e⟩
theorem Tn:tZ.Nodup:=by decide
theorem Dh:tZ.all (fun a=>!(Nat.beq a sysModules)&&!(EV.any (Nat.beq a)))=true:=by decide
theorem To(y:∀i,i<10->M.ok (.s i)=true){σ:St H}(x:∀n,M.get σ.h n=oH n)(p:∀a o,h₀.get? a=some o->h.get? a=some o)(q:(hd.heap_39 w.params).In h₀):Rel (iZ M zv wl w h₀) (jz w.params) σ h where
 inj:=fun n b n' I a e z _=>by obtain⟨i,_,rfl,rfl,t⟩:=sI w e;obtain⟨j,_,rfl,rfl,B⟩:=sI w z;rw[Dy Tn t B];exact⟨rfl,rfl⟩
 obj:=fun n=>by
  show gS _ _ _ _ (M.get σ.h n)
  rw[x];exact L0 M zv wl w h₀ (fun a o e=>p _ _ (q a o e)) n
 tup:=fun a vs e=>ur (DV w h₀ q e) (p a)
 old:=p
 fresh:=fun n b a e hl=>by obtain⟨i,hi,rfl,_,_⟩:=sI w e;have:16<=i:=nU (show Nat.ble 16 i=true from hl);omega
 ok:=fun n b a e=>by obtain⟨i,hi,rfl,_,_⟩:=sI w e;exact y i hi
 sys:=fun n b e=>by obtain⟨i,hi,rfl,_,t⟩:=sI w e;have:=gR.mp Dh _ (iw t);simp at this
 sep:=fun n b a e=>by
  obtain⟨i,hi,rfl,_,t⟩:=sI w e;have:=gR.mp Dh _ (iw t);rw[cY,pI,pI]at this;show rU _ a=none
  unfold rU;rw[this.2];rfl
 oY:=fun _ _ _ e=>e
 oZ:=fun _ _ e=>e
end
theorem MX(P:Params){n:Ad}{b:Bool}{a:Addr}(e:(jz P).ad n b=some a):∃o,(hd.heap_39 P).lookup a=some o:=by
 have j:tZ.all (fun a=>((hd.heap_39 P).lookup a).isSome)=true:=by with_unfolding_all rfl
 cases n with
 |g k=>cases e
 |s i=>cases b with|true=>cases e|false=>exact Option.isSome_iff_exists.mp (gR.mp j a (iw (show tZ[i]?=some a from e)))
theorem Zf{H:Type}{M:Mc H}{zv:Nat->Int}{wl:Nat->Str}{w:World}{h₀:Heap}(gd:Gd (iZ M zv wl w h₀))(x:M.P=prog)(J:∀i,i<10->M.ok (.s i)=true){σ bx:St H}(t:∀n,M.get σ.h n=oH n)
  {n f:Nat} {vs:List V} {v:V} (K:bH M n f vs σ=some (v,bx)) (O:v=.bool true∨v=.bool false) {A:Around} {T:Result->Shared->Prop} {s:Shared} {us:List Value} (rm:Rm A (2*n)) (S:cE (ef zv wl) (jz w.params) vs us) (j:∀a o,h₀.get? a=some o->s.heap.get? a=some o)
  (q:∀h' tk,(∀a o,s.heap.get? a=some o->h'.get? a=some o)->T (.ok (.ret (match v with|.bool b=>.bool b|_=>.none))) {s with heap:=h',toks:=tk}):
  codeAny (model Challenge.rw_nm0051_01.row.prog w) A (.call (.ref ((ef zv wl).fa f)) ⟨us,[]⟩) T s:=by
 have y:(hd.heap_39 w.params).In h₀:=gd.pM;refine Kk gd (Ms zv wl M x w h₀) (Ze M zv wl w h₀ x) n f A T s (jz w.params) σ vs us v bx rm (To M zv wl w h₀ J t j y) S K fun g' h' tk u _ k R V=>?_
 have hk:∀a o,s.heap.get? a=some o->h'.get? a=some o:=fun a o e=>by
  by_cases p:∃n b,(jz w.params).ad n b=some a
  ·obtain⟨n,b,U⟩:=p;obtain⟨o',W⟩:=MX w.params U;have B:=y _ _ W;have I:=j _ _ B;rw[e]at I;cases I;exact R.old _ _ B
  ·exact k a o e fun n b z=>p ⟨n,b,z⟩
 have p:=q h' tk hk;rcases O with rfl|rfl<;>(have V:u=_:=V;rw[V];exact p)
def nJ(w:World)(h₀:Heap)(m f:Nat)(is:List Int):Prop:=∀(A:Around)(T:Result->Shared->Prop)(s:Shared)(us:List Value),Rm A m->us.length=is.length->(∀(k:Nat) i,is[k]?=some i->∃t,us[k]?=some (.int i t))->
 (∀a o,h₀.get? a=some o->s.heap.get? a=some o)->(∀h' tk,(∀a o,s.heap.get? a=some o->h'.get? a=some o)->T (.ok (.ret (.bool true))) {s with heap:=h',toks:=tk})->
 codeAny (model Challenge.rw_nm0051_01.row.prog w) A (.call (.ref ((ET[f]?).getD 0)) ⟨us,[]⟩) T s
def tN:List V->Option (List Int)
 |[]=>some []
 |.int (.l i)::r=>match tN r with|some l=>some (i::l)|none=>none
 |_=>none
def inR(i:Int):Bool:=decide (0<=i)&&decide (i<2147483647)
def n9{H:Type}(f:Nat)(vs:List V)(s:St H):R H V:=match tN vs with
 |some is=>bif is.all inR&&(match f with
  |50=>Nat.beq is.length 3
  |52=>Nat.beq is.length 2
  |53=>Nat.beq is.length 2
  |54=>Nat.beq is.length 2
  |_=>false)then some (.bool true,s)else .none
 |.none=>.none
structure MY(w:World)(h₀:Heap)(m:Nat):Prop where
 mem:∀a b c:Int,inR a=true->inR b=true->inR c=true->nJ w h₀ m 50 [a,b,c]
 two:∀a b:Int,inR a=true->inR b=true->nJ w h₀ m 52 [a,b]/\nJ w h₀ m 53 [a,b]/\nJ w h₀ m 54 [a,b]
theorem K4{N:Nm}{g:G}:∀{vs:List V}{is:List Int}{us:List Value},tN vs=some is->cE N g vs us->us.length=is.length/\∀(k:Nat) i,is[k]?=some i->∃t,us[k]?=some (.int i t)
 |[],is,us,h,o=>by cases h;have:us=[]:=o;subst this;exact⟨rfl,fun k i e=>by simp at e⟩
 |v::r,is,us,h,o=>by
  obtain⟨u,q,rfl,x,B⟩:=o;cases v with
  |int z=>
   cases z with
   |l i=>
    simp only[tN]at h;cases p:tN r with
    |none=>rw[p]at h;cases h
    |some l=>rw[p]at h;cases h;obtain⟨a,b⟩:=K4 p B;obtain⟨t,rfl⟩:=x;refine⟨by simp[a],fun k j e=>?_⟩;cases k with|zero=>simp at e;subst e;exact⟨t,rfl⟩|succ k=>exact b k j (by simpa using e)
   |y _ _=>cases h
  |_=>cases h
theorem Uv{H:Type}{f:Nat}{vs:List V}{s o:St H}{v:V}(h:n9 f vs s=some (v,o)):v=.bool true/\o=s/\∃is,tN vs=some is/\is.all inR=true/\((f=50/\is.length=3)∨((f=52∨f=53∨f=54)/\is.length=2)):=by
 unfold n9 at h;cases p:tN vs with
 |none=>rw[p]at h;cases h
 |some is=>
  rw[p]at h;obtain⟨j,e⟩:=gZ h;cases e;rw[cY]at j;refine⟨rfl,rfl,is,rfl,j.1,?_⟩;have e:=j.2;split at e
  ·exact .inl ⟨rfl,gc.mp e⟩
  ·exact .inr ⟨.inl rfl,gc.mp e⟩
  ·exact .inr ⟨.inr (.inl rfl),gc.mp e⟩
  ·exact .inr ⟨.inr (.inr rfl),gc.mp e⟩
  ·cases e
theorem Tp{H:Type}{M:Mc H}{zv:Nat->Int}{wl:Nat->Str}{w:World}{h₀:Heap}{m:Nat}(K:MY w h₀ m):uO (iZ M zv wl w h₀) m n9:=by
 intro f A T s g σ vs us v bx rm R B I q;obtain⟨rfl,rfl,is,J,p,j⟩:=Uv I;obtain⟨a,b⟩:=K4 J B;have t:nJ w h₀ m f is:=by
  match is,p,j with
  |[x,y,z],p,j=>simp at p j;subst j;exact K.mem x y z p.1 p.2.1 p.2.2
  |[x,y],p,j=>
   simp at p j;obtain⟨k1,k2,k3⟩:=K.two x y p.1 p.2;rcases j with rfl|rfl|rfl
   ·exact k1
   ·exact k2
   ·exact k3
  |[],_,j=>simp at j
  |[_],_,j=>simp at j
  |_::_::_::_::_,_,j=>simp at j
 exact t A T s us rm a b R.old fun h' tk hk=>q g h' tk (.bool true) (fun L=>.grow hk) (fun a o e _=>hk a o e) (R.grow hk) rfl
end
structure Hp where
 nb:O
 on:O
 mo:O
 pr:O
 ho:O
 st:O
 lo:O
 ce:O
 pl:O
 fo:O
 ex:O
 hd:O
 sa:O
 lg:O
 t:Nat->O
 g:Nat->O
def jI(h:Hp):Ad->O
 |.s 16=>h.nb
 |.s 17=>h.on
 |.s 18=>h.mo
 |.s 19=>h.pr
 |.s 20=>h.ho
 |.s 21=>h.st
 |.s 22=>h.lo
 |.s 23=>h.ce
 |.s 24=>h.pl
 |.s 25=>h.fo
 |.s 26=>h.ex
 |.s 27=>h.hd
 |.s 28=>h.sa
 |.s 29=>h.lg
 |.s i=>h.t i
 |.g i=>h.g i
def AD(h:Hp)(a:Ad)(o:O):Hp:=match a with
 |.s 16=>{h with nb:=o}
 |.s 17=>{h with on:=o}
 |.s 18=>{h with mo:=o}
 |.s 19=>{h with pr:=o}
 |.s 20=>{h with ho:=o}
 |.s 21=>{h with st:=o}
 |.s 22=>{h with lo:=o}
 |.s 23=>{h with ce:=o}
 |.s 24=>{h with pl:=o}
 |.s 25=>{h with fo:=o}
 |.s 26=>{h with ex:=o}
 |.s 27=>{h with hd:=o}
 |.s 28=>{h with sa:=o}
 |.s 29=>{h with lg:=o}
 |.s i=>{h with t:=fun j=>if j=i then o else h.t j}
 |.g i=>{h with g:=fun j=>if j=i then o else h.g j}
theorem xD(i:Nat):i=16∨i=17∨i=18∨i=19∨i=20∨i=21∨i=22∨i=23∨i=24∨i=25∨i=26∨i=27∨i=28∨i=29∨(i<16∨29<i):=by omega
theorem tr(h:Hp)(i:Nat)(k:i<16∨29<i):jI h (.s i)=h.t i:=by unfold jI;split<;>first|rfl|(simp_all;done)|(exfalso;simp_all;omega)|(exfalso;simp_all)
theorem GZ(h:Hp)(i:Nat)(o:O)(k:i<16∨29<i):AD h (.s i) o={h with t:=fun j=>if j=i then o else h.t j}:=by unfold AD;split<;>first|rfl|(simp_all;done)|(exfalso;simp_all;omega)|(exfalso;simp_all)
theorem W6(h:Hp)(a:Ad)(o:O)(b:Ad):jI (AD h a o) b=bif Ad.beq b a then o else jI h b:=by
 cases a with
 |g i=>
  cases b with
  |g j=>show(if j=i then o else h.g j)=bif Nat.beq j i then o else h.g j;rw[Ds]
  |s j=>
   show jI _ (.s j)=jI h (.s j)
   rcases xD j with k|k|k|k|k|k|k|k|k|k|k|k|k|k|k<;>first|(subst k;rfl)|(rw[tr _ _ k,tr _ _ k];rfl)
 |s i=>
  cases b with
  |g j=>
   show jI _ (.g j)=jI h (.g j)
   rcases xD i with k|k|k|k|k|k|k|k|k|k|k|k|k|k|k<;>first|(subst k;rfl)|(rw[GZ _ _ _ k];rfl)
  |s j=>
   show jI (AD h (.s i) o) (.s j)=bif Nat.beq j i then o else jI h (.s j)
   rcases xD i with k|k|k|k|k|k|k|k|k|k|k|k|k|k|k
   all_goals rcases xD j with q|q|q|q|q|q|q|q|q|q|q|q|q|q|q
   all_goals first|(subst k;subst q;rfl)|skip
   all_goals first|(subst k;rw[tr _ _ q,tr _ _ q,tq,m9 (by omega)];rfl)|skip
   all_goals first|(subst q;rw[GZ _ _ _ k,tq,m9 (by omega)];rfl)|skip
   rw[GZ _ _ _ k,tr _ _ q,tr _ _ q,←Ds]
def hpH:HOps Hp where
 get:=jI
 set:=AD
 ok:=fun _=>true
 EF:=fun h a o b _=>W6 h a o b
abbrev vv(n:Int):V:=.tup [.str 2,.int (.l n)]
abbrev kv(i:Int):V:=.tup [.str 0,.int (.l i)]
abbrev rv(r:Int):V:=.tup [.str 1,.int (.l r)]
inductive Bs where
 |sl (i:Int)
 |na (s:Bool)
 |va (n:Int)
 deriving DecidableEq
def mn(b:Bool):Nat:=bif b then 24 else 23
def Bs.v:Bs->V
 |.sl i=>.tup [.str 3,.int (.l i)]
 |.na s=>.tup [.str 4,.str (mn s)]
 |.va n=>vv n
structure Ck where
 b:Bs
 o:Int
 w:Int
 deriving DecidableEq
def Ck.v(k:Ck):V:=.tup [k.b.v,.int (.l k.o),.int (.l k.w)]
inductive Ek where
 |sl (i:Int)
 |na (s:Bool) (c:Int)
 |ad (c n:Int)
 |wi (s t:Bool) (n:Int)
 deriving DecidableEq
def mO(s t:Bool):Nat:=match s,t with
 |true,false=>14
 |true,true=>15
 |false,false=>16
 |false,true=>17
def Ek.v:Ek->V
 |.sl i=>.tup [.str 3,.int (.l i),.tup []]
 |.na s c=>.tup [.str 4,.tup [.str (mn s),.int (.l c)],.tup []]
 |.ad c n=>.tup [.str 5,.int (.l 0),.tup [kv c,vv n]]
 |.wi s t n=>.tup [.str (mO s t),.int (.l 0),.tup [vv n]]
structure Ns where
 fn:V
 n:Int
 ch:Bool
 on:List (Int×Unit)
 OY:Nat
 mo:O
 pr:List (Int×Unit)
 EW:Nat
 ho:O
 st:List (Int×Int)
 t6:Nat
 ce:List (Ck×Nat)
 mP:Nat
 pl:List (Int×(Bs×Int))
 rZ:Nat
 fo:List (Int×V)
 wK:Nat
 ex:List (Ek×Int)
 wL:Nat
 hd:List (Int×Int)
 wM:Nat
 lg:List V
 g:Nat->O
def DW(l:List (Int×Unit)):List (V×V):=l.map fun p=>(.int (.l p.1),.bool true)
def uV(l:List (Int×Int)):List (V×V):=l.map fun p=>(.int (.l p.1),vv p.2)
def wm(l:List (Int×Int)):List (V×V):=l.map fun p=>(vv p.1,.int (.l p.2))
def sR(l:List (Ck×Nat)):List (V×V):=l.map fun p=>(p.1.v,.ref (.g p.2))
def wo(l:List (Int×(Bs×Int))):List (V×V):=l.map fun p=>(vv p.1,.tup [p.2.1.v,.int (.l p.2.2)])
def wq(l:List (Int×V)):List (V×V):=l.map fun p=>(vv p.1,p.2)
def wN(l:List (Ek×Int)):List (V×V):=l.map fun p=>(p.1.v,vv p.2)
abbrev bP:V:=.ref (.s 16)
def Bw(fn:V)(n:Int)(ch:Bool):List (Nat×V):=[(18,fn),(19,.ref (.s 17)),(20,.ref (.s 19)),(21,.int (.l n)),(22,.ref (.s 21)),(23,.ref (.s 22)),(24,.ref (.s 23)),(25,.ref (.s 24)),(26,.ref (.s 25)),(27,.ref (.s 26)),(28,.ref (.s 27)),(29,.ref (.s 28)),(30,.ref (.s 29)),(31,.bool ch)]
def pO(i:Nat):O:=(bA uN i).getD .free
def hh(N:Ns):Hp:=⟨.inst 4 (Bw N.fn N.n N.ch),.dict (DW N.on) N.OY,N.mo,.dict (DW N.pr) N.EW,N.ho,.dict (uV N.st) N.t6,.dict [] 0,.dict (sR N.ce) N.mP,.dict (wo N.pl) N.rZ,.dict (wq N.fo) N.wK,.dict (wN N.ex) N.wL,.dict (wm N.hd) N.wM,.dict [] 0,.list N.lg,pO,N.g⟩
def dN:cG:=⟨fun k=>bif Nat.blt k 1000 then[k]else[0],fun _=>0,fun _=>0,[],[]⟩
def mM:Mc Hp:={hpH with F:=dN,P:=prog}
section
variable(N:Ns)
theorem OZ:mM.get (hh N) (.s 17)=.dict (DW N.on) N.OY:=rfl
theorem O0:mM.get (hh N) (.s 19)=.dict (DW N.pr) N.EW:=rfl
theorem IU:mM.get (hh N) (.s 21)=.dict (uV N.st) N.t6:=rfl
theorem Bx:mM.get (hh N) (.s 23)=.dict (sR N.ce) N.mP:=rfl
theorem IV:mM.get (hh N) (.s 24)=.dict (wo N.pl) N.rZ:=rfl
theorem g25:mM.get (hh N) (.s 25)=.dict (wq N.fo) N.wK:=rfl
theorem EX:mM.get (hh N) (.s 26)=.dict (wN N.ex) N.wL:=rfl
theorem EY:mM.get (hh N) (.s 27)=.dict (wm N.hd) N.wM:=rfl
theorem g28:mM.get (hh N) (.s 28)=.dict [] 0:=rfl
theorem g29:mM.get (hh N) (.s 29)=.list N.lg:=rfl
theorem gg(i:Nat):mM.get (hh N) (.g i)=N.g i:=rfl
theorem aaJ(i:Int):mM.set (hh N) (.s 16) (.inst 4 (put 21 (.int (.l i)) (Bw N.fn N.n N.ch)))=hh {N with n:=i}:=rfl
theorem aaK(b:Bool):mM.set (hh N) (.s 16) (.inst 4 (put 31 (.bool b) (Bw N.fn N.n N.ch)))=hh {N with ch:=b}:=rfl
theorem s21(r v:Int)(e:Nat):mM.set (hh N) (.s 21) (.dict (uV N.st++[(.int (.l r),vv v)]) e)=hh {N with st:=N.st++[(r,v)],t6:=e}:=by
 show _=Hp.mk _ _ _ _ _ (.dict (uV (N.st++[(r,v)])) e) _ _ _ _ _ _ _ _ _ _
 unfold uV;rw[lJ];rfl
theorem s23(k:Ck)(a:Nat)(e:Nat):mM.set (hh N) (.s 23) (.dict (sR N.ce++[(k.v,.ref (.g a))]) e)=hh {N with ce:=N.ce++[(k,a)],mP:=e}:=by
 show _=Hp.mk _ _ _ _ _ _ _ (.dict (sR (N.ce++[(k,a)])) e) _ _ _ _ _ _ _ _
 unfold sR;rw[lJ];rfl
theorem s24(n:Int)(b:Bs)(o:Int)(e:Nat):mM.set (hh N) (.s 24) (.dict (wo N.pl++[(vv n,.tup [b.v,.int (.l o)])]) e)=hh {N with pl:=N.pl++[(n,(b,o))],rZ:=e}:=by
 show _=Hp.mk _ _ _ _ _ _ _ _ (.dict (wo (N.pl++[(n,(b,o))])) e) _ _ _ _ _ _ _
 unfold wo;rw[lJ];rfl
theorem s25(n:Int)(x:V)(e:Nat):mM.set (hh N) (.s 25) (.dict (wq N.fo++[(vv n,x)]) e)=hh {N with fo:=N.fo++[(n,x)],wK:=e}:=by
 show _=Hp.mk _ _ _ _ _ _ _ _ _ (.dict (wq (N.fo++[(n,x)])) e) _ _ _ _ _ _
 unfold wq;rw[lJ];rfl
theorem s26(k:Ek)(n:Int)(e:Nat):mM.set (hh N) (.s 26) (.dict (wN N.ex++[(k.v,vv n)]) e)=hh {N with ex:=N.ex++[(k,n)],wL:=e}:=by
 show _=Hp.mk _ _ _ _ _ _ _ _ _ _ (.dict (wN (N.ex++[(k,n)])) e) _ _ _ _ _
 unfold wN;rw[lJ];rfl
theorem s27(n r:Int)(e:Nat):mM.set (hh N) (.s 27) (.dict (wm N.hd++[(vv n,.int (.l r))]) e)=hh {N with hd:=N.hd++[(n,r)],wM:=e}:=by
 show _=Hp.mk _ _ _ _ _ _ _ _ _ _ _ (.dict (wm (N.hd++[(n,r)])) e) _ _ _ _
 unfold wm;rw[lJ];rfl
theorem s29(l:List V):mM.set (hh N) (.s 29) (.list l)=hh {N with lg:=l}:=rfl
theorem sg(i:Nat)(o:O):mM.set (hh N) (.g i) o=hh {N with g:=fun j=>if j=i then o else N.g j}:=rfl
end
theorem eq_int(a b:Int):eqv dN (.int (.l a)) (.int (.l b))=some (decide (a=b)):=by
 show some (a==b)=_
 rfl
theorem jF{x y:V}{xs ys:List V}{b c:Bool}(h:eqv dN x y=some b)(k:nV dN xs ys=some c):nV dN (x::xs) (y::ys)=some (b&&c):=by simp only[nV,h];cases b with|true=>simpa using k|false=>rfl
theorem rK{xs ys:List V}{b:Bool}(h:nV dN xs ys=some b):eqv dN (.tup xs) (.tup ys)=some b:=by simpa[eqv]using h
theorem tv:nV dN [] []=some true:=rfl
theorem xO(t:Nat)(e:t=2∨t=0∨t=1∨t=3)(a b:Int):eqv dN (.tup [.str t,.int (.l a)]) (.tup [.str t,.int (.l b)])=some (decide (a=b)):=by
 have:eqv dN (.str t) (.str t)=some true:=by rcases e with rfl|rfl|rfl|rfl<;>rfl
 rw[rK (jF this (jF (eq_int a b) tv))];simp
theorem AE(a b:Int):eqv dN (vv a) (vv b)=some (decide (a=b)):=xO 2 (.inl rfl) a b
theorem MZ(a b:Bs):eqv dN a.v b.v=some (decide (a=b)):=by
 cases a<;>cases b
 ·rename_i i j;show eqv dN (.tup [.str 3,.int (.l i)]) (.tup [.str 3,.int (.l j)])=_
  rw[xO 3 (by simp)];simp
 ·rfl
 ·rfl
 ·rfl
 ·rename_i i j;cases i<;>cases j<;>rfl
 ·rfl
 ·rfl
 ·rfl
 ·rename_i i j;show eqv dN (vv i) (vv j)=_
  rw[AE];simp
theorem Zg(a b:Ck):eqv dN a.v b.v=some (decide (a=b)):=by
 obtain⟨e,o1,j⟩:=a;obtain⟨o,o2,p⟩:=b;show eqv dN (.tup [e.v,.int (.l o1),.int (.l j)]) (.tup [o.v,.int (.l o2),.int (.l p)])=_
 rw[rK (jF (MZ e o) (jF (eq_int o1 o2) (jF (eq_int j p) tv)))];simp[xZ]
theorem Zh(a b:Ek):eqv dN a.v b.v=some (decide (a=b)):=by
 cases a<;>cases b
 ·rename_i i j;show eqv dN (.tup [.str 3,.int (.l i),.tup []]) (.tup [.str 3,.int (.l j),.tup []])=_
  rw[rK (jF (b:=true) rfl (jF (eq_int i j) (c:=true) rfl))];simp
 ·rfl
 ·rfl
 ·rename_i i s t n;cases s<;>cases t<;>rfl
 ·rfl
 ·rename_i s c e o;show eqv dN (.tup [.str 4,.tup [.str (mn s),.int (.l c)],.tup []]) (.tup [.str 4,.tup [.str (mn e),.int (.l o)],.tup []])=_
  have hs:eqv dN (.str (mn s)) (.str (mn e))=some (decide (s=e)):=by cases s<;>cases e<;>rfl
  rw[rK (jF (b:=true) rfl (jF (rK (jF hs (jF (eq_int c o) tv))) (c:=true) rfl))];simp[xZ]
 ·rfl
 ·rename_i i c s t n;cases s<;>cases t<;>rfl
 ·rfl
 ·rfl
 ·rename_i c n o n';show eqv dN (.tup [.str 5,.int (.l 0),.tup [kv c,vv n]]) (.tup [.str 5,.int (.l 0),.tup [kv o,vv n']])=_
  rw[rK (jF (b:=true) rfl (jF (b:=true) rfl (jF (rK (jF (xO 0 (by simp) c o) (jF (AE n n') tv))) tv)))];simp[xZ]
 ·rename_i i c s t n;cases s<;>cases t<;>rfl
 ·rename_i s t n c;cases s<;>cases t<;>rfl
 ·rename_i s t n c o;cases s<;>cases t<;>rfl
 ·rename_i s t n c o;cases s<;>cases t<;>rfl
 ·rename_i s t n e p n';show eqv dN (.tup [.str (mO s t),.int (.l 0),.tup [vv n]]) (.tup [.str (mO e p),.int (.l 0),.tup [vv n']])=_
  have hs:eqv dN (.str (mO s t)) (.str (mO e p))=some (decide (s=e)&&decide (t=p)):=by cases s<;>cases t<;>cases e<;>cases p<;>rfl
  rw[rK (jF hs (jF (b:=true) rfl (jF (rK (jF (AE n n') tv)) tv)))];simp[xZ,Bool.and_assoc]
structure Enc{κ:Type} [DecidableEq κ](gm:κ->V)(c:Nat):Prop where
 eq:∀a b,eqv dN (gm a) (gm b)=some (decide (a=b))
 hs:∀a,jW (gm a) 6=true
 kd:∀a,kk (gm a)=c
 ne:c≠0
theorem jP:Enc (fun i:Int=>V.int (.l i)) 1:=⟨eq_int,fun _=>rfl,fun _=>rfl,by decide⟩
theorem lZ:Enc (fun i:Int=>vv i) 3:=⟨AE,fun _=>rfl,fun _=>rfl,by decide⟩
theorem qX:Enc Ck.v 3:=⟨Zg,fun a=>by obtain⟨b,_,_⟩:=a;cases b<;>rfl,fun _=>rfl,by decide⟩
theorem tF:Enc Ek.v 3:=⟨Zh,fun a=>by cases a<;>rfl,fun a=>by cases a<;>rfl,by decide⟩
def g9{κ α:Type}(gm:κ->V)(f:α->V)(l:List (κ×α)):List (V×V):=l.map fun p=>(gm p.1,f p.2)
def kX{κ α:Type} [DecidableEq κ](k:κ):List (κ×α)->List (κ×α)
 |[]=>[]
 |p::r=>if p.1=k then r else p::kX k r
section
variable{κ α:Type} [DecidableEq κ]{gm:κ->V}{c:Nat}(E:Enc gm c)(f:α->V)
include E
theorem pD(k:κ):∀l:List (κ×α),jH dN (gm k) (g9 gm f l)=some ((l.lookup k).map f)
 |[]=>rfl
 |(a,b)::r=>by
  show jH dN (gm k) ((gm a,f b)::g9 gm f r)=_
  simp only[jH,E.eq];rw[jT]
  by_cases h:a=k
  ·subst h;simp
  ·have:(k==a)=false:=km.mpr (kQ h);rw[this,m9 h];exact pD k r
theorem ux(k:κ)(v:V):∀l:List (κ×α),l.lookup k=none->qv dN (gm k) v (g9 gm f l)=some (g9 gm f l++[(gm k,v)])
 |[],_=>rfl
 |(a,b)::r,h=>by
  rw[jT]at h;show qv dN (gm k) v ((gm a,f b)::g9 gm f r)=_
  simp only[qv,E.eq];have hk:(k==a)=false:=by cases q:k==a with|false=>rfl|true=>rw[q]at h;cases h
  rw[hk]at h;have:¬a=k:=fun e=>by subst e;simp at hk
  rw[m9 this];show(match qv dN (gm k) v (g9 gm f r)with|some j=>_|.none=>_)=_
  rw[ux k v r h];rfl
theorem GP(k:κ):∀l:List (κ×α),qw dN (gm k) (g9 gm f l)=some (g9 gm f (kX k l))
 |[]=>rfl
 |(a,b)::r=>by
  show qw dN (gm k) ((gm a,f b)::g9 gm f r)=_
  simp only[qw,E.eq,kX]
  by_cases h:a=k
  ·subst h;simp
  ·rw[m9 h,bL h];show(match qw dN (gm k) (g9 gm f r)with|some e=>_|.none=>_)=_
   rw[GP k r];rfl
theorem je(k:κ)(l:List (κ×α)):jx (gm k) (g9 gm f l)=true:=by
 unfold jx;rw[E.hs,E.kd];have:Nat.beq c 0=false:=by rw[tq,m9 E.ne]
 rw[this];cases l with|nil=>rfl|cons p r=>show(true&&!false&&Nat.beq (kk (gm p.1)) c)=true;rw[E.kd,Nat.beq_refl];rfl
theorem tA(k:κ):∀l:List (κ×α),mem dN (gm k) ((g9 gm f l).map (·.1))=some (l.lookup k).isSome
 |[]=>rfl
 |(a,b)::r=>by
  show mem dN (gm k) (gm a::(g9 gm f r).map (·.1))=_
  simp only[mem,E.eq];rw[jT]
  by_cases h:a=k
  ·subst h;simp
  ·have:(k==a)=false:=km.mpr (kQ h);rw[this,m9 h];exact tA k r
theorem len_tab(l:List (κ×α)):(g9 gm f l).length=l.length:=by simp[g9]
end
theorem lq{n m:Nat}(h:n<m):Nat.blt n m=true:=Am h
theorem fX{α:Type}(a b:α):(bif true then a else b)=a:=rfl
theorem ki{α:Type}(a b:α):(bif false then a else b)=b:=rfl
def yk{H:Type}(x:R H (Fl×L))(r:Y H):R H (Fl×L):=match x with
 |.none=>.none
 |some ((f,l),s)=>match f with|.nx=>r l s|f=>some ((f,l),s)
section
variable{H:Type}(M:Mc H)(C:CH H)(l:L)(h:H)(n:Nat)
theorem el{α e:Type}(a:α)(s:St H)(f:α->St H->R H e):bO (some (a,s)) f=f a s:=rfl
theorem ff(l:L)(s:St H)(r:Y H):yk (some ((.nx,l),s)) r=r l s:=rfl
theorem iH(v:V)(l:L)(s:St H)(r:Y H):yk (some ((.rt v,l),s)) r=some ((.rt v,l),s):=rfl
theorem M0(l:L)(s:St H)(r:Y H):yk (some ((.cn,l),s)) r=some ((.cn,l),s):=rfl
theorem fp:cy M C [] l ⟨h,n⟩=some ((.nx,l),⟨h,n⟩):=rfl
theorem eM(c:S)(r:List S):cy M C (c::r) l ⟨h,n⟩=yk (eJ M C c l ⟨h,n⟩) (cy M C r):=rfl
theorem fY(i:Nat)(e:E):eJ M C (.as i e) l ⟨h,n⟩=bO (b9 M C e l ⟨h,n⟩) fun v s=>match bW l i v with
  |.none=>.none
  |some l=>some ((.nx,l),s):=rfl
theorem rl(o:E)(f:Nat)(e:E):eJ M C (.aa o f e) l ⟨h,n⟩=bO (b9 M C e l ⟨h,n⟩) fun v s=>bO (b9 M C o l s) fun x s=>bO (qt M x f v s) fun _ s=>some ((.nx,l),s):=rfl
theorem oP(o i e:E):eJ M C (.ai o i e) l ⟨h,n⟩=bO (b9 M C e l ⟨h,n⟩) fun v s=>bO (b9 M C o l s) fun x s=>bO (b9 M C i l s) fun j s=>bO (nP M x j v s) fun _ s=>some ((.nx,l),s):=rfl
theorem nX(t:List Ta)(e:E):eJ M C (.tp t e) l ⟨h,n⟩=bO (b9 M C e l ⟨h,n⟩) fun v s=>match eD M s.h v with
  |.none=>.none
  |some vs=>bO (iP M (pP M C t) vs l s) fun l s=>some ((.nx,l),s):=rfl
theorem aaL(o:E)(f:Nat)(e:E):eJ M C (.ga o f e) l ⟨h,n⟩=bO (b9 M C o l ⟨h,n⟩) fun x s=>bO (kR M x f s) fun u s=>bO (b9 M C e l s) fun v s=>bO (wc M u v s) fun w s=>bO (qt M x f w s) fun _ s=>some ((.nx,l),s):=rfl
theorem jk(e:E):eJ M C (.ex e) l ⟨h,n⟩=bO (b9 M C e l ⟨h,n⟩) fun _ s=>some ((.nx,l),s):=rfl
theorem fS(t:E)(a b:List S):eJ M C (.if t a b) l ⟨h,n⟩=bO (bO (b9 M C t l ⟨h,n⟩) fun v s=>qx M v s) fun c s=>match c with
  |true=>cy M C a l s
  |false=>cy M C b l s:=rfl
theorem iI(e:E):eJ M C (.rt e) l ⟨h,n⟩=bO (b9 M C e l ⟨h,n⟩) fun v s=>some ((.rt v,l),s):=rfl
theorem NI:eJ M C .co l ⟨h,n⟩=some ((.cn,l),⟨h,n⟩):=rfl
theorem mK(t:Tg)(i:Sr)(b:List S):eJ M C (.fo t i b) l ⟨h,n⟩=bO (tY M C i l ⟨h,n⟩) fun it s=>eU M it (dE M t (cy M C b)) (count M it s.h+1) 0 l s:=rfl
theorem aaM(t:E)(b:List S):eJ M C (.wh t b) l ⟨h,n⟩=u9 (xB M (b9 M C t)) (cy M C b) DM l ⟨h,n⟩:=rfl
theorem eZ(v:V):b9 M C (.c v) l ⟨h,n⟩=some (v,⟨h,n⟩):=rfl
theorem eF(i:Nat):b9 M C (.l i) l ⟨h,n⟩=iX (bA l i) ⟨h,n⟩:=rfl
theorem nY(j:Nat):b9 M C (.gl j) l ⟨h,n⟩=some (M.P.gv j,⟨h,n⟩):=rfl
theorem gz(e:E)(f:Nat):b9 M C (.at e f) l ⟨h,n⟩=bO (b9 M C e l ⟨h,n⟩) fun v s=>kR M v f s:=rfl
theorem gj(e i:E):b9 M C (.ix e i) l ⟨h,n⟩=bO (b9 M C e l ⟨h,n⟩) fun v s=>bO (b9 M C i l s) fun w s=>hQ M v w s:=rfl
theorem NJ(e lo hi:E):b9 M C (.sl e lo hi) l ⟨h,n⟩=bO (b9 M C e l ⟨h,n⟩) fun v s=>bO (b9 M C lo l s) fun a s=>bO (b9 M C hi l s) fun b s=>qs M v a b s:=rfl
theorem NK(e:E):b9 M C (.rv e) l ⟨h,n⟩=bO (b9 M C e l ⟨h,n⟩) fun v s=>D8 M v s:=rfl
theorem oQ(o:Bo)(a b:E):b9 M C (.bi o a b) l ⟨h,n⟩=bO (b9 M C a l ⟨h,n⟩) fun v s=>bO (b9 M C b l s) fun w s=>q9 M o v w s:=rfl
theorem tR(e:E):b9 M C (.ng e) l ⟨h,n⟩=bO (b9 M C e l ⟨h,n⟩) fun v s=>neg v s:=rfl
theorem yo(e:E):b9 M C (.nt e) l ⟨h,n⟩=bO (bO (b9 M C e l ⟨h,n⟩) fun v s=>qx M v s) fun b s=>some (.bool (!b),s):=rfl
theorem fG(o:Co)(a b:E):b9 M C (.cm o a b) l ⟨h,n⟩=bO (b9 M C a l ⟨h,n⟩) fun v s=>bO (b9 M C b l s) fun w s=>lR M o v w s:=rfl
theorem qz(t a b:E):b9 M C (.ie t a b) l ⟨h,n⟩=bO (bO (b9 M C t l ⟨h,n⟩) fun v s=>qx M v s) fun c s=>match c with
  |true=>b9 M C a l s
  |false=>b9 M C b l s:=rfl
theorem iJ(es:List E):b9 M C (.tu es) l ⟨h,n⟩=bO (dA M C es l ⟨h,n⟩) fun vs s=>some (.tup vs,s):=rfl
theorem nh(k:Option Nat)(es:List E):b9 M C (.li k es) l ⟨h,n⟩=bO (dA M C es l ⟨h,n⟩) fun vs s=>new M k (.list vs) s:=rfl
theorem Ef(k:Option Nat):b9 M C (.d0 k) l ⟨h,n⟩=new M k (.dict [] 0) ⟨h,n⟩:=rfl
theorem NL(e:E):b9 M C (.se e) l ⟨h,n⟩=bO (b9 M C e l ⟨h,n⟩) fun v s=>Ea M v s:=rfl
theorem lP(f:Nat)(es:List E):b9 M C (.cf f es) l ⟨h,n⟩=bO (dA M C es l ⟨h,n⟩) fun vs s=>C f vs s:=rfl
theorem uW(c:Nat)(k:Option Nat)(es:List E):b9 M C (.ck c k es) l ⟨h,n⟩=bO (dA M C es l ⟨h,n⟩) fun vs s=>make M C c k vs s:=rfl
theorem ky(b:Nat)(es:List E):b9 M C (.cb b es) l ⟨h,n⟩=bO (dA M C es l ⟨h,n⟩) fun vs s=>builtin M b vs s:=rfl
theorem ig(e:E)(m:Nat)(es:List E):b9 M C (.me e m es) l ⟨h,n⟩=bO (b9 M C e l ⟨h,n⟩) fun v s=>ic M C v m (dA M C es) l s:=rfl
theorem ma(e:E):b9 M C (.an [e]) l ⟨h,n⟩=b9 M C e l ⟨h,n⟩:=rfl
theorem lQ(e j:E)(r:List E):b9 M C (.an (e::j::r)) l ⟨h,n⟩=bO (b9 M C e l ⟨h,n⟩) fun v s=>bO (qx M v s) fun c s=>match c with
  |true=>b9 M C (.an (j::r)) l s
  |false=>some (v,s):=rfl
theorem tO(e:E):b9 M C (.or [e]) l ⟨h,n⟩=b9 M C e l ⟨h,n⟩:=rfl
theorem tS(e j:E)(r:List E):b9 M C (.or (e::j::r)) l ⟨h,n⟩=bO (b9 M C e l ⟨h,n⟩) fun v s=>bO (qx M v s) fun c s=>match c with
  |true=>some (v,s)
  |false=>b9 M C (.or (j::r)) l s:=rfl
theorem eN:dA M C [] l ⟨h,n⟩=some ([],⟨h,n⟩):=rfl
theorem eO(e:E)(r:List E):dA M C (e::r) l ⟨h,n⟩=bO (b9 M C e l ⟨h,n⟩) fun v s=>bO (dA M C r l s) fun vs s=>some (v::vs,s):=rfl
theorem rQ(e:E):tY M C (.ex e) l ⟨h,n⟩=bO (b9 M C e l ⟨h,n⟩) fun v s=>uE M v s:=rfl
theorem Zi(es:List E):tY M C (.rg es) l ⟨h,n⟩=bO (dA M C es l ⟨h,n⟩) fun vs s=>match range vs with
  |some xs=>some (.tu xs,s)
  |.none=>.none:=rfl
theorem Zj(e:E):tY M C (.en e) l ⟨h,n⟩=bO (b9 M C e l ⟨h,n⟩) fun v s=>match v with
  |.ref a=>match M.get s.h a with|.list _=>some (.en a,s)|_=>.none
  |_=>.none:=rfl
theorem fN(z:Z)(s:St H):iX (some (.int z)) s=some (.int z,s):=rfl
theorem rd(b:Bool)(s:St H):iX (some (.bool b)) s=some (.bool b,s):=rfl
theorem jh(k:Nat)(s:St H):iX (some (.str k)) s=some (.str k,s):=rfl
theorem iT(k:List V)(s:St H):iX (some (.tup k)) s=some (.tup k,s):=rfl
theorem eQ(k:Ad)(s:St H):iX (some (.ref k)) s=some (.ref k,s):=rfl
theorem vX(s:St H):iX (some .none) s=some (.none,s):=rfl
theorem HH{v:V}(e:v≠ .no)(s:St H):iX (some v) s=some (v,s):=by cases v<;>first|rfl|exact absurd rfl e
theorem qu{a:Ad}(o:O)(ha:a.live=true)(hk:M.ok a=true)(e:n<bu):upd M a o ⟨h,n⟩=some ((),⟨M.set h a o,n+1⟩):=by unfold upd;rw[ha,hk,lq e];rfl
theorem Dz{a:Ad}(o:O)(v:V)(ha:a.live=true)(hk:M.ok a=true)(e:n<bu):pL M a o v ⟨h,n⟩=some (v,⟨M.set h a o,n+1⟩):=by unfold pL;rw[qu M h n o ha hk e];rfl
theorem Mu(o:O)(hf:M.get h (.g n)=.free)(hk:M.ok (.g n)=true)(e:n<bu):new M .none o ⟨h,n⟩=some (.ref (.g n),⟨M.set h (.g n) o,n+1⟩):=by unfold new ya;simp only[hf,hk];rw[lq e];rfl
theorem rL(k:Nat)(o:O)(hf:M.get h (.s k)=.free)(hk:M.ok (.s k)=true)(hl:Nat.ble 16 k=true)(e:n<bu):new M (some k) o ⟨h,n⟩=some (.ref (.s k),⟨M.set h (.s k) o,n+1⟩):=by unfold new ya;simp only[hf,hk,Ad.live,hl];rw[lq e];rfl
theorem W7(x y:Z):wc M (.int x) (.int y) ⟨h,n⟩=match hV M.F .add x y with
   |some z=>some (.int z,⟨h,n⟩)
   |.none=>.none:=rfl
theorem AF(a b:Int):hV M.F .add (.l a) (.l b)=some (.l (a+b)):=rfl
theorem HI(a b:Int):hV M.F .sub (.l a) (.l b)=some (.l (a-b)):=rfl
theorem pG(o:Bo)(x y:Z):q9 M o (.int x) (.int y) ⟨h,n⟩=match hV M.F o x y with
   |some z=>some (.int z,⟨h,n⟩)
   |.none=>.none:=rfl
theorem fC(v:V):qx M v ⟨h,n⟩=uM (tW M h v) ⟨h,n⟩:=rfl
theorem fA(b:Bool):tW M h (.bool b)=some b:=rfl
theorem fe{α:Type}(a:α)(s:St H):uM (some a) s=some (a,s):=rfl
theorem gw(b:Bool)(s:St H):q0 (some b) s=some (.bool b,s):=rfl
theorem jQ(b:Bool)(s:St H):q8 (some b) s=some (.bool (!b),s):=rfl
theorem ij(a b:V):lR M .eq a b ⟨h,n⟩=q0 (kV M h a b) ⟨h,n⟩:=rfl
theorem sS(a b:V):lR M .ne a b ⟨h,n⟩=q8 (kV M h a b) ⟨h,n⟩:=rfl
theorem Eg(a b:V):lR M .is a b ⟨h,n⟩=q0 (same a b) ⟨h,n⟩:=rfl
theorem HJ(a b:V):lR M .wF a b ⟨h,n⟩=q8 (same a b) ⟨h,n⟩:=rfl
theorem jJ(a b:V):lR M .gk a b ⟨h,n⟩=q0 (dF M h a b) ⟨h,n⟩:=rfl
theorem vY(a b:V):lR M .nj a b ⟨h,n⟩=q8 (dF M h a b) ⟨h,n⟩:=rfl
theorem wt(a b:V):lR M .lt a b ⟨h,n⟩=q0 (tV M.F M.P.sl a b) ⟨h,n⟩:=rfl
theorem NM(a b:V):lR M .gt a b ⟨h,n⟩=q0 (tX M b a) ⟨h,n⟩:=rfl
theorem NO(a b:V):lR M .le a b ⟨h,n⟩=q8 (tX M b a) ⟨h,n⟩:=rfl
theorem wu(a b:V):lR M .ge a b ⟨h,n⟩=q8 (tX M a b) ⟨h,n⟩:=rfl
theorem uK{a:Ad}{es:List (V×V)}{ep:Nat}{v:V}{b:Bool}(hd:M.get h a=.dict es ep)(hk:jx v es=true)(e:D7 M v (es.map (·.1))=some b):dF M h v (.ref a)=some b:=by unfold dF;simp only[hd];rw[hk];exact e
theorem kT(h:Hp)(n:Nat)(k:List V)(i:V):hQ mM (.tup k) i ⟨h,n⟩=iX (jy k i) ⟨h,n⟩:=rfl
theorem nR(a:Ad)(i:V):hQ M (.ref a) i ⟨h,n⟩=match M.get h a with
  |.list l=>iX (jy l i) ⟨h,n⟩
  |.dict es _=>HZ M es i ⟨h,n⟩
  |_=>.none:=rfl
theorem vK{a:Ad}{es j:List (V×V)}{e:Nat}{i v:V}(hd:M.get h a=.dict es e)(hk:jx i es=true)(hl:es.length<bu)(hp:qv M.F i v es=some j)(o:j.length=es.length+1):
  nP M (.ref a) i v ⟨h,n⟩=upd M a (.dict j (e+1)) ⟨h,n⟩:=by
 unfold nP;simp only[hd];rw[hk,lq hl,hp];show upd M a (.dict j (bif Nat.beq j.length es.length then e else e+1)) ⟨h,n⟩=_
 rw[o];have:Nat.beq (es.length+1) es.length=false:=by rw[tq,m9 (by omega)]
 rw[this];rfl
theorem sJ(a:Ad)(m:Nat)(es:List E):ic M C (.ref a) m (dA M C es) l ⟨h,n⟩=match own M h a m with
  |some (some f)=>bO (dA M C es l ⟨h,n⟩) fun vs s=>C f (.ref a::vs) s
  |some .none=>bO (dA M C es l ⟨h,n⟩) fun vs t=>gO M (lx (M.get h a)) a m vs t
  |.none=>.none:=rfl
theorem W8{a:Ad}{m:Nat}{es:List V}(hi:M.get h a=.list es):own M h a m=some .none:=by unfold own;simp only[hi]
theorem Aa{a:Ad}{es:List (V×V)}{ep:Nat}{k d:V}{r:Option V}(hi:M.get h a=.dict es ep)(hk:jx k es=true)(hf:jH M.F k es=some r):gO M 1 a 2 [k,d] ⟨h,n⟩=some (r.getD d,⟨h,n⟩):=by unfold gO sG AQ;simp only[hi,lx,hf];rw[hk];cases r<;>rfl
theorem M5{a:Ad}{es:List V}{v:V}(hi:M.get h a=.list es)(hl:es.length<bu)(ha:a.live=true)(hk:M.ok a=true)(e:n<bu):gO M 0 a 0 [v] ⟨h,n⟩=some (.none,⟨M.set h a (.list (es++[v])),n+1⟩):=by unfold gO sG C9;simp only[hi,lx];rw[lq hl,Dz M h n _ _ ha hk e];rfl
end
section
variable(N:Ns)
theorem M6:uV N.st=g9 (fun i=>.int (.l i)) (fun v=>vv v) N.st:=rfl
theorem M7:wm N.hd=g9 (fun i=>vv i) (fun v=>.int (.l v)) N.hd:=rfl
theorem HK:sR N.ce=g9 Ck.v (fun a=>.ref (.g a)) N.ce:=rfl
theorem M8:wo N.pl=g9 (fun i=>vv i) (fun p=>.tup [p.1.v,.int (.l p.2)]) N.pl:=rfl
theorem Zk:wq N.fo=g9 (fun i=>vv i) (fun x=>x) N.fo:=rfl
theorem M9:wN N.ex=g9 Ek.v (fun v=>vv v) N.ex:=rfl
end
theorem nZ{H:Type}(M:Mc H)(h:H)(l:List V):eD M h (.tup l)=some l:=rfl
theorem oM{H:Type}(M:Mc H)(C:CH H):pP M C []=[]:=rfl
theorem oN{H:Type}(M:Mc H)(C:CH H)(i:Nat)(r:List Ta):pP M C (.nm i::r)=.nm i::pP M C r:=rfl
theorem Na{H:Type}(M:Mc H)(C:CH H)(e:E)(f:Nat)(r:List Ta):pP M C (.at e f::r)=.at (b9 M C e) f::pP M C r:=rfl
theorem oR{H:Type}(M:Mc H)(l:L)(s:St H):iP M [] [] l s=some (l,s):=rfl
theorem oS{H:Type}(M:Mc H)(l:L)(s:St H)(i:Nat)(ts:List (Tx H))(v:V)(r:List V):iP M (.nm i::ts) (v::r) l s=match bW l i v with
    |.none=>.none
    |some l=>iP M ts r l s:=rfl
theorem NP{H:Type}(M:Mc H)(l:L)(h:H)(n:Nat)(o:X H V)(f:Nat)(ts:List (Tx H))(v:V)(r:List V):iP M (.at o f::ts) (v::r) l ⟨h,n⟩=bO (o l ⟨h,n⟩) fun x s=>bO (qt M x f v s) fun _ s=>iP M ts r l s:=rfl
theorem DX{H:Type}(M:Mc H)(h:H)(n:Nat){a:Ad}{xs:List V}(e:M.get h a=.list xs):uE M (.ref a) ⟨h,n⟩=some (.li a,⟨h,n⟩):=by unfold uE iter;simp only[e];rfl
theorem Zl{H:Type}(M:Mc H)(h:H)(n:Nat)(xs:List V):uE M (.tup xs) ⟨h,n⟩=some (.tu xs,⟨h,n⟩):=rfl
theorem AG{H:Type}(M:Mc H)(h:H){a:Ad}{xs:List V}(e:M.get h a=.list xs):count M (.li a) h=xs.length:=by unfold count;simp only[e]
theorem gQ{H:Type}(M:Mc H)(C:CH H)(ar nl:Nat)(bd:List S)(as:List V)(h:H)(n:Nat)(ha:as.length=ar):enter M C ⟨ar,nl,bd⟩ as ⟨h,n⟩=ri (cy M C bd (as++fill (nl-ar)) ⟨h,n⟩):=by unfold enter;show(bif Nat.beq as.length ar then _ else _)=_;rw[ha,Nat.beq_refl];rfl
theorem jf{H:Type}(v:V)(l:L)(s:St H):ri (some ((.rt v,l),s))=some (v,s):=rfl
theorem oF{H:Type}(l:L)(s:St H):ri (some ((.nx,l),s))=some (.none,s):=rfl
theorem cN{f:Nat}{d:Fd}(e:bA Bq f=some d)(k:Nat)(as:List V)(h:Hp)(n:Nat):bH mM (k+1) f as ⟨h,n⟩=enter mM (bH mM k) d as ⟨h,n⟩:=by
 show(match mM.P.fn f with|none=>none|some d=>enter mM (bH mM k) d as ⟨h,n⟩)=_
 have e:mM.P.fn f=some d:=e;rw[e]
abbrev c0:=@cN 0 _ rfl
abbrev c1:=@cN 1 _ rfl
abbrev c2:=@cN 2 _ rfl
abbrev c3:=@cN 3 _ rfl
abbrev c4:=@cN 4 _ rfl
abbrev c5:=@cN 5 _ rfl
abbrev c6:=@cN 6 _ rfl
abbrev c7:=@cN 7 _ rfl
abbrev c8:=@cN 8 _ rfl
abbrev c9:=@cN 9 _ rfl
abbrev O1:=@cN 10 _ rfl
abbrev c11:=@cN 11 _ rfl
abbrev c13:=@cN 13 _ rfl
abbrev c17:=@cN 17 _ rfl
abbrev c18:=@cN 18 _ rfl
abbrev c19:=@cN 19 _ rfl
abbrev c20:=@cN 20 _ rfl
abbrev IW:=@cN 21 _ rfl
abbrev c22:=@cN 22 _ rfl
abbrev c24:=@cN 24 _ rfl
abbrev O2:=@cN 25 _ rfl
abbrev IX:=@cN 26 _ rfl
abbrev O3:=@cN 27 _ rfl
abbrev IY:=@cN 28 _ rfl
abbrev O4:=@cN 29 _ rfl
abbrev c31:=@cN 31 _ rfl
abbrev EZ:=@cN 32 _ rfl
abbrev sU:=@cN 33 _ rfl
abbrev yA:=@cN 34 _ rfl
abbrev E0:=@cN 35 _ rfl
abbrev IZ:=@cN 38 _ rfl
abbrev c45:=@cN 45 _ rfl
abbrev c46:=@cN 46 _ rfl
abbrev c47:=@cN 47 _ rfl
abbrev O5:=@cN 48 _ rfl
abbrev c49:=@cN 49 _ rfl
abbrev c50:=@cN 50 _ rfl
section
variable(N:Ns)(n:Nat)
theorem O6:kR mM bP 18 ⟨hh N,n⟩=iX (some N.fn) ⟨hh N,n⟩:=rfl
theorem By:kR mM bP 19 ⟨hh N,n⟩=some (.ref (.s 17),⟨hh N,n⟩):=rfl
theorem O7:kR mM bP 20 ⟨hh N,n⟩=some (.ref (.s 19),⟨hh N,n⟩):=rfl
theorem n21:kR mM bP 21 ⟨hh N,n⟩=some (.int (.l N.n),⟨hh N,n⟩):=rfl
theorem Bz:kR mM bP 22 ⟨hh N,n⟩=some (.ref (.s 21),⟨hh N,n⟩):=rfl
theorem yB:kR mM bP 24 ⟨hh N,n⟩=some (.ref (.s 23),⟨hh N,n⟩):=rfl
theorem I0:kR mM bP 25 ⟨hh N,n⟩=some (.ref (.s 24),⟨hh N,n⟩):=rfl
theorem BA:kR mM bP 26 ⟨hh N,n⟩=some (.ref (.s 25),⟨hh N,n⟩):=rfl
theorem BB:kR mM bP 27 ⟨hh N,n⟩=some (.ref (.s 26),⟨hh N,n⟩):=rfl
theorem E1:kR mM bP 28 ⟨hh N,n⟩=some (.ref (.s 27),⟨hh N,n⟩):=rfl
theorem wO:kR mM bP 29 ⟨hh N,n⟩=some (.ref (.s 28),⟨hh N,n⟩):=rfl
theorem I1:kR mM bP 30 ⟨hh N,n⟩=some (.ref (.s 29),⟨hh N,n⟩):=rfl
theorem n31:kR mM bP 31 ⟨hh N,n⟩=some (.bool N.ch,⟨hh N,n⟩):=rfl
theorem aaN(i:Int)(h:n<bu):qt mM bP 21 (.int (.l i)) ⟨hh N,n⟩=some ((),⟨hh {N with n:=i},n+1⟩):=by
 show upd mM (.s 16) (.inst 4 (put 21 (.int (.l i)) (Bw N.fn N.n N.ch))) ⟨hh N,n⟩=_
 rw[qu mM _ n _ rfl rfl h,aaJ]
theorem wx(b:Bool)(h:n<bu):qt mM bP 31 (.bool b) ⟨hh N,n⟩=some ((),⟨hh {N with ch:=b},n+1⟩):=by
 show upd mM (.s 16) (.inst 4 (put 31 (.bool b) (Bw N.fn N.n N.ch))) ⟨hh N,n⟩=_
 rw[qu mM _ n _ rfl rfl h,aaK]
variable(l:L)(C:CH Hp)(es:List E)
theorem vc:ic mM C bP 31 (dA mM C es) l ⟨hh N,n⟩=bO (dA mM C es l ⟨hh N,n⟩) fun vs s=>C 21 (bP::vs) s:=rfl
theorem O8:ic mM C bP 32 (dA mM C es) l ⟨hh N,n⟩=bO (dA mM C es l ⟨hh N,n⟩) fun vs s=>C 22 (bP::vs) s:=rfl
theorem wQ:ic mM C bP 34 (dA mM C es) l ⟨hh N,n⟩=bO (dA mM C es l ⟨hh N,n⟩) fun vs s=>C 24 (bP::vs) s:=rfl
theorem O9:ic mM C bP 35 (dA mM C es) l ⟨hh N,n⟩=bO (dA mM C es l ⟨hh N,n⟩) fun vs s=>C 25 (bP::vs) s:=rfl
theorem Pa:ic mM C bP 36 (dA mM C es) l ⟨hh N,n⟩=bO (dA mM C es l ⟨hh N,n⟩) fun vs s=>C 26 (bP::vs) s:=rfl
theorem BC:ic mM C bP 37 (dA mM C es) l ⟨hh N,n⟩=bO (dA mM C es l ⟨hh N,n⟩) fun vs s=>C 27 (bP::vs) s:=rfl
theorem BD:ic mM C bP 38 (dA mM C es) l ⟨hh N,n⟩=bO (dA mM C es l ⟨hh N,n⟩) fun vs s=>C 28 (bP::vs) s:=rfl
theorem I2:ic mM C bP 39 (dA mM C es) l ⟨hh N,n⟩=bO (dA mM C es l ⟨hh N,n⟩) fun vs s=>C 29 (bP::vs) s:=rfl
theorem Pb:ic mM C bP 40 (dA mM C es) l ⟨hh N,n⟩=bO (dA mM C es l ⟨hh N,n⟩) fun vs s=>C 30 (bP::vs) s:=rfl
theorem yC:ic mM C bP 41 (dA mM C es) l ⟨hh N,n⟩=bO (dA mM C es l ⟨hh N,n⟩) fun vs s=>C 31 (bP::vs) s:=rfl
theorem BE:ic mM C bP 42 (dA mM C es) l ⟨hh N,n⟩=bO (dA mM C es l ⟨hh N,n⟩) fun vs s=>C 32 (bP::vs) s:=rfl
theorem I3:ic mM C bP 43 (dA mM C es) l ⟨hh N,n⟩=bO (dA mM C es l ⟨hh N,n⟩) fun vs s=>C 33 (bP::vs) s:=rfl
theorem I4:ic mM C bP 44 (dA mM C es) l ⟨hh N,n⟩=bO (dA mM C es l ⟨hh N,n⟩) fun vs s=>C 34 (bP::vs) s:=rfl
theorem m45:ic mM C bP 45 (dA mM C es) l ⟨hh N,n⟩=bO (dA mM C es l ⟨hh N,n⟩) fun vs s=>C 35 (bP::vs) s:=rfl
theorem Pc:ic mM C bP 46 (dA mM C es) l ⟨hh N,n⟩=bO (dA mM C es l ⟨hh N,n⟩) fun vs s=>C 36 (bP::vs) s:=rfl
theorem m47:ic mM C bP 47 (dA mM C es) l ⟨hh N,n⟩=bO (dA mM C es l ⟨hh N,n⟩) fun vs s=>C 37 (bP::vs) s:=rfl
theorem m48:ic mM C bP 48 (dA mM C es) l ⟨hh N,n⟩=bO (dA mM C es l ⟨hh N,n⟩) fun vs s=>C 38 (bP::vs) s:=rfl
theorem Pe:ic mM C bP 49 (dA mM C es) l ⟨hh N,n⟩=bO (dA mM C es l ⟨hh N,n⟩) fun vs s=>C 39 (bP::vs) s:=rfl
theorem m50:ic mM C bP 50 (dA mM C es) l ⟨hh N,n⟩=bO (dA mM C es l ⟨hh N,n⟩) fun vs s=>C 40 (bP::vs) s:=rfl
theorem AZ(k:Int):dF mM (hh N) (.int (.l k)) (.ref (.s 17))=some (N.on.lookup k).isSome:=uK mM _ (OZ N) (je jP (fun _=>.bool true) k N.on) (tA jP (fun _=>.bool true) k N.on)
theorem Eh(k:Int):dF mM (hh N) (.int (.l k)) (.ref (.s 19))=some (N.pr.lookup k).isSome:=uK mM _ (O0 N) (je jP (fun _=>.bool true) k N.pr) (tA jP (fun _=>.bool true) k N.pr)
theorem Ik(k:Int):dF mM (hh N) (.int (.l k)) (.ref (.s 21))=some (N.st.lookup k).isSome:=uK mM _ (IU N) (je jP (fun v=>vv v) k N.st) (tA jP (fun v=>vv v) k N.st)
theorem Il(k:Int):hQ mM (.ref (.s 21)) (.int (.l k)) ⟨hh N,n⟩=match N.st.lookup k with
  |some x=>some ((fun v=>vv v) x,⟨hh N,n⟩)
  |none=>none:=by
 rw[nR,IU];show(bif jx (.int (.l k)) _ then(match jH dN (.int (.l k)) _ with|some (some v)=>some (v,_)|_=>.none)else .none)=_
 rw[M6,je jP,pD jP];cases N.st.lookup k<;>rfl
theorem aaO(k:Ck):dF mM (hh N) (k.v) (.ref (.s 23))=some (N.ce.lookup k).isSome:=uK mM _ (Bx N) (je qX (fun a=>.ref (.g a)) k N.ce) (tA qX (fun a=>.ref (.g a)) k N.ce)
theorem aaP(k:Ck):hQ mM (.ref (.s 23)) (k.v) ⟨hh N,n⟩=match N.ce.lookup k with
  |some x=>some ((fun a=>.ref (.g a)) x,⟨hh N,n⟩)
  |none=>none:=by
 rw[nR,Bx];show(bif jx (k.v) _ then(match jH dN (k.v) _ with|some (some v)=>some (v,_)|_=>.none)else .none)=_
 rw[HK,je qX,pD qX];cases N.ce.lookup k<;>rfl
theorem aaQ(k:Int):dF mM (hh N) (vv k) (.ref (.s 24))=some (N.pl.lookup k).isSome:=uK mM _ (IV N) (je lZ (fun p:Bs×Int=>V.tup [p.1.v,.int (.l p.2)]) k N.pl) (tA lZ (fun p:Bs×Int=>V.tup [p.1.v,.int (.l p.2)]) k N.pl)
theorem aaR(k:Int):hQ mM (.ref (.s 24)) (vv k) ⟨hh N,n⟩=match N.pl.lookup k with
  |some x=>some ((fun p:Bs×Int=>V.tup [p.1.v,.int (.l p.2)]) x,⟨hh N,n⟩)
  |none=>none:=by
 rw[nR,IV];show(bif jx (vv k) _ then(match jH dN (vv k) _ with|some (some v)=>some (v,_)|_=>.none)else .none)=_
 rw[M8,je lZ,pD lZ];cases N.pl.lookup k<;>rfl
theorem wy(k:Ek):dF mM (hh N) (k.v) (.ref (.s 26))=some (N.ex.lookup k).isSome:=by cases k<;>exact uK mM _ (EX N) (je tF (fun v=>vv v) _ N.ex) (tA tF (fun v=>vv v) _ N.ex)
theorem Im(k:Ek):hQ mM (.ref (.s 26)) (k.v) ⟨hh N,n⟩=match N.ex.lookup k with
  |some x=>some ((fun v=>vv v) x,⟨hh N,n⟩)
  |none=>none:=by
 rw[nR,EX];show(bif jx (k.v) _ then(match jH dN (k.v) _ with|some (some v)=>some (v,_)|_=>.none)else .none)=_
 rw[M9,je tF,pD tF];cases N.ex.lookup k<;>rfl
theorem NQ(k:Int):dF mM (hh N) (vv k) (.ref (.s 27))=some (N.hd.lookup k).isSome:=uK mM _ (EY N) (je lZ (fun v=>.int (.l v)) k N.hd) (tA lZ (fun v=>.int (.l v)) k N.hd)
theorem NR(k:Int):hQ mM (.ref (.s 27)) (vv k) ⟨hh N,n⟩=match N.hd.lookup k with
  |some x=>some ((fun v=>.int (.l v)) x,⟨hh N,n⟩)
  |none=>none:=by
 rw[nR,EY];show(bif jx (vv k) _ then(match jH dN (vv k) _ with|some (some v)=>some (v,_)|_=>.none)else .none)=_
 rw[M7,je lZ,pD lZ];cases N.hd.lookup k<;>rfl
theorem vZ(k:Int)(d:V):gO mM 1 (.s 28) 2 [vv k,d] ⟨hh N,n⟩=some (d,⟨hh N,n⟩):=Aa mM _ n (g28 N) rfl rfl
theorem wz:ic mM C (.ref (.s 28)) 2 (dA mM C es) l ⟨hh N,n⟩=bO (dA mM C es l ⟨hh N,n⟩) fun vs t=>gO mM 1 (.s 28) 2 vs t:=rfl
end
theorem Vv(N:Ns)(r v:Int)(h:N.st.lookup r=none):qv mM.F (.int (.l r)) (vv v) (uV N.st)=some (uV N.st++[(.int (.l r),vv v)]):=ux jP (fun v=>vv v) r (vv v) N.st h
theorem DY(N:Ns)(n:Nat)(r v:Int)(h:N.st.lookup r=none)(e:n<bu)(hl:N.st.length<bu):nP mM (.ref (.s 21)) (.int (.l r)) (vv v) ⟨hh N,n⟩=some ((),⟨hh {N with st:=N.st++[(r,v)],t6:=N.t6+1},n+1⟩):=by rw[vK mM _ n (IU N) (je jP (fun v=>vv v) r N.st) (by rw[M6,len_tab jP];exact hl) (Vv N r v h) (by simp),qu mM _ n _ rfl rfl e,s21]
theorem Zm(N:Ns)(n:Nat)(k:Ck)(a:Nat)(h:N.ce.lookup k=none)(e:n<bu)(hl:N.ce.length<bu):nP mM (.ref (.s 23)) k.v (.ref (.g a)) ⟨hh N,n⟩=some ((),⟨hh {N with ce:=N.ce++[(k,a)],mP:=N.mP+1},n+1⟩):=by rw[vK mM _ n (Bx N) (je qX (fun a=>.ref (.g a)) k N.ce) (by rw[HK,len_tab qX];exact hl) (ux qX (fun a=>.ref (.g a)) k (.ref (.g a)) N.ce h) (by rw[cU];rfl),qu mM _ n _ rfl rfl e];rw[show g9 Ck.v (fun a=>V.ref (.g a)) N.ce=sR N.ce from rfl,s23]
theorem DZ(N:Ns)(n:Nat)(v:Int)(b:Bs)(o:Int)(h:N.pl.lookup v=none)(e:n<bu)(hl:N.pl.length<bu):nP mM (.ref (.s 24)) (vv v) (.tup [b.v,.int (.l o)]) ⟨hh N,n⟩=some ((),⟨hh {N with pl:=N.pl++[(v,(b,o))],rZ:=N.rZ+1},n+1⟩):=by rw[vK mM _ n (IV N) (je lZ (fun p:Bs×Int=>V.tup [p.1.v,.int (.l p.2)]) v N.pl) (by rw[M8,len_tab lZ];exact hl) (ux lZ (fun p:Bs×Int=>V.tup [p.1.v,.int (.l p.2)]) v _ N.pl h) (by rw[cU];rfl),qu mM _ n _ rfl rfl e];rw[show g9 (fun i=>vv i) (fun p:Bs×Int=>V.tup [p.1.v,.int (.l p.2)]) N.pl=wo N.pl from rfl,s24]
theorem AH(N:Ns)(n:Nat)(v:Int)(x:V)(h:N.fo.lookup v=none)(e:n<bu)(hl:N.fo.length<bu):nP mM (.ref (.s 25)) (vv v) x ⟨hh N,n⟩=some ((),⟨hh {N with fo:=N.fo++[(v,x)],wK:=N.wK+1},n+1⟩):=by rw[vK mM _ n (g25 N) (je lZ (fun x=>x) v N.fo) (by rw[Zk,len_tab lZ];exact hl) (ux lZ (fun x=>x) v x N.fo h) (by rw[cU];rfl),qu mM _ n _ rfl rfl e];rw[show g9 (fun i=>vv i) (fun x=>x) N.fo=wq N.fo from rfl,s25]
theorem Zn(N:Ns)(n:Nat)(k:Ek)(v:Int)(h:N.ex.lookup k=none)(e:n<bu)(hl:N.ex.length<bu):nP mM (.ref (.s 26)) k.v (vv v) ⟨hh N,n⟩=some ((),⟨hh {N with ex:=N.ex++[(k,v)],wL:=N.wL+1},n+1⟩):=by rw[vK mM _ n (EX N) (je tF (fun v=>vv v) k N.ex) (by rw[M9,len_tab tF];exact hl) (ux tF (fun v=>vv v) k (vv v) N.ex h) (by rw[cU];rfl),qu mM _ n _ rfl rfl e];rw[show g9 Ek.v (fun v=>vv v) N.ex=wN N.ex from rfl,s26]
theorem Zo(N:Ns)(n:Nat)(v r:Int)(h:N.hd.lookup v=none)(e:n<bu)(hl:N.hd.length<bu):nP mM (.ref (.s 27)) (vv v) (.int (.l r)) ⟨hh N,n⟩=some ((),⟨hh {N with hd:=N.hd++[(v,r)],wM:=N.wM+1},n+1⟩):=by rw[vK mM _ n (EY N) (je lZ (fun v=>.int (.l v)) v N.hd) (by rw[M7,len_tab lZ];exact hl) (ux lZ (fun v=>.int (.l v)) v (.int (.l r)) N.hd h) (by rw[cU];rfl),qu mM _ n _ rfl rfl e];rw[show g9 (fun i=>vv i) (fun v=>.int (.l v)) N.hd=wm N.hd from rfl,s27]
theorem Io(N:Ns)(n:Nat)(l:L)(C:CH Hp)(es:List E):ic mM C (.ref (.s 29)) 0 (dA mM C es) l ⟨hh N,n⟩=bO (dA mM C es l ⟨hh N,n⟩) fun vs t=>gO mM 0 (.s 29) 0 vs t:=rfl
theorem HL(N:Ns)(n:Nat)(v:V)(hl:N.lg.length<bu)(e:n<bu):gO mM 0 (.s 29) 0 [v] ⟨hh N,n⟩=some (.none,⟨hh {N with lg:=N.lg++[v]},n+1⟩):=by rw[M5 mM _ n (g29 N) hl rfl rfl e,s29]
theorem aaS(N:Ns)(n:Nat)(l:L)(C:CH Hp)(es:List E):ic mM C (.ref (.s 27)) 2 (dA mM C es) l ⟨hh N,n⟩=bO (dA mM C es l ⟨hh N,n⟩) fun vs t=>gO mM 1 (.s 27) 2 vs t:=rfl
theorem aaT(N:Ns)(n:Nat)(l:L)(C:CH Hp)(es:List E):ic mM C (.ref (.s 26)) 2 (dA mM C es) l ⟨hh N,n⟩=bO (dA mM C es l ⟨hh N,n⟩) fun vs t=>gO mM 1 (.s 26) 2 vs t:=rfl
theorem aaU(N:Ns)(n:Nat)(l:L)(C:CH Hp)(es:List E):ic mM C (.ref (.s 23)) 2 (dA mM C es) l ⟨hh N,n⟩=bO (dA mM C es l ⟨hh N,n⟩) fun vs t=>gO mM 1 (.s 23) 2 vs t:=rfl
theorem Zp(N:Ns)(n:Nat)(k:Int)(d:V)(h:N.hd.lookup k=none):gO mM 1 (.s 27) 2 [vv k,d] ⟨hh N,n⟩=some (d,⟨hh N,n⟩):=Aa mM _ n (EY N) (je lZ (fun v=>.int (.l v)) k N.hd) ((pD lZ (fun v=>.int (.l v)) k N.hd).trans (by rw[h]<;>rfl))
theorem Zq(N:Ns)(n:Nat)(k:Ek)(d:V)(h:N.ex.lookup k=none):gO mM 1 (.s 26) 2 [k.v,d] ⟨hh N,n⟩=some (d,⟨hh N,n⟩):=Aa mM _ n (EX N) (je tF (fun v=>vv v) k N.ex) ((pD tF (fun v=>vv v) k N.ex).trans (by rw[h]<;>rfl))
theorem Zr(N:Ns)(n:Nat)(k:Ck)(d:V)(h:N.ce.lookup k=none):gO mM 1 (.s 23) 2 [k.v,d] ⟨hh N,n⟩=some (d,⟨hh N,n⟩):=Aa mM _ n (Bx N) (je qX (fun a=>.ref (.g a)) k N.ce) ((pD qX (fun a=>.ref (.g a)) k N.ce).trans (by rw[h]<;>rfl))
local macro_rules |`(tactic|walk_at "k1")=>`(tactic|first | assumption | omega | (simp only [cU, cT, cQ]; omega) | with_unfolding_all rfl)
local macro_rules |`(tactic|walk_at "k2")=>`(tactic|simp(disch:=walk_at "k1")only[el,ff,iH,fp,eM,fY,oP,aaL,jk,fS,iI,eZ,eF,gz,gj,fG,iJ,ig,eN,eO,fN,iT,eQ,HH,W7,AF,fC,fA,fe,gw,jQ,jJ,vY,gQ,jf,oF,bA,bW,fill,fb,eY,Option.isSome,ft, *,By,n21,Bz,wO,I1,aaN,AZ,Ik,Il,wz,vZ,aaU,aaT,aaS,Io,Zr,Zq,Zp,HL,Zm,Zn,Zo])
theorem vG(N:Ns)(nx k:Nat)(h:nx<bu):bH mM (k+1) 24 [bP] ⟨hh N,nx⟩=some (vv (N.n+1),⟨hh {N with n:=N.n+1},nx+1⟩):=by rw[c24];unfold zg;walk_at "k2"
theorem K5(N:Ns)(nx k:Nat)(r v:Int)(ho:N.on.lookup r=some ())(hs:N.st.lookup r=some v):bH mM (k+2) 25 [bP,.int (.l r)] ⟨hh N,nx⟩=some (vv v,⟨hh N,nx⟩):=by rw[O2];unfold xn;walk_at "k2"
abbrev Ns.wR(N:Ns)(v r:Int):Ns:={N with lg:=N.lg++[.tup [.ref (.s 27),vv v,.none]],hd:=N.hd++[(v,r)],wM:=N.wM+1}
abbrev Ns.mq(N:Ns)(k:Ek)(v:Int):Ns:={N with lg:=N.lg++[.tup [.ref (.s 26),k.v,.none]],ex:=N.ex++[(k,v)],wL:=N.wL+1}
abbrev Ns.vd(N:Ns)(k:Ck)(a:Nat):Ns:={N with lg:=N.lg++[.tup [.ref (.s 23),k.v,.none]],ce:=N.ce++[(k,a)],mP:=N.mP+1}
theorem Mv(N:Ns)(nx k:Nat)(v r:Int)(h:N.hd.lookup v=none)(e:nx+1<bu)(hl:N.hd.length<bu)(j:N.lg.length<bu):
  bH mM (k+1) 21 [bP,.ref (.s 27),vv v,.int (.l r)] ⟨hh N,nx⟩=some (.none,⟨hh (N.wR v r),nx+2⟩):=by
 rw[IW];unfold vw;walk_at "k2"
 all_goals rfl
theorem vL(N:Ns)(nx k:Nat)(e:Ek)(v:Int)(h:N.ex.lookup e=none)(j:nx+1<bu)(hl:N.ex.length<bu)(o:N.lg.length<bu):
  bH mM (k+1) 21 [bP,.ref (.s 26),e.v,vv v] ⟨hh N,nx⟩=some (.none,⟨hh (N.mq e v),nx+2⟩):=by
 have p:e.v≠ .no:=by cases e<;>simp[Ek.v]
 rw[IW];unfold vw;walk_at "k2"
 all_goals rfl
theorem W9(N:Ns)(nx k:Nat)(e:Ck)(a:Nat)(h:N.ce.lookup e=none)(j:nx+1<bu)(hl:N.ce.length<bu)(o:N.lg.length<bu):
  bH mM (k+1) 21 [bP,.ref (.s 23),e.v,.ref (.g a)] ⟨hh N,nx⟩=some (.none,⟨hh (N.vd e a),nx+2⟩):=by
 have p:e.v≠ .no:=by simp[Ck.v]
 rw[IW];unfold vw;walk_at "k2"
 all_goals rfl
theorem kN{κ α:Type} [DecidableEq κ]{l:List (κ×α)}{k:κ}{v:α}(h:l.lookup k=none):(l++[(k,v)]).lookup k=some v:=by rw[Dn,h];simp
theorem kb{κ α:Type} [DecidableEq κ]{l:List (κ×α)}{k j:κ}{u v:α}(h:l.lookup k=some u):(l++[(j,v)]).lookup k=some u:=by rw[Dn,h];rfl
theorem uA{κ α:Type} [DecidableEq κ]{l:List (κ×α)}{k j:κ}{v:α}(h:k≠j):(l++[(j,v)]).lookup k=l.lookup k:=by rw[Dn];have:(k==j)=false:=km.mpr h;cases l.lookup k<;>simp[jT,this]
theorem jV(a:V)(r:List V):jy (a::r) (.int (.l 0))=some a:=rfl
theorem mL(a b:V)(r:List V):jy (a::b::r) (.int (.l 1))=some b:=rfl
theorem Ei(a b c:V)(r:List V):jy (a::b::c::r) (.int (.l 2))=some c:=rfl
theorem Ip(h:Hp)(a b:Int):kV mM h (vv a) (vv b)=some (decide (a=b)):=(show _=eqv dN (vv a) (vv b) from rfl).trans (AE a b)
theorem kc(h:Hp)(a b:Nat):kV mM h (.str a) (.str b)=wa dN a b:=rfl
theorem n4(h:Hp)(a b:Int):kV mM h (.int (.l a)) (.int (.l b))=some (decide (a=b)):=rfl
theorem jR{a b:Nat}(ha:a<1000)(e:b<1000):wa dN a b=some (a==b):=by
 unfold wa;rw[tq]
 by_cases h:a=b
 ·simp[h]
 ·have:((dN.cl a).all fun i=>(dN.cl b).all fun j=>!(Nat.beq i j))=true:=by
   show((bif Nat.blt a 1000 then[a]else[0]).all fun i=>(bif Nat.blt b 1000 then[b]else[0]).all fun j=>!(Nat.beq i j))=true
   rw[lq ha,lq e];simp[tq,h]
  rw[this];simp[h]
theorem vM:same .none .none=some true:=rfl
theorem Ab(l:List V):same (.tup l) .none=some false:=rfl
theorem cL{α:Type}{a b:Nat}{x y:α}(h:a≠b):(if a=b then x else y)=y:=bL h
theorem dj{α:Type}{a b:Nat}{x y:α}(h:a=b):(if a=b then x else y)=x:=df h
local macro_rules |`(tactic|walk_at "k3")=>`(tactic|simp(disch:=walk_at "k1")only[el,ff,iH,fp,eM,fY,oP,fS,iI,eZ,eF,gz,gj,fG,qz,iJ,ig,ma,lQ,eN,eO,fN,jh,iT,eQ,fC,fA,fe,gw,jQ,ij,jJ,vY,kT,gQ,jf,bA,bW,fill,fb,eY,Option.isSome,gy, *,By,Bz,E1,wO,wQ,O9,BC,AZ,Ik,NQ,Il,NR,wz,vZ,kN,jV,mL,Ip,kc,jR,jS,lL,Nat.reduceBEq,vG,K5,tL,DY])
abbrev Ns.first(N:Ns)(r:Int):Ns:={N with n:=N.n+1,st:=N.st++[(r,N.n+1)],t6:=N.t6+1}
theorem Vw(N:Ns)(nx k:Nat)(r:Int)(ho:N.on.lookup r=some ())(hs:N.st.lookup r=none)(e:nx+1<bu)(hl:N.st.length<bu):bH mM (k+2) 25 [bP,.int (.l r)] ⟨hh N,nx⟩=some (vv (N.n+1),⟨hh (N.first r),nx+2⟩):=by
 rw[O2];unfold xn;walk_at "k3"
 all_goals rfl
local macro_rules |`(tactic|walk_at "k4")=>`(tactic|simp(disch:=walk_at "k1")only[el,ff,iH,fp,eM,fY,oP,fS,iI,eZ,eF,gz,gj,fG,qz,iJ,ig,ma,lQ,eN,eO,fN,jh,iT,eQ,fC,fA,fe,gw,jQ,ij,jJ,vY,kT,gQ,jf,bA,bW,fill,fb,eY,Option.isSome,gy, *,By,Bz,E1,wO,wQ,O9,BC,AZ,Ik,NQ,Il,NR,wz,vZ,kN,jV,mL,Ip,kc,jR,jS,lL,Nat.reduceBEq,vG,K5,Vw,tL,DY])
theorem Nb(N:Ns)(nx k:Nat)(c:Int):bH mM (k+1) 26 [bP,kv c] ⟨hh N,nx⟩=some (kv c,⟨hh N,nx⟩):=by rw[IX];unfold vu;walk_at "k4"
theorem K6(N:Ns)(nx k:Nat)(r v:Int)(ho:N.on.lookup r=some ())(hs:N.st.lookup r=some v):bH mM (k+3) 26 [bP,rv r] ⟨hh N,nx⟩=some (vv v,⟨hh N,nx⟩):=by rw[IX];unfold vu;walk_at "k4"
theorem L2(N:Ns)(nx k:Nat)(r:Int)(ho:N.on.lookup r=some ())(hs:N.st.lookup r=none)(e:nx+1<bu)(hl:N.st.length<bu):bH mM (k+3) 26 [bP,rv r] ⟨hh N,nx⟩=some (vv (N.n+1),⟨hh (N.first r),nx+2⟩):=by rw[IX];unfold vu;walk_at "k4"
theorem Ge(N:Ns)(nx k:Nat)(r v:Int)(ho:N.on.lookup r=some ())(hs:N.st.lookup r=none):bH mM (k+1) 27 [bP,.int (.l r),vv v] ⟨hh N,nx⟩=some (.bool false,⟨hh N,nx⟩):=by rw[O3];unfold xp;walk_at "k4"
theorem Sz(N:Ns)(nx k:Nat)(r v w:Int)(ho:N.on.lookup r=some ())(hs:N.st.lookup r=some w):bH mM (k+1) 27 [bP,.int (.l r),vv v] ⟨hh N,nx⟩=some (.bool (decide (w=v)),⟨hh N,nx⟩):=by rw[O3];unfold xp;walk_at "k4"
theorem NS(N:Ns)(nx k:Nat)(c:Int):bH mM (k+1) 28 [bP,kv c] ⟨hh N,nx⟩=some (kv c,⟨hh N,nx⟩):=by rw[IY];unfold vr;walk_at "k4"
theorem zQ(N:Ns)(nx k:Nat)(v:Int)(h:N.hd.lookup v=none):bH mM (k+1) 28 [bP,vv v] ⟨hh N,nx⟩=some (.none,⟨hh N,nx⟩):=by rw[IY];unfold vr;walk_at "k4"
theorem zR(N:Ns)(nx k:Nat)(v r:Int)(h:N.hd.lookup v=some r)(ho:N.on.lookup r=some ())(hs:N.st.lookup r=some v):bH mM (k+2) 28 [bP,vv v] ⟨hh N,nx⟩=some (rv r,⟨hh N,nx⟩):=by have q:=Sz N nx k r v v ho hs;rw[IY];unfold vr;walk_at "k4"
theorem I5(N:Ns)(n i:Nat)(l:L)(C:CH Hp)(es:List E)(xs:List V)(h:N.g i=.list xs):ic mM C (.ref (.g i)) 0 (dA mM C es) l ⟨hh N,n⟩=bO (dA mM C es l ⟨hh N,n⟩) fun vs t=>gO mM 0 (.g i) 0 vs t:=by
 rw[sJ,W8 mM _ (show mM.get (hh N) (.g i)=.list xs from h)];show bO _ (fun vs t=>gO mM (lx (N.g i)) (.g i) 0 vs t)=_
 rw[h];rfl
theorem Hn(N:Ns)(n i:Nat)(xs:List V)(v:V)(h:N.g i=.list xs)(hl:xs.length<bu)(e:n<bu):gO mM 0 (.g i) 0 [v] ⟨hh N,n⟩=some (.none,⟨hh {N with g:=fun j=>if j=i then .list (xs++[v])else N.g j},n+1⟩):=by rw[M5 mM _ n (show mM.get (hh N) (.g i)=.list xs from h) hl rfl rfl e,sg]
theorem wA(N:Ns)(n:Nat)(o:O)(hf:N.g n=.free)(e:n<bu):new mM .none o ⟨hh N,n⟩=some (.ref (.g n),⟨hh {N with g:=fun j=>if j=n then o else N.g j},n+1⟩):=by rw[Mu mM _ n o (show mM.get (hh N) (.g n)=.free from hf) rfl e,sg]
local macro_rules |`(tactic|walk_at "k5")=>`(tactic|simp(disch:=walk_at "k1")only[el,ff,iH,fp,eM,fY,oP,nX,jk,fS,iI,eZ,eF,gz,gj,fG,iJ,nh,ig,ma,lQ,eN,eO,fN,jh,iT,eQ,vX,fC,fA,fe,gw,ij,Eg,jJ,kT,gQ,jf,oF,bA,bW,fill,fb,eY,Option.isSome, *,By,Bz,E1,vc,Pa,BD,AZ,jV,mL,kc,jR,Nat.reduceBEq,Mv,Nb,K6,L2,NS,zQ,zR,vM,Ab,DY])
abbrev Ns.oT(N:Ns)(d v:Int):Ns:={N with st:=N.st++[(d,v)],t6:=N.t6+1}
theorem G0(N:Ns)(nx k:Nat)(d v:Int)(hd:N.on.lookup d=some ())(hs:N.st.lookup d=none)(e:N.hd.lookup v=none)(j:nx+3<bu)(o:N.st.length<bu)(p:N.lg.length<bu)(q:N.hd.length<bu):
  bH mM (k+3) 29 [bP,.int (.l d),vv v] ⟨hh N,nx⟩=some (.none,⟨hh ((N.oT d v).wR v d),nx+3⟩):=by
 rw[O4];unfold xq;walk_at "k5"
 all_goals rfl
theorem Uw(N:Ns)(nx k:Nat)(d v r:Int)(hd:N.on.lookup d=some ())(hs:N.st.lookup d=none)(o:N.hd.lookup v=some r)(hr:N.on.lookup r=some ())(e:N.st.lookup r=some v)(p:nx+3<bu)(q:N.st.length<bu):
  bH mM (k+3) 29 [bP,.int (.l d),vv v] ⟨hh N,nx⟩=some (.none,⟨hh (N.oT d v),nx+1⟩):=by
 have j:(N.st++[(d,v)]).lookup r=some v:=kb e;rw[O4];unfold xq;walk_at "k5"
 all_goals rfl
inductive Tk(N:Ns):V->Ns->V->V->Prop
 |k (c:Int):Tk N (kv c) N (kv c) (kv c)
 |known (r v h:Int):N.on.lookup r=some ()->N.st.lookup r=some v->N.hd.lookup v=some h->N.on.lookup h=some ()->N.st.lookup h=some v->Tk N (rv r) N (vv v) (rv h)
 |new (r:Int):N.on.lookup r=some ()->N.st.lookup r=none->N.hd.lookup (N.n+1)=none->Tk N (rv r) ((N.first r).wR (N.n+1) r) (vv (N.n+1)) (rv r)
abbrev Ns.wg(N:Ns)(g:Nat->O):Ns:={N with g:=g}
def Ac:List S:=[.as 5 (.me (.l 0) 36 [.l 4]),
 .ex (.me (.l 2) 0 [.l 5]),
 .as 6 (.me (.l 0) 38 [.l 5]),
 .if (.cm .is (.l 6) (.c .none)) [.ex (.me (.l 0) 31 [.at (.l 0) 28,.l 5,.ix (.l 4) (.c (.int (.l 1)))]),
 .as 6 (.l 4)] [],
 .ex (.me (.l 3) 0 [.l 6])]
theorem aaV(k:Nat)(as:List V)(h:Hp)(n:Nat):bH mM (k+1) 30 as ⟨h,n⟩=enter mM (bH mM k) ⟨2,7,[.tp [.nm 2,.nm 3] (.tu [.li .none [],.li .none []]),.fo (.nm 4) (.ex (.l 1)) Ac,.rt (.tu [.l 2,.l 3])]⟩ as ⟨h,n⟩:=rfl
structure cF(N:Ns)(nx m:Nat):Prop where
 nx:nx+m<bu
 st:N.st.length+m<bu
 ce:N.ce.length+m<bu
 pl:N.pl.length+m<bu
 fo:N.fo.length+m<bu
 ex:N.ex.length+m<bu
 hd:N.hd.length+m<bu
 lg:N.lg.length+m<bu
local macro_rules |`(tactic|walk_at "k6")=>`(tactic|simp(disch:=walk_at "k1")only[el,ff,iH,fp,eM,fY,oP,nX,jk,fS,iI,eZ,eF,gz,gj,fG,iJ,nh,ig,ma,lQ,eN,eO,fN,jh,iT,eQ,vX,fC,fA,fe,gw,ij,Eg,jJ,kT,gQ,jf,oF,bA,bW,fill,fb,eY,Option.isSome, *,By,Bz,E1,vc,Pa,BD,AZ,jV,mL,kc,jR,Nat.reduceBEq,Mv,Nb,K6,L2,NS,zQ,zR,Hn,wA,I5,nZ,oM,oN,oR,oS,vM,Ab,DY])
theorem Vx{N N':Ns}{op val fj:V}(T:Tk N op N' val fj)(g:Nat->O)(nx k p q:Nat)(vs fs:List V)(a x y z:V)(hp:g p=.list vs)(S:g q=.list fs)(t:p≠q)(hv:vs.length<100)(hf:fs.length<100)(rm:cF N nx 10):
  ∃g' o,dE mM (.nm 4) (cy mM (bH mM (k+3)) Ac) op [bP,a,.ref (.g p),.ref (.g q),x,y,z] ⟨hh (N.wg g),nx⟩=some ((.nx,[bP,a,.ref (.g p),.ref (.g q),op,val,fj]),⟨hh (N'.wg g'),o⟩)/\
   g' p=.list (vs++[val])/\g' q=.list (fs++[fj])/\(∀j,j≠p->j≠q->g' j=g j)/\nx<=o/\o<=nx+6:=by
 have J:=rm.nx;have K:(100:Nat)<bu:=by decide
 have B:=t.symm;have U:(fun j=>if j=p then O.list (vs++[val])else g j) q=.list fs:=by simp[B,S]
 refine⟨fun j=>if j=q then .list (fs++[fj])else if j=p then .list (vs++[val])else g j,?_⟩
 suffices I:∃o,nx<=o/\o<=nx+6/\dE mM (.nm 4) (cy mM (bH mM (k+3)) Ac) op [bP,a,.ref (.g p),.ref (.g q),x,y,z] ⟨hh (N.wg g),nx⟩=some ((.nx,[bP,a,.ref (.g p),.ref (.g q),op,val,fj]),⟨hh (N'.wg fun j=>if j=q then .list (fs++[fj])else if j=p then .list (vs++[val])else g j),o⟩) by
  obtain⟨o,a,b,e⟩:=I;exact⟨o,e,by simp[t],by simp,fun j J W=>by simp[J,W],a,b⟩
 unfold dE fV;simp only[bW];unfold Ac;cases T with|k c=>refine⟨nx+2,by omega,by omega,?_⟩;walk_at "k6"|known r v h ho hs hd Y Z=>refine⟨nx+2,by omega,by omega,?_⟩;walk_at "k6"|new r ho hs hd=>have r1:=rm.st;have r2:=rm.hd;have r3:=rm.lg;refine⟨nx+6,by omega,by omega,?_⟩;walk_at "k6"
inductive Tks:Ns->List V->Ns->List V->List V->Prop
 |nil (N:Ns):Tks N [] N [] []
 |cons {N N' Pf:Ns} {op val fj:V} {Pj vs fs:List V}:Tk N op N' val fj->Tks N' Pj Pf vs fs->Tks N (op::Pj) Pf (val::vs) (fj::fs)
theorem Tk.wg{N N':Ns}{op val fj:V}(T:Tk N op N' val fj):N'.g=N.g:=by cases T<;>rfl
theorem cF.less{N:Ns}{nx m k e:Nat}(r:cF N nx m)(h:e+k<=nx+m)(hk:k<=m):cF N e k:=⟨by have:=r.nx;omega,by have:=r.st;omega,by have:=r.ce;omega,by have:=r.pl;omega,by have:=r.fo;omega,by have:=r.ex;omega,by have:=r.hd;omega,by have:=r.lg;omega⟩
theorem Tk.room{N N':Ns}{op val fj:V}(T:Tk N op N' val fj){nx e m:Nat}(r:cF N nx (m+10))(h:e<=nx+6):cF N' e m:=by
 have a1:=r.nx;have j:=r.st;have a3:=r.ce;have a4:=r.pl;have a5:=r.fo;have a6:=r.ex;have o:=r.hd;have p:=r.lg;cases T
 ·exact r.less (by omega) (by omega)
 ·exact r.less (by omega) (by omega)
 ·constructor<;>first|omega|(simp only[cU,cT,cQ];omega)
theorem vN(h:Hp)(a:Nat)(i:Nat)(l:List V)(e:mM.get h (.g a)=.list l):hX mM (.li (.g a)) i h=some (bA l i):=by unfold hX;simp only[e]
theorem zS{α:Type}:∀(dV:List α)(x:α)(r:List α),bA (dV++x::r) dV.length=some x
 |[],_,_=>rfl
 |_::p,x,r=>zS p x r
theorem Di{α:Type}:∀(dV:List α),bA dV dV.length=none
 |[]=>rfl
 |_::p=>Di p
theorem Vy(k p q o:Nat)(B:p≠q)(I:o≠p)(J:o≠q):∀{N N':Ns}{e fW fnds:List V}(_:Tks N e N' fW fnds)(dV:List V)(g:Nat->O)(nx:Nat)(vs fs:List V)(x y z:V)(_:g o=.list (dV++e))(_:g p=.list vs)(_:g q=.list fs)(_:vs.length+e.length<100)(_:fs.length+e.length<100)(_:cF N nx (10*e.length+10)),
  ∃g' t x' y' z',eU mM (.li (.g o)) (dE mM (.nm 4) (cy mM (bH mM (k+3)) Ac)) (e.length+1) dV.length [bP,.ref (.g o),.ref (.g p),.ref (.g q),x,y,z] ⟨hh (N.wg g),nx⟩=some ((.nx,[bP,.ref (.g o),.ref (.g p),.ref (.g q),x',y',z']),⟨hh (N'.wg g'),t⟩)/\
   g' p=.list (vs++fW)/\g' q=.list (fs++fnds)/\(∀j,j≠p->j≠q->g' j=g j)/\nx<=t/\t<=nx+6*e.length:=by
 intro N N' e fW fnds T
 induction T with
 |nil N=>
  intro dV g nx vs fs x y z ha hp K _ _ _;refine⟨g,nx,x,y,z,?_,by simpa using hp,by simpa using K,fun _ _ _=>rfl,ez _,by simp⟩;show eU mM _ _ (0+1) _ _ _=_
  simp only[eU];rw[vN _ o _ _ (show mM.get (hh (N.wg g)) (.g o)=_ from ha),sN,Di]
 |@cons N N1 N2 op val fj e fW fnds T Ts ih=>
  intro dV g nx vs fs x y z ha hp K hv hf rm;simp only[cT]at hv hf rm⊢;obtain⟨g1,S,e1,e2,e3,W,e5,e6⟩:=Vx T g nx k p q vs fs (.ref (.g o)) x y z hp K B (by omega) (by omega) (rm.less (by omega) (by omega));obtain⟨g2,U,x2,y2,z2,Y,f2,f3,f4,f5,f6⟩:=ih (dV++[op]) g1 S (vs++[val]) (fs++[fj]) op val fj (by rw[W o I J,ha];simp) e2 e3 (by simp;omega) (by simp;omega) (T.room (m:=10*e.length+10) (rm.less (by omega) (by omega)) e6);refine⟨g2,U,x2,y2,z2,?_,by simpa using f2,by simpa using f3,fun j Z h2=>(f4 j Z h2).trans (W j Z h2),by omega,by omega⟩;show eU mM _ _ ((e.length+1)+1) _ _ _=_
  rw[eU];rw[vN _ o _ _ (show mM.get (hh (N.wg g)) (.g o)=_ from ha),zS];simp only[e1];rw[cU]at Y;exact Y
theorem Lx{N N':Ns}{o fW fnds:List V}(T:Tks N o N' fW fnds)(nx k a:Nat)(ha:N.g a=.list o)(q:a<nx)(U:o.length<50)(e:∀j,nx<=j->N.g j=.free)(rm:cF N nx (10*o.length+20)):
  ∃g' p,bH mM (k+4) 30 [bP,.ref (.g a)] ⟨hh N,nx⟩=some (.tup [.ref (.g nx),.ref (.g (nx+1))],⟨hh (N'.wg g'),p⟩)/\
   g' nx=.list fW/\g' (nx+1)=.list fnds/\(∀j,j<nx->g' j=N.g j)/\(∀j,p<=j->g' j=.free)/\nx+2<=p/\p<=nx+2+6*o.length:=by
 have W:=rm.nx;have Y:=e nx (ez _);have Z:(fun j=>if j=nx then O.list []else N.g j) (nx+1)=.free:=by simp[e (nx+1) (by omega)]
 obtain⟨g',p,x,y,z,I,J,K,t,e5,e6⟩:=Vy k nx (nx+1) a (by omega) (by omega) (by omega) T [] (fun j=>if j=nx+1 then .list []else if j=nx then .list []else N.g j) (nx+2) [] [] .no .no .no (by simp[ha,qr q,show a≠nx+1 by omega]) (by simp) (by simp) (by simp;omega) (by simp;omega) (rm.less (by omega) (by omega));refine⟨g',p,?_,by simpa using J,by simpa using K,fun j S=>by rw[t j (by omega) (by omega)];simp[show j≠nx by omega,show j≠nx+1 by omega],fun j S=>by rw[t j (by omega) (by omega)];simp[show j≠nx by omega,show j≠nx+1 by omega,e j (by omega)],by omega,by omega⟩;rw[aaV];walk_at "k6";have B:mM.get (hh (N.wg fun j=>if j=nx+1 then O.list []else if j=nx then O.list []else N.g j)) (.g a)=.list o:=by
  show(if a=nx+1 then O.list []else if a=nx then O.list []else N.g a)=_
  simp[ha,qr q,show a≠nx+1 by omega]
 rw[mK,rQ];walk_at "k6";rw[DX mM _ _ B,el,AG mM _ B];rw[show(0:Nat)=([]:List V).length from rfl,I];walk_at "k6"
section
variable(N:Ns)(n:Nat)
theorem Mw(i:Int):dF mM (hh N) (.tup [.str 3,.int (.l i),.tup []]) (.ref (.s 26))=some (N.ex.lookup (.sl i)).isSome:=wy N (.sl i)
theorem Mx(i:Int):hQ mM (.ref (.s 26)) (.tup [.str 3,.int (.l i),.tup []]) ⟨hh N,n⟩=match N.ex.lookup (.sl i)with
  |some x=>some (vv x,⟨hh N,n⟩)
  |none=>none:=Im N n (.sl i)
theorem Ly(k:Nat)(i:Int)(w:Int)(h:N.ex.lookup (.sl i)=none)(e:n+1<bu)(hl:N.ex.length<bu)(j:N.lg.length<bu):bH mM (k+1) 21 [bP,.ref (.s 26),.tup [.str 3,.int (.l i),.tup []],vv w] ⟨hh N,n⟩=some (.none,⟨hh (N.mq (.sl i) w),n+2⟩):=vL N n k (.sl i) w h e hl j
theorem My(s:Bool)(c:Int):dF mM (hh N) (.tup [.str 4,.tup [.str (mn s),.int (.l c)],.tup []]) (.ref (.s 26))=some (N.ex.lookup (.na s c)).isSome:=wy N (.na s c)
theorem Mz(s:Bool)(c:Int):hQ mM (.ref (.s 26)) (.tup [.str 4,.tup [.str (mn s),.int (.l c)],.tup []]) ⟨hh N,n⟩=match N.ex.lookup (.na s c)with
  |some x=>some (vv x,⟨hh N,n⟩)
  |none=>none:=Im N n (.na s c)
theorem Lz(k:Nat)(s:Bool)(c:Int)(w:Int)(h:N.ex.lookup (.na s c)=none)(e:n+1<bu)(hl:N.ex.length<bu)(j:N.lg.length<bu):bH mM (k+1) 21 [bP,.ref (.s 26),.tup [.str 4,.tup [.str (mn s),.int (.l c)],.tup []],vv w] ⟨hh N,n⟩=some (.none,⟨hh (N.mq (.na s c) w),n+2⟩):=vL N n k (.na s c) w h e hl j
theorem MA(c v:Int):dF mM (hh N) (.tup [.str 5,.int (.l 0),.tup [kv c,vv v]]) (.ref (.s 26))=some (N.ex.lookup (.ad c v)).isSome:=wy N (.ad c v)
theorem MB(c v:Int):hQ mM (.ref (.s 26)) (.tup [.str 5,.int (.l 0),.tup [kv c,vv v]]) ⟨hh N,n⟩=match N.ex.lookup (.ad c v)with
  |some x=>some (vv x,⟨hh N,n⟩)
  |none=>none:=Im N n (.ad c v)
theorem LA(k:Nat)(c v:Int)(w:Int)(h:N.ex.lookup (.ad c v)=none)(e:n+1<bu)(hl:N.ex.length<bu)(j:N.lg.length<bu):bH mM (k+1) 21 [bP,.ref (.s 26),.tup [.str 5,.int (.l 0),.tup [kv c,vv v]],vv w] ⟨hh N,n⟩=some (.none,⟨hh (N.mq (.ad c v) w),n+2⟩):=vL N n k (.ad c v) w h e hl j
theorem L5(v:Int)(i o:Int)(h:N.pl.lookup v=none)(e:n<bu)(hl:N.pl.length<bu):nP mM (.ref (.s 24)) (vv v) (.tup [.tup [.str 3,.int (.l i)],.int (.l o)]) ⟨hh N,n⟩=some ((),⟨hh {N with pl:=N.pl++[(v,(.sl i,o))],rZ:=N.rZ+1},n+1⟩):=DZ N n v (.sl i) o h e hl
theorem L6(v:Int)(s:Bool)(o:Int)(h:N.pl.lookup v=none)(e:n<bu)(hl:N.pl.length<bu):nP mM (.ref (.s 24)) (vv v) (.tup [.tup [.str 4,.str (mn s)],.int (.l o)]) ⟨hh N,n⟩=some ((),⟨hh {N with pl:=N.pl++[(v,(.na s,o))],rZ:=N.rZ+1},n+1⟩):=DZ N n v (.na s) o h e hl
theorem HM(b:Bs)(o w:Int):dF mM (hh N) (.tup [b.v,.int (.l o),.int (.l w)]) (.ref (.s 23))=some (N.ce.lookup ⟨b,o,w⟩).isSome:=aaO N ⟨b,o,w⟩
theorem HN(b:Bs)(o w:Int):hQ mM (.ref (.s 23)) (.tup [b.v,.int (.l o),.int (.l w)]) ⟨hh N,n⟩=match N.ce.lookup ⟨b,o,w⟩with
  |some x=>some (.ref (.g x),⟨hh N,n⟩)
  |none=>none:=aaP N n ⟨b,o,w⟩
theorem G1(k:Nat)(b:Bs)(o w:Int)(a:Nat)(h:N.ce.lookup ⟨b,o,w⟩=none)(e:n+1<bu)(hl:N.ce.length<bu)(j:N.lg.length<bu):
  bH mM (k+1) 21 [bP,.ref (.s 23),.tup [b.v,.int (.l o),.int (.l w)],.ref (.g a)] ⟨hh N,n⟩=some (.none,⟨hh (N.vd ⟨b,o,w⟩ a),n+2⟩):=W9 N n k ⟨b,o,w⟩ a h e hl j
theorem BF(p:Nat)(l:List V)(h:N.g p=.list l):builtin mM 5 [.ref (.g p)] ⟨hh N,n⟩=some (.tup l,⟨hh N,n⟩):=by
 show(match mM.get (hh N) (.g p)with|.list l=>some (V.tup l,_)|_=>.none)=_
 rw[gg,h]
theorem wU(p:Nat)(i:V)(l:List V)(h:N.g p=.list l):hQ mM (.ref (.g p)) i ⟨hh N,n⟩=iX (jy l i) ⟨hh N,n⟩:=by rw[nR,gg,h]
theorem pu3:dF mM (hh N) (.str 3) (.ref (.s 1))=some true:=rfl
theorem pu4:dF mM (hh N) (.str 4) (.ref (.s 1))=some true:=rfl
theorem pu5:dF mM (hh N) (.str 5) (.ref (.s 1))=some true:=rfl
theorem pu8:dF mM (hh N) (.str 8) (.ref (.s 1))=some false:=rfl
theorem pu9:dF mM (hh N) (.str 9) (.ref (.s 1))=some false:=rfl
theorem aaW:dF mM (hh N) (.str 10) (.ref (.s 1))=some false:=rfl
theorem aaX:dF mM (hh N) (.str 25) (.ref (.s 1))=some false:=rfl
theorem Pk:dF mM (hh N) (.str 3) (.ref (.s 0))=some false:=rfl
theorem Pl:dF mM (hh N) (.str 4) (.ref (.s 0))=some false:=rfl
theorem Pn:dF mM (hh N) (.str 5) (.ref (.s 0))=some true:=rfl
theorem Iq:dF mM (hh N) (.str 14) (.ref (.s 0))=some false:=rfl
theorem Ir:dF mM (hh N) (.str 15) (.ref (.s 0))=some false:=rfl
theorem Iu:dF mM (hh N) (.str 16) (.ref (.s 0))=some false:=rfl
theorem Iv:dF mM (hh N) (.str 17) (.ref (.s 0))=some false:=rfl
theorem te3:dF mM (hh N) (.str 3) (.ref (.s 3))=some false:=rfl
theorem te4:dF mM (hh N) (.str 4) (.ref (.s 3))=some false:=rfl
theorem te5:dF mM (hh N) (.str 5) (.ref (.s 3))=some false:=rfl
theorem te8:dF mM (hh N) (.str 8) (.ref (.s 3))=some false:=rfl
end
theorem gv1:mM.P.gv 1=.int (.l 2147483648):=rfl
theorem I6:mM.P.gv 2=.int (.l 4294967296):=rfl
theorem BG:mM.P.gv 3=.ref (.s 0):=rfl
theorem I7:mM.P.gv 4=.ref (.s 1):=rfl
theorem gv5:mM.P.gv 5=.ref (.s 2):=rfl
theorem gv6:mM.P.gv 6=.ref (.s 3):=rfl
theorem Po:mM.P.gv 7=.ref (.s 4):=rfl
theorem gv8:mM.P.gv 8=.int (.l 4294967296):=rfl
theorem Ho(a:Int):hV mM.F .mod (.l a) (.l 4294967296)=some (.l (Int.fmod a 4294967296)):=rfl
theorem rV(F:cG)(a b:Int):u7 F (.l a) (.l b)=some (decide (a<b)):=rfl
theorem rW(a b:Z):tX mM (.int a) (.int b)=u7 mM.F a b:=rfl
theorem NT(c v:Int):tV mM.F mM.P.sl (kv c) (vv v)=some true:=rfl
def jA(i:Int):Int:=bif decide (Int.fmod i 4294967296<2147483648)then Int.fmod i 4294967296 else Int.fmod i 4294967296-4294967296
def dc(N:Ns)(v:Int):Bs×Int:=match N.pl.lookup v with
 |some p=>p
 |none=>(.va v,0)
local macro_rules |`(tactic|walk_at "k7")=>`(tactic|simp(disch:=walk_at "k1")only[el,ff,iH,fp,eM,fY,fS,iI,eZ,eF,nY,gz,gj,oQ,fG,qz,iJ,eN,eO,fN,jh,iT,eQ,HI,pG,fC,fA,fe,gw,jQ,ij,jJ,wu,kT,gQ,jf,bA,bW,fb,eY,fX,ki,Option.isSome,ft,gy, *,I0,aaQ,aaR,jV,kc,jR,Nat.reduceBEq,gv1,I6,Ho,rV,rW])
theorem K7(k:Nat)(i:Int)(N:Ns)(nx:Nat):bH mM (k+1) 11 [.int (.l i)] ⟨hh N,nx⟩=some (.int (.l (jA i)),⟨hh N,nx⟩):=by
 rw[c11];unfold zI jA;walk_at "k7";cases decide (Int.fmod i 4294967296<2147483648)
 ·walk_at "k7"
 ·walk_at "k7"
theorem xE(N:Ns)(nx k:Nat)(v:Int):bH mM (k+1) 31 [bP,vv v] ⟨hh N,nx⟩=some (.tup [(dc N v).1.v,.int (.l (dc N v).2)],⟨hh N,nx⟩):=by
 rw[c31];unfold zf dc;cases h:N.pl.lookup v with
 |none=>
  walk_at "k7"
  all_goals rfl
 |some p=>walk_at "k7"
abbrev Ns.wV(N:Ns)(w:Int)(p:Bs×Int):Ns:={N with pl:=N.pl++[(w,p)],rZ:=N.rZ+1}
abbrev Ns.r8(N:Ns)(w:Int)(x:V):Ns:={N with fo:=N.fo++[(w,x)],wK:=N.wK+1}
abbrev Ns.nn(N:Ns):Ns:={N with n:=N.n+1}
theorem sT(b:Bs)(s:St Hp):iX (some b.v) s=some (b.v,s):=by cases b<;>rfl
local macro_rules |`(tactic|walk_at "k8")=>`(tactic|simp(disch:=walk_at "k1")only[el,ff,iH,fp,eM,fY,oP,nX,jk,fS,iI,eZ,eF,nY,gz,gj,oQ,fG,iJ,lP,ky,ig,ma,lQ,eN,eO,fN,jh,iT,eQ,AF,pG,fC,fA,fe,gw,ij,jJ,wt,kT,gQ,jf,oF,bA,bW,fill,fb,eY,Option.isSome, *,I0,BA,BB,vc,wQ,yC,BE,jV,mL,kc,jR,Nat.reduceBEq,vG,nZ,oM,oN,oR,oS,DZ,AH,Mw,Mx,Ly,My,Mz,Lz,MA,MB,LA,L5,L6,BF,wU,Pk,Pl,Pn,BG,NT,K7,xE,sT])
theorem Ux(N:Ns)(nx k:Nat)(w:Int)(x:V)(s:Bool)(c:Int)(h:N.pl.lookup w=none)(e:nx<bu)(hl:N.pl.length<bu):
  bH mM (k+2) 32 [bP,vv w,.str 4,x,.tup [.str (mn s),.int (.l c)]] ⟨hh N,nx⟩=some (.none,⟨hh (N.wV w (.na s,jA c)),nx+1⟩):=by
 rw[EZ];unfold um;walk_at "k8"
theorem Uy(N:Ns)(nx k:Nat)(w:Int)(x:V)(i:Int)(h:N.pl.lookup w=none)(e:nx<bu)(hl:N.pl.length<bu):
  bH mM (k+2) 32 [bP,vv w,.str 3,x,.int (.l i)] ⟨hh N,nx⟩=some (.none,⟨hh (N.wV w (.sl i,0)),nx+1⟩):=by
 rw[EZ];unfold um;walk_at "k8"
theorem Uz(N:Ns)(nx k:Nat)(w v c:Int)(p:Nat)(x:V)(hp:N.g p=.list [vv v,kv c])(h:N.pl.lookup w=none)(e:nx<bu)(hl:N.pl.length<bu):
  bH mM (k+2) 32 [bP,vv w,.str 5,.ref (.g p),x] ⟨hh N,nx⟩=some (.none,⟨hh (N.wV w ((dc N v).1,jA ((dc N v).2+c))),nx+1⟩):=by
 rw[EZ];unfold um;walk_at "k8"
theorem C7(N:Ns)(nx k:Nat)(w:Int)(x y:V)(s t:Bool):
  bH mM (k+2) 32 [bP,vv w,.str (mO s t),x,y] ⟨hh N,nx⟩=some (.none,⟨hh N,nx⟩):=by
 rw[EZ];unfold um;cases s<;>cases t<;>unfold mO<;>walk_at "k8"
local macro_rules |`(tactic|walk_at "k9")=>`(tactic|simp(disch:=walk_at "k1")only[el,ff,iH,fp,eM,fY,oP,nX,jk,fS,iI,eZ,eF,nY,gz,gj,oQ,fG,iJ,lP,ky,ig,ma,lQ,eN,eO,fN,jh,iT,eQ,AF,pG,fC,fA,fe,gw,ij,jJ,wt,kT,gQ,jf,oF,bA,bW,fill,fb,eY,Option.isSome, *,I0,BA,BB,vc,wQ,yC,BE,jV,mL,kc,jR,Nat.reduceBEq,vG,nZ,oM,oN,oR,oS,DZ,AH,Mw,Mx,Ly,My,Mz,Lz,MA,MB,LA,L5,L6,BF,wU,Pk,Pl,Pn,BG,NT,K7,xE,sT,Ux,Uy,Uz])
theorem SA(N:Ns)(nx k p:Nat)(s:Bool)(c:Int)(w:Int)(hp:N.g p=.list [])(e:N.ex.lookup (Ek.na s c)=some w):bH mM (k+4) 33 [bP,.str 4,.ref (.g p),.tup [.str (mn s),.int (.l c)]] ⟨hh N,nx⟩=some (vv w,⟨hh N,nx⟩):=by rw[sU];unfold pC;walk_at "k9"
theorem SD(N:Ns)(nx k p:Nat)(s:Bool)(c:Int)(hp:N.g p=.list [])(e:N.ex.lookup (Ek.na s c)=none)(hf:N.fo.lookup (N.n+1)=none)(j:N.pl.lookup (N.n+1)=none)(rm:cF N nx 20):bH mM (k+4) 33 [bP,.str 4,.ref (.g p),.tup [.str (mn s),.int (.l c)]] ⟨hh N,nx⟩=some (vv (N.n+1),⟨hh ((((N.nn).mq (Ek.na s c) (N.n+1)).r8 (N.n+1) (Ek.na s c).v).wV (N.n+1) (.na s,jA c)),nx+5⟩):=by
 have a1:=rm.nx;have o:=rm.ex;have a3:=rm.fo;have a4:=rm.pl;have a5:=rm.lg;rw[sU];unfold pC;walk_at "k9"
 all_goals rfl
theorem SE(N:Ns)(nx k p:Nat)(i:Int)(w:Int)(hp:N.g p=.list [])(e:N.ex.lookup (Ek.sl i)=some w):bH mM (k+4) 33 [bP,.str 3,.ref (.g p),.int (.l i)] ⟨hh N,nx⟩=some (vv w,⟨hh N,nx⟩):=by rw[sU];unfold pC;walk_at "k9"
theorem SF(N:Ns)(nx k p:Nat)(i:Int)(hp:N.g p=.list [])(e:N.ex.lookup (Ek.sl i)=none)(hf:N.fo.lookup (N.n+1)=none)(j:N.pl.lookup (N.n+1)=none)(rm:cF N nx 20):bH mM (k+4) 33 [bP,.str 3,.ref (.g p),.int (.l i)] ⟨hh N,nx⟩=some (vv (N.n+1),⟨hh ((((N.nn).mq (Ek.sl i) (N.n+1)).r8 (N.n+1) (Ek.sl i).v).wV (N.n+1) (.sl i,0)),nx+5⟩):=by
 have a1:=rm.nx;have o:=rm.ex;have a3:=rm.fo;have a4:=rm.pl;have a5:=rm.lg;rw[sU];unfold pC;walk_at "k9"
 all_goals rfl
theorem SG(N:Ns)(nx k p:Nat)(v c:Int)(w:Int)(hp:N.g p=.list [vv v,kv c])(e:N.ex.lookup (Ek.ad c v)=some w):bH mM (k+4) 33 [bP,.str 5,.ref (.g p),.int (.l 0)] ⟨hh N,nx⟩=some (vv w,⟨hh N,nx⟩):=by rw[sU];unfold pC;walk_at "k9"
theorem SH(N:Ns)(nx k p:Nat)(v c:Int)(hp:N.g p=.list [vv v,kv c])(e:N.ex.lookup (Ek.ad c v)=none)(hf:N.fo.lookup (N.n+1)=none)(j:N.pl.lookup (N.n+1)=none)(rm:cF N nx 20):bH mM (k+4) 33 [bP,.str 5,.ref (.g p),.int (.l 0)] ⟨hh N,nx⟩=some (vv (N.n+1),⟨hh ((((N.nn).mq (Ek.ad c v) (N.n+1)).r8 (N.n+1) (Ek.ad c v).v).wV (N.n+1) ((dc N v).1,jA ((dc N v).2+c))),nx+5⟩):=by
 have a1:=rm.nx;have o:=rm.ex;have a3:=rm.fo;have a4:=rm.pl;have a5:=rm.lg;rw[sU];unfold pC;walk_at "k9"
 all_goals rfl
abbrev da(op:Nat)(d:Int)(b:Nat)(more_q:V)(firm:Bool):O:=.inst 0 [(0,.str op),(1,.int (.l d)),(2,.ref (.g b)),(3,more_q),(4,.bool firm),(5,.int (.l 0))]
theorem qA(N:Ns)(n a f:Nat):kR mM (.ref (.g a)) f ⟨hh N,n⟩=match N.g a with
  |.inst _ fs=>iX (fld f fs) ⟨hh N,n⟩
  |_=>.none:=rfl
theorem uX(N:Ns)(n a f:Nat)(v:V):qt mM (.ref (.g a)) f v ⟨hh N,n⟩=match N.g a with
  |.inst c fs=>bif mM.P.eE c f&&Nat.blt fs.length 1000 then upd mM (.g a) (.inst c (put f v fs)) ⟨hh N,n⟩else .none
  |_=>.none:=rfl
theorem uY(N:Ns)(n a:Nat)(o:O)(e:n<bu):upd mM (.g a) o ⟨hh N,n⟩=some ((),⟨hh {N with g:=fun j=>if j=a then o else N.g j},n+1⟩):=by rw[qu mM _ n o rfl rfl e,sg]
theorem yp:mM.P.eE 0 0=true:=rfl
theorem uZ:mM.P.eE 0 2=true:=rfl
theorem yq:mM.P.eE 0 3=true:=rfl
theorem Iw:mM.P.eE 0 4=true:=rfl
theorem A1(a b c d e f:Nat×V):Nat.blt [a,b,c,d,e,f].length 1000=true:=rfl
theorem sV{α:Type}(x y:α):(if True then x else y)=x:=df trivial
local macro_rules |`(tactic|walk_at "k10")=>`(tactic|first | assumption | omega | (simp only [cU, cT, cQ]; omega) | (simp (disch := omega) only [cL, dj, *]; done) | with_unfolding_all rfl)
local macro_rules |`(tactic|walk_at "k11")=>`(tactic|simp(disch:=walk_at "k10")only[el,ff,iH,fp,eM,fY,rl,jk,fS,iI,eZ,eF,nY,gz,gj,fG,qz,nh,ig,ma,lQ,eN,eO,fN,jh,iT,eQ,vX,fC,fA,fe,gw,jQ,ij,HJ,vY,kT,gQ,jf,bA,bW,fill,fb,eY,fX,ft,gy, *,wO,wx,BC,BD,I2,wz,vZ,jV,kc,jR,Nat.reduceBEq,Ge,zQ,zR,G0,Uw,wA,vM,Ab,cL,te3,te4,te5,te8,gv6,qA,uX,uY,yp,uZ,yq,A1,fld,put,lp,sV])
theorem Xa(N:Ns)(nx k a op b:Nat)(d v:Int)(more_q:V)(firm:Bool)(e:N.g a=da op d b more_q firm)(hd:N.on.lookup d=some ())(hs:N.st.lookup d=none)(j:N.hd.lookup v=none)(rm:cF N nx 20):
  bH mM (k+4) 34 [bP,.ref (.g a),vv v] ⟨hh N,nx⟩=some (.bool true,⟨hh ((N.oT d v).wR v d),nx+3⟩):=by
 have a1:=rm.nx;have o:=rm.st;have a3:=rm.hd;have a4:=rm.lg;rw[yA];unfold sA;walk_at "k11"
theorem UA(N:Ns)(nx k a b:Nat)(d v r:Int)(more_q:V)(firm:Bool)(q:N.g a=da 3 d b more_q firm)(o:a<nx)(e:∀j,nx<=j->N.g j=.free)(hd:N.on.lookup d=some ())(hs:N.st.lookup d=none)(t:N.hd.lookup v=some r)(hr:N.on.lookup r=some ())(p:N.st.lookup r=some v)(rm:cF N nx 20):
  bH mM (k+4) 34 [bP,.ref (.g a),vv v] ⟨hh N,nx⟩=some (.bool true,⟨hh (({N with ch:=true}.oT d v).wg fun j=>if j=a then da 6 d (nx+1) (.int (.l 0)) firm else if j=nx+1 then .list [rv r]else N.g j),nx+6⟩):=by
 have a1:=rm.nx;have x:=rm.st;have a3:=rm.hd;have a4:=rm.lg;rw[yA];unfold sA;walk_at "k11"
theorem UB(N:Ns)(nx k a b:Nat)(d v r:Int)(more_q:V)(firm:Bool)(q:N.g a=da 4 d b more_q firm)(o:a<nx)(e:∀j,nx<=j->N.g j=.free)(hd:N.on.lookup d=some ())(hs:N.st.lookup d=none)(t:N.hd.lookup v=some r)(hr:N.on.lookup r=some ())(p:N.st.lookup r=some v)(rm:cF N nx 20):
  bH mM (k+4) 34 [bP,.ref (.g a),vv v] ⟨hh N,nx⟩=some (.bool true,⟨hh (({N with ch:=true}.oT d v).wg fun j=>if j=a then da 6 d (nx+1) (.int (.l 0)) firm else if j=nx+1 then .list [rv r]else N.g j),nx+6⟩):=by
 have a1:=rm.nx;have x:=rm.st;have a3:=rm.hd;have a4:=rm.lg;rw[yA];unfold sA;walk_at "k11"
theorem UC(N:Ns)(nx k a b:Nat)(d v r:Int)(more_q:V)(firm:Bool)(q:N.g a=da 5 d b more_q firm)(o:a<nx)(e:∀j,nx<=j->N.g j=.free)(hd:N.on.lookup d=some ())(hs:N.st.lookup d=none)(t:N.hd.lookup v=some r)(hr:N.on.lookup r=some ())(p:N.st.lookup r=some v)(rm:cF N nx 20):
  bH mM (k+4) 34 [bP,.ref (.g a),vv v] ⟨hh N,nx⟩=some (.bool true,⟨hh (({N with ch:=true}.oT d v).wg fun j=>if j=a then da 6 d (nx+1) (.int (.l 0)) firm else if j=nx+1 then .list [rv r]else N.g j),nx+6⟩):=by
 have a1:=rm.nx;have x:=rm.st;have a3:=rm.hd;have a4:=rm.lg;rw[yA];unfold sA;walk_at "k11"
theorem LB(N:Ns)(nx k a b:Nat)(d v r:Int)(more_q:V)(firm:Bool)(q:N.g a=da 8 d b more_q firm)(o:a<nx)(e:∀j,nx<=j->N.g j=.free)(hd:N.on.lookup d=some ())(hs:N.st.lookup d=none)(t:N.hd.lookup v=some r)(hr:N.on.lookup r=some ())(p:N.st.lookup r=some v)(rm:cF N nx 20):
  bH mM (k+4) 34 [bP,.ref (.g a),vv v] ⟨hh N,nx⟩=some (.bool true,⟨hh (({N with ch:=true}.oT d v).wg fun j=>if j=a then da 6 d (nx+1) (.int (.l 0)) firm else if j=nx+1 then .list [rv r]else N.g j),nx+6⟩):=by
 have a1:=rm.nx;have x:=rm.st;have a3:=rm.hd;have a4:=rm.lg;rw[yA];unfold sA;walk_at "k11"
inductive Op where
 |r (i:Int)
 |k (c:Int)
 deriving DecidableEq
def Op.v:Op->V
 |.r i=>rv i
 |.k c=>kv c
def bR(l:List Op):List V:=l.map Op.v
theorem Zs(a b:Op):eqv dN a.v b.v=some (decide (a=b)):=by
 cases a<;>cases b
 ·rename_i i j;show eqv dN (rv i) (rv j)=_;rw[xO 1 (by simp)];simp
 ·rfl
 ·rfl
 ·rename_i i j;show eqv dN (kv i) (kv j)=_;rw[xO 0 (by simp)];simp
theorem Hq:∀a b:List Op,nV dN (bR a) (bR b)=some (decide (a=b))
 |[],[]=>rfl
 |[],_::_=>rfl
 |_::_,[]=>rfl
 |x::xs,y::ys=>by
  show nV dN (x.v::bR xs) (y.v::bR ys)=_
  rw[jF (Zs x y) (Hq xs ys)];simp[xZ]
theorem Xb(r:Nat->Ad->Option V)(a:Op)(n:Nat):nW r a.v (n+1)=some a.v:=by cases a<;>rfl
theorem G2(r:Nat->Ad->Option V)(n:Nat):∀a:List Op,nO r (bR a) (n+1)=some (bR a)
 |[]=>rfl
 |x::xs=>by
  show nO r (x.v::bR xs) (n+1)=_
  simp only[nO,Xb,G2 r n xs];rfl
theorem LD(N:Ns)(p q:Nat)(a b:List Op)(hp:N.g p=.list (bR a))(e:N.g q=.list (bR b)):kV mM (hh N) (.ref (.g p)) (.ref (.g q))=some (decide (a=b)):=by
 have f:∀(i:Nat)(l:List Op),N.g i=.list (bR l)->nW (mi mM.toHOps (hh N) 3) (.ref (.g i)) 20=some (.lst (bR l)):=fun i l h=>by
  show mi mM.toHOps (hh N) 3 20 (.g i)=_
  simp only[mi];rw[show mM.toHOps.get (hh N) (.g i)=.list (bR l) from h];simp only[G2]
 have g:kV mM (hh N) (.ref (.g p)) (.ref (.g q))=qD mM (hh N) (.ref (.g p)) (.ref (.g q)):=by unfold kV;simp only[show mM.get (hh N) (.g p)=.list (bR a) from hp]
 rw[g];unfold qD;rw[f p a hp,f q b e];show eqv dN (.lst (bR a)) (.lst (bR b))=_
 simp only[eqv,Hq]
def m6:List S:=[.if (.cm .gk (.l 2) (.gl 4)) [.rt (.me (.l 0) 44 [.l 1,.me (.l 0) 43 [.l 2,.l 3,.at (.l 1) 3]])] [],
 .if (.cm .eq (.l 2) (.c (.str 6))) [.rt (.me (.l 0) 44 [.l 1,.ix (.l 3) (.c (.int (.l 0)))])] [],
 .if (.cm .eq (.l 2) (.c (.str 8))) [.rt (.me (.l 0) 45 [.l 1,.ix (.l 3) (.c (.int (.l 0)))])] [],
 .if (.cm .eq (.l 2) (.c (.str 9))) [.rt (.me (.l 0) 48 [.l 1,.ix (.l 3) (.c (.int (.l 0))),.ix (.l 3) (.c (.int (.l 1)))])] [],
 .if (.cm .eq (.l 2) (.c (.str 10))) [.tp [.nm 5,.nm 6] (.me (.l 0) 41 [.ix (.l 3) (.c (.int (.l 0)))]),
 .ex (.me (.l 0) 46 [.tu [.l 5,.l 6,.ix (.at (.l 1) 3) (.c (.int (.l 0)))]]),
 .rt (.c (.bool true))] [],
 .ex (.me (.l 0) 47 []),
 .if (.cm .ge (.at (.l 1) 1) (.c (.int (.l 0)))) [.ex (.me (.l 0) 39 [.at (.l 1) 1,.me (.l 0) 34 []])] [],
 .rt (.c (.bool true))]
theorem NU(k:Nat)(as:List V)(h:Hp)(n:Nat):bH mM (k+1) 39 as ⟨h,n⟩=enter mM (bH mM k) ⟨2,7,.as 2 (.at (.l 1) 0)::.if (.cm .eq (.l 2) (.c (.str 7))) [.rt (.me (.l 0) 44 [.l 1,.ix (.at (.l 1) 2) (.c (.int (.l 0)))])] []::.tp [.nm 3,.nm 4] (.me (.l 0) 40 [.at (.l 1) 2])::
  .if (.cm .ne (.l 4) (.at (.l 1) 2)) [.aa (.l 1) 2 (.l 4),.aa (.l 0) 31 (.c (.bool true))] []::m6⟩ as ⟨h,n⟩:=rfl
local macro_rules |`(tactic|walk_at "k12")=>`(tactic|simp(disch:=walk_at "k10")only[el,ff,fp,eM,fY,rl,nX,fS,eZ,eF,gz,fG,ig,eN,eO,jh,eQ,fC,fA,fe,gw,jQ,ij,sS,gQ,bA,bW,fill,fb,eY,fX,ft,gy, *,wx,Pb,kc,jR,nZ,oM,oN,oR,oS,qA,uX,uY,uZ,A1,fld,put,lp])
structure Pre(N N':Ns)(nx a b:Nat)(op:Nat)(d:Int)(more_q:V)(firm:Bool)(fW:List V)(fnds:List Op)(N2:Ns)(E2 b2:Nat):Prop where
 eq:∃ch g,N2={N' with ch:=ch,g:=g}
 da:N2.g a=da op d b2 more_q firm
 args:N2.g b2=.list (bR fnds)
 fW:N2.g nx=.list fW
 old:∀j,j<nx->j≠a->N2.g j=N.g j
 free:∀j,E2<=j->N2.g j=.free
 lo:nx+2<=E2
 hi:E2<=nx+30
 blt:b2<E2
 ne:b2≠a/\(b2=b∨nx<=b2)
theorem oI{N N':Ns}{e:List Op}{fW:List V}{fnds:List Op}(T:Tks N (bR e) N' fW (bR fnds))(nx k a b op:Nat)(d:Int)(more_q:V)(firm:Bool)(aa:op<1000)(O:(op==7)=false)(hg:N.g a=da op d b more_q firm)(S:N.g b=.list (bR e))(I:a<nx)(o:b<nx)(J:b≠a)
  (hn:e.length<4) (p:∀j,nx<=j->N.g j=.free) (rm:cF N nx 100):∃U x b2,Pre N N' nx a b op d more_q firm fW fnds U x b2/\
   bH mM (k+6) 39 [bP,.ref (.g a)] ⟨hh N,nx⟩=ri (cy mM (bH mM (k+5)) m6 [bP,.ref (.g a),.str op,.ref (.g nx),.ref (.g (nx+1)),.no,.no] ⟨hh U,x⟩):=by
 have a1:=rm.nx;have hl:(bR e).length=e.length:=by simp[bR]
 obtain⟨t,y,e1,W,Y,B,Z,e6,e7⟩:=Lx T nx (k+1) b S o (by omega) p (rm.less (by omega) (by omega));rw[hl]at e7;have K:t a=da op d b more_q firm:=by rw[B a I,hg]
 have z:t b=.list (bR e):=by rw[B b o,S]
 have q:=LD (N'.wg t) (nx+1) b fnds e Y z
 by_cases hf:fnds=e
 ·refine⟨N'.wg t,y,b,⟨⟨N'.ch,t,rfl⟩,K,by rw[hf];exact z,W,fun j h _=>B j h,Z,e6,by omega,by omega,⟨J,.inl rfl⟩⟩,?_⟩;rw[oJ hf]at q;rw[NU];walk_at "k12"
 ·refine⟨{N' with ch:=true,g:=fun j=>if j=a then da op d (nx+1) more_q firm else t j},y+2,nx+1,⟨⟨true,_,rfl⟩,by simp,by simp[show nx+1≠a by omega,Y],by simp[show nx≠a by omega,W],fun j h h2=>by simp[h2,B j h],fun j h=>by simp[show j≠a by omega,Z j (by omega)],by omega,by omega,by omega,⟨by omega,.inr (by omega)⟩⟩,?_⟩;rw[m9 hf]at q;rw[NU];walk_at "k12"
local macro_rules |`(tactic|walk_at "k13")=>`(tactic|simp(disch:=walk_at "k10")only[el,iH,eM,fS,iI,eF,nY,gz,fG,ig,eN,eO,fN,jh,iT,eQ,fC,fA,fe,gw,jJ,jf,bA, *,I3,I4,pu3,pu4,pu5,I7,qA,fld,SA,SD,SE,SF,SG,SH,Xa,UA,UB,UC])
structure kY(N NN:Ns)(nx a b:Nat)(d:Int)(firm:Bool)(mr:Nat)(Zt:List Op)(N3:Ns)(cH:Nat):Prop where
 eq:∃ch g,N3={NN with ch:=ch,g:=g}
 da:∃b' Zu,N3.g a=da mr d b' Zu firm/\N3.g b'=.list (bR Zt)/\b'<cH/\b'≠a/\(b'=b∨nx<=b')
 old:∀j,j<nx->j≠a->N3.g j=N.g j
 free:∀j,cH<=j->N3.g j=.free
 lo:nx<=cH
 hi:cH<=nx+60
abbrev Ns.num(N:Ns)(e:Ek)(p:Bs×Int):Ns:=(((N.nn).mq e (N.n+1)).r8 (N.n+1) e.v).wV (N.n+1) p
abbrev Ns.dst(N:Ns)(d w:Int):Ns:=(N.oT d w).wR w d
theorem Tt{N N':Ns}(s:Bool)(c:Int){fnds:List Op}(T:Tks N (bR []) N' [] (bR fnds))(nx k a b:Nat)(d:Int)(firm:Bool)(S:N.g a=da 4 d b (.tup [.str (mn s),.int (.l c)]) firm)(U:N.g b=.list (bR []))(y:a<nx)(t:b<nx)(z:b≠a)
  (q:∀j,nx<=j->N.g j=.free) (rm:cF N nx 200) (B:∀x,x<=nx+30->cF N' x 100) (hd:N'.on.lookup d=some ()) (hs:N'.st.lookup d=none) (he:N'.ex.lookup (.na s c)=none) (hf:N'.fo.lookup (N'.n+1)=none) (hq:N'.pl.lookup (N'.n+1)=none) (hv:N'.hd.lookup (N'.n+1)=none):
  ∃N3 cH,bH mM (k+6) 39 [bP,.ref (.g a)] ⟨hh N,nx⟩=some (.bool true,⟨hh N3,cH⟩)/\kY N ((N'.num (.na s c) (.na s,jA c)).dst d (N'.n+1)) nx a b d firm 4 fnds N3 cH:=by
 obtain⟨N2,o,W,P,e⟩:=oI T nx k a b 4 d (.tup [.str (mn s),.int (.l c)]) firm (by omega) rfl S U y t z (by simp) q (rm.less (by omega) (by omega));obtain⟨⟨ch,g,rfl⟩,I,J,Y,K,O,p6,p7,p8,Z⟩:=P;dsimp only at I J Y K O;have p:=B o (by omega);have a1:=p.nx;have a2:=p.st;have a3:=p.hd;have a4:=p.lg;have a5:=p.ex;have a6:=p.fo;have a7:=p.pl;have rn:cF ({N' with ch:=ch,g:=g}:Ns) o 20:=(fun r:cF N' o 20=>⟨r.nx,r.st,r.ce,r.pl,r.fo,r.ex,r.hd,r.lg⟩) (p.less (by omega) (by omega));have aa:cF (({N' with ch:=ch,g:=g}:Ns).num (.na s c) (.na s,jA c)) (o+5) 20:=by have:=p.ce;constructor<;>first|omega|(simp only[cU,cT,cQ];omega)
 refine⟨(({N' with ch:=ch,g:=g}:Ns).num (.na s c) (.na s,jA c)).dst d (N'.n+1),o+8,?_,⟨ch,g,rfl⟩,⟨W,_,I,J,by omega,Z⟩,K,fun j h=>O j (by omega),by omega,by omega⟩;rw[e];unfold m6;walk_at "k13"
theorem Tu{N N':Ns}(s:Bool)(c:Int){fnds:List Op}(T:Tks N (bR []) N' [] (bR fnds))(nx k a b:Nat)(d w r:Int)(firm:Bool)(S:N.g a=da 4 d b (.tup [.str (mn s),.int (.l c)]) firm)(U:N.g b=.list (bR []))(y:a<nx)(t:b<nx)(z:b≠a)
  (q:∀j,nx<=j->N.g j=.free) (rm:cF N nx 200) (B:∀x,x<=nx+30->cF N' x 100) (hd:N'.on.lookup d=some ()) (hs:N'.st.lookup d=none) (he:N'.ex.lookup (.na s c)=some w) (hv:N'.hd.lookup w=some r) (hr:N'.on.lookup r=some ()) (W:N'.st.lookup r=some w):
  ∃N3 cH,bH mM (k+6) 39 [bP,.ref (.g a)] ⟨hh N,nx⟩=some (.bool true,⟨hh N3,cH⟩)/\kY N (N'.oT d w) nx a b d firm 6 [.r r] N3 cH:=by
 obtain⟨N2,o,b2,P,e⟩:=oI T nx k a b 4 d (.tup [.str (mn s),.int (.l c)]) firm (by omega) rfl S U y t z (by simp) q (rm.less (by omega) (by omega));obtain⟨⟨ch,g,rfl⟩,Y,Z,p3,I,J,p6,p7,p8,p9⟩:=P;dsimp only at Y Z p3 I J;have p:=B o (by omega);have a1:=p.nx;have a2:=p.st;have a3:=p.hd;have a4:=p.lg;have a5:=p.ex;have a6:=p.fo;have a7:=p.pl;have rn:cF ({N' with ch:=ch,g:=g}:Ns) o 20:=(fun r:cF N' o 20=>⟨r.nx,r.st,r.ce,r.pl,r.fo,r.ex,r.hd,r.lg⟩) (p.less (by omega) (by omega));have K:a<o:=by omega
 refine⟨_,o+6,?_,⟨true,fun j=>if j=a then da 6 d (o+1) (.int (.l 0)) firm else if j=o+1 then .list (bR [.r r])else g j,rfl⟩,⟨o+1,.int (.l 0),by simp,by simp[show o+1≠a by omega],by omega,by omega,.inr (by omega)⟩,fun j h O=>by simp[O,show j≠o+1 by omega];exact I j h O,fun j h=>by simp[show j≠a by omega,show j≠o+1 by omega];exact J j (by omega),by omega,by omega⟩;rw[e];unfold m6;walk_at "k13"
 all_goals rfl
theorem Tv{N N':Ns}(i:Int){fnds:List Op}(T:Tks N (bR []) N' [] (bR fnds))(nx k a b:Nat)(d:Int)(firm:Bool)(S:N.g a=da 3 d b (.int (.l i)) firm)(U:N.g b=.list (bR []))(y:a<nx)(t:b<nx)(z:b≠a)
  (q:∀j,nx<=j->N.g j=.free) (rm:cF N nx 200) (B:∀x,x<=nx+30->cF N' x 100) (hd:N'.on.lookup d=some ()) (hs:N'.st.lookup d=none) (he:N'.ex.lookup (.sl i)=none) (hf:N'.fo.lookup (N'.n+1)=none) (hq:N'.pl.lookup (N'.n+1)=none) (hv:N'.hd.lookup (N'.n+1)=none):
  ∃N3 cH,bH mM (k+6) 39 [bP,.ref (.g a)] ⟨hh N,nx⟩=some (.bool true,⟨hh N3,cH⟩)/\kY N ((N'.num (.sl i) (.sl i,0)).dst d (N'.n+1)) nx a b d firm 3 fnds N3 cH:=by
 obtain⟨N2,o,W,P,e⟩:=oI T nx k a b 3 d (.int (.l i)) firm (by omega) rfl S U y t z (by simp) q (rm.less (by omega) (by omega));obtain⟨⟨ch,g,rfl⟩,I,J,Y,K,O,p6,p7,p8,Z⟩:=P;dsimp only at I J Y K O;have p:=B o (by omega);have a1:=p.nx;have a2:=p.st;have a3:=p.hd;have a4:=p.lg;have a5:=p.ex;have a6:=p.fo;have a7:=p.pl;have rn:cF ({N' with ch:=ch,g:=g}:Ns) o 20:=(fun r:cF N' o 20=>⟨r.nx,r.st,r.ce,r.pl,r.fo,r.ex,r.hd,r.lg⟩) (p.less (by omega) (by omega));have aa:cF (({N' with ch:=ch,g:=g}:Ns).num (.sl i) (.sl i,0)) (o+5) 20:=by have:=p.ce;constructor<;>first|omega|(simp only[cU,cT,cQ];omega)
 refine⟨(({N' with ch:=ch,g:=g}:Ns).num (.sl i) (.sl i,0)).dst d (N'.n+1),o+8,?_,⟨ch,g,rfl⟩,⟨W,_,I,J,by omega,Z⟩,K,fun j h=>O j (by omega),by omega,by omega⟩;rw[e];unfold m6;walk_at "k13"
theorem TA{N N':Ns}(i:Int){fnds:List Op}(T:Tks N (bR []) N' [] (bR fnds))(nx k a b:Nat)(d w r:Int)(firm:Bool)(S:N.g a=da 3 d b (.int (.l i)) firm)(U:N.g b=.list (bR []))(y:a<nx)(t:b<nx)(z:b≠a)
  (q:∀j,nx<=j->N.g j=.free) (rm:cF N nx 200) (B:∀x,x<=nx+30->cF N' x 100) (hd:N'.on.lookup d=some ()) (hs:N'.st.lookup d=none) (he:N'.ex.lookup (.sl i)=some w) (hv:N'.hd.lookup w=some r) (hr:N'.on.lookup r=some ()) (W:N'.st.lookup r=some w):
  ∃N3 cH,bH mM (k+6) 39 [bP,.ref (.g a)] ⟨hh N,nx⟩=some (.bool true,⟨hh N3,cH⟩)/\kY N (N'.oT d w) nx a b d firm 6 [.r r] N3 cH:=by
 obtain⟨N2,o,b2,P,e⟩:=oI T nx k a b 3 d (.int (.l i)) firm (by omega) rfl S U y t z (by simp) q (rm.less (by omega) (by omega));obtain⟨⟨ch,g,rfl⟩,Y,Z,p3,I,J,p6,p7,p8,p9⟩:=P;dsimp only at Y Z p3 I J;have p:=B o (by omega);have a1:=p.nx;have a2:=p.st;have a3:=p.hd;have a4:=p.lg;have a5:=p.ex;have a6:=p.fo;have a7:=p.pl;have rn:cF ({N' with ch:=ch,g:=g}:Ns) o 20:=(fun r:cF N' o 20=>⟨r.nx,r.st,r.ce,r.pl,r.fo,r.ex,r.hd,r.lg⟩) (p.less (by omega) (by omega));have K:a<o:=by omega
 refine⟨_,o+6,?_,⟨true,fun j=>if j=a then da 6 d (o+1) (.int (.l 0)) firm else if j=o+1 then .list (bR [.r r])else g j,rfl⟩,⟨o+1,.int (.l 0),by simp,by simp[show o+1≠a by omega],by omega,by omega,.inr (by omega)⟩,fun j h O=>by simp[O,show j≠o+1 by omega];exact I j h O,fun j h=>by simp[show j≠a by omega,show j≠o+1 by omega];exact J j (by omega),by omega,by omega⟩;rw[e];unfold m6;walk_at "k13"
 all_goals rfl
theorem TB{N N':Ns}(x v c:Int){fnds:List Op}(T:Tks N (bR [.r x,.k c]) N' [vv v,kv c] (bR fnds))(nx k a b:Nat)(d:Int)(firm:Bool)(U:N.g a=da 5 d b (.int (.l 0)) firm)(W:N.g b=.list (bR [.r x,.k c]))(z:a<nx)(t:b<nx)(B:b≠a)
  (q:∀j,nx<=j->N.g j=.free) (rm:cF N nx 200) (I:∀y,y<=nx+30->cF N' y 100) (hd:N'.on.lookup d=some ()) (hs:N'.st.lookup d=none) (he:N'.ex.lookup (.ad c v)=none) (hf:N'.fo.lookup (N'.n+1)=none) (hq:N'.pl.lookup (N'.n+1)=none) (hv:N'.hd.lookup (N'.n+1)=none):
  ∃N3 cH,bH mM (k+6) 39 [bP,.ref (.g a)] ⟨hh N,nx⟩=some (.bool true,⟨hh N3,cH⟩)/\kY N ((N'.num (.ad c v) ((dc N' v).1,jA ((dc N' v).2+c))).dst d (N'.n+1)) nx a b d firm 5 fnds N3 cH:=by
 obtain⟨N2,o,Y,P,e⟩:=oI T nx k a b 5 d (.int (.l 0)) firm (by omega) rfl U W z t B (by simp) q (rm.less (by omega) (by omega));obtain⟨⟨ch,g,rfl⟩,J,K,Z,O,S,p6,p7,p8,p9⟩:=P;dsimp only at J K Z O S;have p:=I o (by omega);have a1:=p.nx;have a2:=p.st;have a3:=p.hd;have a4:=p.lg;have a5:=p.ex;have a6:=p.fo;have a7:=p.pl;have rn:cF ({N' with ch:=ch,g:=g}:Ns) o 20:=(fun r:cF N' o 20=>⟨r.nx,r.st,r.ce,r.pl,r.fo,r.ex,r.hd,r.lg⟩) (p.less (by omega) (by omega));have aa:cF (({N' with ch:=ch,g:=g}:Ns).num (.ad c v) ((dc {N' with ch:=ch,g:=g} v).1,jA ((dc {N' with ch:=ch,g:=g} v).2+c))) (o+5) 20:=by have:=p.ce;constructor<;>first|omega|(simp only[cU,cT,cQ];omega)
 refine⟨(({N' with ch:=ch,g:=g}:Ns).num (.ad c v) ((dc {N' with ch:=ch,g:=g} v).1,jA ((dc {N' with ch:=ch,g:=g} v).2+c))).dst d (N'.n+1),o+8,?_,⟨ch,g,rfl⟩,⟨Y,_,J,K,by omega,p9⟩,O,fun j h=>S j (by omega),by omega,by omega⟩;rw[e];unfold m6;walk_at "k13"
theorem TC{N N':Ns}(x v c:Int){fnds:List Op}(T:Tks N (bR [.r x,.k c]) N' [vv v,kv c] (bR fnds))(nx k a b:Nat)(d w r:Int)(firm:Bool)(U:N.g a=da 5 d b (.int (.l 0)) firm)(W:N.g b=.list (bR [.r x,.k c]))(z:a<nx)(t:b<nx)(B:b≠a)
  (q:∀j,nx<=j->N.g j=.free) (rm:cF N nx 200) (I:∀y,y<=nx+30->cF N' y 100) (hd:N'.on.lookup d=some ()) (hs:N'.st.lookup d=none) (he:N'.ex.lookup (.ad c v)=some w) (hv:N'.hd.lookup w=some r) (hr:N'.on.lookup r=some ()) (Y:N'.st.lookup r=some w):
  ∃N3 cH,bH mM (k+6) 39 [bP,.ref (.g a)] ⟨hh N,nx⟩=some (.bool true,⟨hh N3,cH⟩)/\kY N (N'.oT d w) nx a b d firm 6 [.r r] N3 cH:=by
 obtain⟨N2,o,b2,P,e⟩:=oI T nx k a b 5 d (.int (.l 0)) firm (by omega) rfl U W z t B (by simp) q (rm.less (by omega) (by omega));obtain⟨⟨ch,g,rfl⟩,Z,p2,p3,J,K,p6,p7,p8,p9⟩:=P;dsimp only at Z p2 p3 J K;have p:=I o (by omega);have a1:=p.nx;have a2:=p.st;have a3:=p.hd;have a4:=p.lg;have a5:=p.ex;have a6:=p.fo;have a7:=p.pl;have rn:cF ({N' with ch:=ch,g:=g}:Ns) o 20:=(fun r:cF N' o 20=>⟨r.nx,r.st,r.ce,r.pl,r.fo,r.ex,r.hd,r.lg⟩) (p.less (by omega) (by omega));have O:a<o:=by omega
 refine⟨_,o+6,?_,⟨true,fun j=>if j=a then da 6 d (o+1) (.int (.l 0)) firm else if j=o+1 then .list (bR [.r r])else g j,rfl⟩,⟨o+1,.int (.l 0),by simp,by simp[show o+1≠a by omega],by omega,by omega,.inr (by omega)⟩,fun j h S=>by simp[S,show j≠o+1 by omega];exact J j h S,fun j h=>by simp[show j≠a by omega,show j≠o+1 by omega];exact K j (by omega),by omega,by omega⟩;rw[e];unfold m6;walk_at "k13"
 all_goals rfl
abbrev vO:O:=.list [.tup [.int (.l 8),.int (.l 4)],.tup [.int (.l 8),.int (.l 4)]]
def ik:Bs->Prop
 |.sl i=>i=0∨i=1
 |_=>True
def jK(k:Ck):Bool:=match k.b with
 |.sl _=>decide (0<=k.o)&&decide (k.o+k.w<=8)
 |.na _=>true
 |.va _=>false
theorem K8(a b:Int):(!decide (a<b))=decide (b<=a):=by by_cases h:a<b<;>simp[h]<;>omega
theorem NV(b:Bs)(o w:Int)(h:Hp):eD mM h (Ck.v ⟨b,o,w⟩)=some [b.v,.int (.l o),.int (.l w)]:=rfl
theorem Ej(k:Ck)(s:St Hp):iX (some k.v) s=some (k.v,s):=rfl
theorem D0(k:Ck)(s:St Hp):hQ mM k.v (.int (.l 0)) s=iX (some k.b.v) s:=rfl
theorem Nc(k:Ck)(s:St Hp):hQ mM k.v (.int (.l 1)) s=iX (some (.int (.l k.o))) s:=rfl
theorem Nd(k:Ck)(s:St Hp):hQ mM k.v (.int (.l 2)) s=iX (some (.int (.l k.w))) s:=rfl
def A6:Bs->Nat
 |.sl _=>3
 |.na _=>4
 |.va _=>2
theorem D1(b:Bs)(s:St Hp):hQ mM b.v (.int (.l 0)) s=some (.str (A6 b),s):=by cases b<;>rfl
theorem D2(i:Int)(s:St Hp):hQ mM (Bs.sl i).v (.int (.l 1)) s=some (.int (.l i),s):=rfl
theorem NW(h:Hp)(a b:Bs):kV mM h a.v b.v=some (decide (a=b)):=(show _=eqv dN a.v b.v by cases a<;>cases b<;>rfl).trans (MZ a b)
local macro_rules |`(tactic|walk_at "k14")=>`(tactic|simp(disch:=walk_at "k10")only[el,ff,iH,fp,eM,fY,nX,fS,iI,eZ,eF,nY,gj,oQ,yo,fG,iJ,lP,ma,lQ,tO,tS,eN,eO,fN,rd,iT,eQ,AF,HI,pG,fC,fA,fe,gw,jQ,ij,jJ,wt,NO,kT,gQ,jf,bA,bW,fill,fb,eY,fX,ki,Option.isSome,ft,gy, *,Eh,jV,mL,kc,jR,jS,lL,Nat.reduceBEq,nZ,oM,oN,oR,oS,tL,tJ,wU,I6,Ho,rV,rW,sT,lp,K8,NV,Ej,D0,Nc,Nd,D1,D2,NW,A6])
theorem Gq(N:Ns)(nx k p:Nat)(c:Ck)(hp:N.g p=vO)(e:ik c.b):bH mM (k+1) 17 [c.v,.ref (.g p)] ⟨hh N,nx⟩=some (.bool (jK c),⟨hh N,nx⟩):=by
 obtain⟨b,o,w⟩:=c;rw[c17];unfold zq;cases b with
 |sl i=>unfold jK;rcases e with rfl|rfl<;>(simp only;cases h:decide (0<=o)<;>walk_at "k14"<;>rfl)
 |na s=>unfold jK;walk_at "k14"
 |va n=>unfold jK;walk_at "k14"
def kz(pr:List (Int×Unit)):Bs->Bool
 |.sl i=>(pr.lookup i).isSome
 |_=>false
def hH(pr:List (Int×Unit))(a b:Ck):Bool:=
 bif decide (a.b=b.b)then decide (Int.fmod (a.o-b.o) 4294967296<b.w)||decide (4294967296-Int.fmod (a.o-b.o) 4294967296<a.w)
 else bif jK a&&jK b then false else bif jK a&&kz pr a.b then false else !(jK b&&kz pr b.b)
theorem El(a b:Int):tV mM.F mM.P.sl (.int (.l a)) (.int (.l b))=some (decide (a<b)):=rfl
local macro_rules |`(tactic|walk_at "k15")=>`(tactic|simp(disch:=walk_at "k10")only[el,ff,iH,fp,eM,fY,nX,fS,iI,eZ,eF,nY,gj,oQ,yo,fG,iJ,lP,ma,lQ,tO,tS,eN,eO,fN,rd,iT,eQ,AF,HI,pG,fC,fA,fe,gw,jQ,ij,jJ,wt,NO,kT,gQ,jf,bA,bW,fill,fb,eY,fX,ki,Option.isSome,ft,gy, *,Eh,jV,mL,kc,jR,jS,lL,Nat.reduceBEq,nZ,oM,oN,oR,oS,tL,tJ,wU,I6,Ho,rV,rW,sT,lp,K8,NV,Ej,D0,Nc,Nd,D1,D2,NW,A6,Gq,El,kz,lM,mE,nK,ql])
theorem L7(N:Ns)(nx k p:Nat)(a b:Ck)(hp:N.g p=vO)(ha:ik a.b)(B:ik b.b):bH mM (k+2) 18 [a.v,b.v,.ref (.g p),.ref (.s 19)] ⟨hh N,nx⟩=some (.bool (hH N.pr a b),⟨hh N,nx⟩):=by
 rw[c18];unfold zt hH;obtain⟨e,o,x⟩:=a;obtain⟨j,q,t⟩:=b;cases I:decide (e=j)with
 |true=>walk_at "k15";cases y:decide (Int.fmod (o-q) 4294967296<t)<;>walk_at "k15"<;>rfl
 |false=>
  cases y:jK ⟨e,o,x⟩<;>cases J:jK ⟨j,q,t⟩
  ·walk_at "k15"
   all_goals rfl
  ·cases j with|sl i=>cases z:N.pr.lookup i<;>(walk_at "k15";all_goals rfl)|na s=>walk_at "k15";all_goals rfl|va n=>walk_at "k15";all_goals rfl
  ·cases e with|sl i=>cases z:N.pr.lookup i<;>(walk_at "k15";all_goals rfl)|na s=>walk_at "k15";all_goals rfl|va n=>walk_at "k15";all_goals rfl
  ·walk_at "k15"
   all_goals rfl
theorem Nf(N:Ns)(n:Nat)(k:Ck)(a:Nat)(h:N.ce.lookup k=some a)(e:n<bu):gO mM 1 (.s 23) 1 [k.v] ⟨hh N,n⟩=some (.ref (.g a),⟨hh {N with ce:=kX k N.ce,mP:=N.mP+1},n+1⟩):=by unfold gO sG vW;simp only[Bx,lx];rw[HK,je qX];have hd:jH mM.F k.v (g9 Ck.v (fun a=>.ref (.g a)) N.ce)=some (some (.ref (.g a))):=(pD qX (fun a=>.ref (.g a)) k N.ce).trans (by rw[h];rfl);simp only[hd,fX];unfold wb;have j:qw mM.F k.v (g9 Ck.v (fun a=>V.ref (.g a)) N.ce)=some (g9 Ck.v (fun a=>.ref (.g a)) (kX k N.ce)):=GP qX (fun a=>.ref (.g a)) k N.ce;simp only[j];rw[Dz mM _ n _ _ rfl rfl e];rfl
theorem Ng(N:Ns)(n:Nat)(l:L)(C:CH Hp)(es:List E):ic mM C (.ref (.s 23)) 1 (dA mM C es) l ⟨hh N,n⟩=bO (dA mM C es l ⟨hh N,n⟩) fun vs t=>gO mM 1 (.s 23) 1 vs t:=rfl
def nS(l:List (Ck×Nat)):List V:=l.map fun p=>p.1.v
theorem bl1(N:Ns)(n:Nat)(hf:N.g n=.free)(e:n<bu):builtin mM 1 [.ref (.s 23)] ⟨hh N,n⟩=some (.ref (.g n),⟨hh {N with g:=fun j=>if j=n then .list (nS N.ce)else N.g j},n+1⟩):=by
 show new mM .none (.list ((sR N.ce).map (·.1))) ⟨hh N,n⟩=_
 rw[wA N n _ hf e];have:(sR N.ce).map (·.1)=nS N.ce:=by unfold sR nS;rw[List.map_map];rfl
 rw[this]
local macro_rules |`(tactic|walk_at "k16")=>`(tactic|simp(disch:=walk_at "k10")only[el,ff,fp,eM,fY,jk,fS,eZ,eF,gz,gj,yo,fG,iJ,lP,ig,tO,tS,eN,eO,eQ,fC,fA,fe,jQ,sS,vY,gQ,oF,bA,bW,fb,eY,fX,ki,Option.isSome,ft,gy, *,O6,O7,yB,I1,O8,Eh,Io,kc,jR,Nat.reduceBEq,tL,tJ,HL,sT,qA,lp,Ej,D0,D1,D2,A6,Gq,kz,lM,L7,Nf,Ng])
abbrev Ns.yD(N:Ns)(k:Ck)(a:Nat):Ns:={N with ce:=kX k N.ce,mP:=N.mP+1,lg:=N.lg++[.tup [.ref (.s 23),k.v,.ref (.g a)]]}
theorem Vz(N:Ns)(nx k:Nat)(e:Ck)(a:Nat)(h:N.ce.lookup e=some a)(j:nx+2<bu)(hl:N.lg.length<bu):bH mM (k+1) 22 [bP,.ref (.s 23),e.v] ⟨hh N,nx⟩=some (.none,⟨hh (N.yD e a),nx+2⟩):=by rw[c22];unfold zi;walk_at "k16"
local macro_rules |`(tactic|walk_at "k17")=>`(tactic|simp(disch:=walk_at "k10")only[el,ff,fp,eM,fY,jk,fS,eZ,eF,gz,gj,yo,fG,iJ,lP,ig,tO,tS,eN,eO,eQ,fC,fA,fe,jQ,sS,vY,gQ,oF,bA,bW,fb,eY,fX,ki,Option.isSome,ft,gy, *,O6,O7,yB,I1,O8,Eh,Io,kc,jR,Nat.reduceBEq,tL,tJ,HL,sT,qA,lp,Ej,D0,D1,D2,A6,Gq,kz,lM,L7,Nf,Ng,Vz])
structure mu(N:Ns)(f sl:Nat):Prop where
 fn:N.fn=.ref (.g f)
 inst:∃fs,N.g f=.inst 2 fs/\fld 12 fs=some (.ref (.g sl))
 pE:N.g sl=vO
def DA:List S:=[.if (.cf 18 [.l 2,.l 1,.at (.at (.l 0) 18) 12,.at (.l 0) 20]) [.ex (.me (.l 0) 32 [.at (.l 0) 24,.l 2])] []]
def DB:List S:=[.as 2 (.ix (.l 1) (.c (.int (.l 0)))),
 .if (.or [.cm .ne (.ix (.l 2) (.c (.int (.l 0)))) (.c (.str 3)),.cm .nj (.ix (.l 2) (.c (.int (.l 1)))) (.at (.l 0) 20),.nt (.cf 17 [.l 1,.at (.at (.l 0) 18) 12])]) [.ex (.me (.l 0) 32 [.at (.l 0) 24,.l 1])] []]
theorem VA(N:Ns)(nx k f sl:Nat)(F:mu N f sl)(e p:Ck)(a:Nat)(x:V)(hk:ik e.b)(hp:ik p.b)(h:N.ce.lookup e=some a)(rm:cF N nx 10):
  dE mM (.nm 2) (cy mM (bH mM (k+2)) DA) e.v [bP,p.v,x] ⟨hh N,nx⟩=some ((.nx,[bP,p.v,e.v]),bif hH N.pr e p then⟨hh (N.yD e a),nx+2⟩else⟨hh N,nx⟩):=by
 have a1:=rm.nx;have j:=rm.lg;obtain⟨o,⟨fs,q,t⟩,y⟩:=F;unfold dE fV DA;simp only[bW];cases z:hH N.pr e p<;>walk_at "k17"
theorem VB(N:Ns)(nx k f sl:Nat)(F:mu N f sl)(e:Ck)(a:Nat)(x y:V)(hk:ik e.b)(h:N.ce.lookup e=some a)(rm:cF N nx 10):
  dE mM (.nm 1) (cy mM (bH mM (k+2)) DB) e.v [bP,x,y] ⟨hh N,nx⟩=some ((.nx,[bP,e.v,e.b.v]),bif !(kz N.pr e.b&&jK e)then⟨hh (N.yD e a),nx+2⟩else⟨hh N,nx⟩):=by
 have a1:=rm.nx;have p:=rm.lg;obtain⟨q,⟨fs,t,z⟩,B⟩:=F;unfold dE fV DB;simp only[bW];obtain⟨j,ko,o⟩:=e;cases j with|sl i=>cases I:N.pr.lookup i<;>cases J:jK ⟨.sl i,ko,o⟩<;>walk_at "k17"<;>rfl|na s=>walk_at "k17";all_goals rfl|va n=>walk_at "k17";all_goals rfl
theorem LF{κ α:Type} [DecidableEq κ]{a:α}{k:κ}:∀{l r:List (κ×α)}(_:(l.map (·.1)++k::r.map (·.1)).Nodup),(l++(k,a)::r).lookup k=some a
 |[],r,_=>by simp
 |p::l,r,h=>by
  rw[gf,fb,nN]at h;have:(k==p.1)=false:=km.mpr fun e=>h.1 (e▸by simp)
  show((p.1,p.2)::(l++(k,a)::r)).lookup k=_
  rw[jT,this];exact LF h.2
theorem G3{κ α:Type} [DecidableEq κ]{a:α}{k:κ}:∀{l r:List (κ×α)}(_:(l.map (·.1)++k::r.map (·.1)).Nodup),kX k (l++(k,a)::r)=l++r
 |[],r,_=>by simp[kX]
 |p::l,r,h=>by
  rw[gf,fb,nN]at h;have:p.1≠k:=fun e=>h.1 (e▸by simp)
  show kX k (p::(l++(k,a)::r))=_
  rw[kX,bL this,G3 h.2];rfl
theorem cF.wg{N:Ns}{nx m:Nat}{g:Nat->O}(r:cF N nx m):cF (N.wg g) nx m:=⟨r.nx,r.st,r.ce,r.pl,r.fo,r.ex,r.hd,r.lg⟩
def HO(N N':Ns):Prop:=∃ce e lg,N'={N with ce:=ce,mP:=e,lg:=lg}
theorem C8(o:V->L->St Hp->R Hp (Fl×L))(B:Ck->Bool)(P:L->Prop)(I:Ns)(q:Nat)(ks:List V)(Y:I.g q=.list ks)
  (H:∀(N:Ns)(nx:Nat)(j:Ck)(a:Nat)(l:L),HO I N->cF N nx 10->N.ce.lookup j=some a->ik j.b->P l->∃K,P K/\o j.v l ⟨hh N,nx⟩=some ((.nx,K),bif B j then⟨hh (N.yD j a),nx+2⟩else⟨hh N,nx⟩)):
  ∀(rest keep:List (Ck×Nat))(N:Ns)(nx:Nat)(dV:List V)(l:L),HO I N->N.ce=keep++rest->((keep++rest).map (·.1)).Nodup->(∀p∈rest,ik p.1.b)->ks=dV++nS rest->P l->cF N nx (2*rest.length+10)->
   ∃K N' x,P K/\eU mM (.li (.g q)) o (rest.length+1) dV.length l ⟨hh N,nx⟩=some ((.nx,K),⟨hh N',x⟩)/\HO I N'/\N'.ce=keep++rest.filter (fun p=>!B p.1)/\N'.lg.length<=N.lg.length+rest.length/\nx<=x/\x<=nx+2*rest.length
 |[],keep,N,nx,dV,l,S,J,hn,Z,hk,hP,rm=>by
  refine⟨l,N,nx,hP,?_,S,by simpa using J,by simp,ez _,by simp⟩;have hg:N.g q=.list ks:=by obtain⟨ce,e,lg,rfl⟩:=S;exact Y
  have aa:ks=dV:=by rw[hk];simp[nS]
  show eU mM _ _ (0+1) _ _ _=_
  simp only[eU];rw[vN _ q _ _ (show mM.get (hh N) (.g q)=.list ks from hg),aa,Di]
 |(j,a)::rest,keep,N,nx,dV,l,S,J,hn,Z,hk,hP,rm=>by
  have t:(keep.map (·.1)++j::rest.map (·.1)).Nodup:=by simpa using hn
  have y:N.ce.lookup j=some a:=by rw[J];exact LF t
  have a1:=rm.nx;simp only[cT]at rm a1;obtain⟨l1,O,e1⟩:=H N nx j a l S (rm.less (by omega) (by omega)) y (Z _ fB) hP;have step:eU mM (.li (.g q)) o (rest.length+1+1) dV.length l ⟨hh N,nx⟩=eU mM (.li (.g q)) o (rest.length+1) (dV.length+1) l1 (bif B j then⟨hh (N.yD j a),nx+2⟩else⟨hh N,nx⟩):=by
   rw[eU];have hg:N.g q=.list ks:=by obtain⟨ce,e,lg,rfl⟩:=S;exact Y
   rw[vN _ q _ _ (show mM.get (hh N) (.g q)=.list ks from hg),show bA ks dV.length=some j.v by rw[hk];exact zS dV j.v (nS rest)];simp only[e1]
  have U:(dV++[j.v]).length=dV.length+1:=by simp
  have W:ks=(dV++[j.v])++nS rest:=by rw[hk];simp[nS]
  cases hd:B j with
  |true=>
   rw[hd]at step;obtain⟨l2,N2,z,q1,q2,q3,q4,q5,q6,q7⟩:=C8 o B P I q ks Y H rest keep (N.yD j a) (nx+2) (dV++[j.v]) l1 (by obtain⟨ce,e,lg,rfl⟩:=S;exact⟨_,_,_,rfl⟩)
    (by show kX j N.ce=_;rw[J];exact G3 t) (by
     have:(keep++rest).map (·.1)=keep.map (·.1)++rest.map (·.1):=by simp
     rw[this];exact t.sublist (List.Sublist.append_left (List.sublist_cons_self _ _) _)) (fun p hp=>Z p (hO _ hp)) W O (by
     have b1:=rm.st;have b2:=rm.ce;have b3:=rm.pl;have b4:=rm.fo;have b5:=rm.ex;have b6:=rm.hd;have b7:=rm.lg;have b8:(kX j N.ce).length<=N.ce.length:=by rw[J,G3 t];simp
     constructor<;>first|omega|(simp only[cU,cT,cQ];omega))
   rw[U]at q2;refine⟨l2,N2,z,q1,step.trans q2,q3,?_,?_,by omega,by simp only[cT];omega⟩
   ·rw[q4,List.filter_cons];simp[hd]
   ·simp only[cU,cT,cQ]at q5⊢;omega
  |false=>
   rw[hd]at step;obtain⟨l2,N2,z,q1,q2,q3,q4,q5,q6,q7⟩:=C8 o B P I q ks Y H rest (keep++[(j,a)]) N nx (dV++[j.v]) l1 S (by rw[J];simp) (by simpa using hn) (fun p hp=>Z p (hO _ hp)) W O (rm.less (by omega) (by omega));rw[U]at q2;refine⟨l2,N2,z,q1,step.trans q2,q3,?_,?_,by omega,by simp only[cT];omega⟩
   ·rw[q4,List.filter_cons];simp[hd]
   ·simp only[cT];omega
local macro_rules |`(tactic|walk_at "k18")=>`(tactic|simp(disch:=walk_at "k10")only[el,ff,fp,eM,eF,gz,ky,eN,eO,eQ,gQ,oF,bA,fill,fb,eY,Option.isSome,ft,gy, *,yB,kz,bl1])
theorem aaY(k:Nat)(as:List V)(h:Hp)(n:Nat):bH mM (k+1) 36 as ⟨h,n⟩=enter mM (bH mM k) ⟨2,3,[.fo (.nm 2) (.ex (.cb 1 [.at (.l 0) 24])) DA]⟩ as ⟨h,n⟩:=rfl
theorem aaZ(k:Nat)(as:List V)(h:Hp)(n:Nat):bH mM (k+1) 37 as ⟨h,n⟩=enter mM (bH mM k) ⟨1,3,[.fo (.nm 1) (.ex (.cb 1 [.at (.l 0) 24])) DB]⟩ as ⟨h,n⟩:=rfl
theorem K9(l:List (Ck×Nat)):(nS l).length=l.length:=by simp[nS]
structure I8(N:Ns)(nx:Nat)(dr:Ck->Bool)(N':Ns)(mv:Nat):Prop where
 eq:∃e lg g,N'={N with ce:=N.ce.filter (fun p=>!dr p.1),mP:=e,lg:=lg,g:=g}
 lg:N'.lg.length<=N.lg.length+N.ce.length
 old:∀j,j<nx->N'.g j=N.g j
 free:∀j,mv<=j->N'.g j=.free
 lo:nx<=mv
 hi:mv<=nx+1+2*N.ce.length
theorem mu.same{N N':Ns}{f sl nx:Nat}(F:mu N f sl)(hf:f<nx)(hs:sl<nx)(e:N'.fn=N.fn)(k:∀j,j<nx->N'.g j=N.g j):mu N' f sl:=⟨e.trans F.fn,by obtain⟨fs,a,b⟩:=F.inst;exact⟨fs,(k f hf).trans a,b⟩,(k sl hs).trans F.pE⟩
theorem La(N:Ns)(nx k f sl:Nat)(F:mu N f sl)(hf:f<nx)(B:sl<nx)(p:Ck)(hp:ik p.b)(Y:∀q∈N.ce,ik q.1.b)(Z:(N.ce.map (·.1)).Nodup)(o:∀j,nx<=j->N.g j=.free)(rm:cF N nx (2*N.ce.length+20)):
  ∃N' y,bH mM (k+3) 36 [bP,p.v] ⟨hh N,nx⟩=some (.none,⟨hh N',y⟩)/\I8 N nx (fun t=>hH N.pr t p) N' y:=by
 have a1:=rm.nx;have f0:=o nx (ez _)
 let z:Ns:=N.wg fun j=>if j=nx then .list (nS N.ce)else N.g j
 have I:mu z f sl:=F.same hf B rfl fun j h=>by show(if j=nx then _ else N.g j)=N.g j;rw[bL (by omega)]
 obtain⟨l',N',y,_,e2,⟨ce,ee,lg,rfl⟩,J,e5,e6,e7⟩:=C8 (dE mM (.nm 2) (cy mM (bH mM (k+2)) DA)) (fun t=>hH N.pr t p) (fun l=>∃x,l=[bP,p.v,x]) z nx (nS N.ce) (by show(if nx=nx then _ else _)=_;rw[df rfl])
  (fun N2 K t a l S O hl U hP=>by
   obtain⟨x,rfl⟩:=hP;obtain⟨ce,e,lg,rfl⟩:=S
   exact⟨_,⟨_,rfl⟩,VA {z with ce:=ce,mP:=e,lg:=lg} K k f sl ⟨I.fn,I.inst,I.pE⟩ t p a x U hp hl O⟩)
  N.ce [] z (nx+1) [] [bP,p.v,.no] ⟨N.ce,N.mP,N.lg,rfl⟩ rfl (by simpa using Z) Y (by simp) ⟨_,rfl⟩ (cF.wg (rm.less (by omega) (by omega)))
 have J:ce=_:=J;refine⟨_,y,?_,⟨⟨ee,lg,z.g,by rw[J];rfl⟩,e5,fun j h=>by show(if j=nx then _ else N.g j)=N.g j;rw[bL (by omega)],fun j h=>by show(if j=nx then _ else N.g j)=_;rw[bL (by omega)];exact o j (by omega),by omega,by omega⟩⟩;rw[aaY];walk_at "k18";rw[mK,rQ];walk_at "k18";have W:mM.get (hh z) (.g nx)=.list (nS N.ce):=by show(if nx=nx then _ else _)=_;rw[df rfl]
 rw[DX mM _ _ W,el,AG mM _ W,K9];rw[show(0:Nat)=([]:List V).length from rfl,e2];walk_at "k18"
theorem VC(N:Ns)(nx k f sl:Nat)(F:mu N f sl)(hf:f<nx)(B:sl<nx)(Y:∀q∈N.ce,ik q.1.b)(Z:(N.ce.map (·.1)).Nodup)(p:∀j,nx<=j->N.g j=.free)(rm:cF N nx (2*N.ce.length+20)):
  ∃N' t,bH mM (k+3) 37 [bP] ⟨hh N,nx⟩=some (.none,⟨hh N',t⟩)/\I8 N nx (fun o=>!(kz N.pr o.b&&jK o)) N' t:=by
 have a1:=rm.nx;have f0:=p nx (ez _)
 let z:Ns:=N.wg fun j=>if j=nx then .list (nS N.ce)else N.g j
 have I:mu z f sl:=F.same hf B rfl fun j h=>by show(if j=nx then _ else N.g j)=N.g j;rw[bL (by omega)]
 obtain⟨l',N',t,_,e2,⟨ce,ee,lg,rfl⟩,J,e5,e6,e7⟩:=C8 (dE mM (.nm 1) (cy mM (bH mM (k+2)) DB)) (fun o=>!(kz N.pr o.b&&jK o)) (fun l=>∃x y,l=[bP,x,y]) z nx (nS N.ce) (by show(if nx=nx then _ else _)=_;rw[df rfl])
  (fun N2 K o a l S O hl U hP=>by
   obtain⟨x,y,rfl⟩:=hP;obtain⟨ce,e,lg,rfl⟩:=S
   exact⟨_,⟨_,_,rfl⟩,VB {z with ce:=ce,mP:=e,lg:=lg} K k f sl ⟨I.fn,I.inst,I.pE⟩ o a x y U hl O⟩)
  N.ce [] z (nx+1) [] [bP,.no,.no] ⟨N.ce,N.mP,N.lg,rfl⟩ rfl (by simpa using Z) Y (by simp) ⟨_,_,rfl⟩ (cF.wg (rm.less (by omega) (by omega)))
 have J:ce=_:=J;refine⟨_,t,?_,⟨⟨ee,lg,z.g,by rw[J];rfl⟩,e5,fun j h=>by show(if j=nx then _ else N.g j)=N.g j;rw[bL (by omega)],fun j h=>by show(if j=nx then _ else N.g j)=_;rw[bL (by omega)];exact p j (by omega),by omega,by omega⟩⟩;rw[aaZ];walk_at "k18";rw[mK,rQ];walk_at "k18";have W:mM.get (hh z) (.g nx)=.list (nS N.ce):=by show(if nx=nx then _ else _)=_;rw[df rfl]
 rw[DX mM _ _ W,el,AG mM _ W,K9];rw[show(0:Nat)=([]:List V).length from rfl,e2];walk_at "k18"
theorem Zv:mM.P.eE 3 16=true:=rfl
theorem Zw:mM.P.eE 3 17=true:=rfl
theorem aa0:Nat.blt ([]:List (Nat×V)).length 1000=true:=rfl
theorem aa1(a:Nat×V):Nat.blt [a].length 1000=true:=rfl
theorem Ae{H:Type}(v:V)(s:St H):Eb v .none s=some (v,s):=rfl
theorem Af{H:Type}(M:Mc H)(C:CH H)(c:Nat)(k:Option Nat)(vs:List V)(h:H)(n:Nat):make M C c k vs ⟨h,n⟩=match M.P.rp c with
 |some f=>bO (new M k (.inst c []) ⟨h,n⟩) fun v s=>bO (C f (v::vs) s) fun r s=>Eb v r s
 |.none=>.none:=rfl
theorem aa2:mM.P.rp 3=some 19:=rfl
theorem Pp(N:Ns)(n:Nat)(b:Bool):builtin mM 6 [.bool b] ⟨hh N,n⟩=some (.bool b,⟨hh N,n⟩):=rfl
theorem NX(N:Ns)(n:Nat):hQ mM (.ref (.s 4)) (.tup [.int (.l 1),.bool true]) ⟨hh N,n⟩=some (.str 14,⟨hh N,n⟩):=rfl
theorem G4(N:Ns)(v:Int):dF mM (hh N) (.tup [.str 14,.int (.l 0),.tup [vv v]]) (.ref (.s 26))=some (N.ex.lookup (.wi true false v)).isSome:=wy N (.wi true false v)
theorem Gr(N:Ns)(n k:Nat)(v w:Int)(h:N.ex.lookup (.wi true false v)=none)(e:n+1<bu)(hl:N.ex.length<bu)(j:N.lg.length<bu):bH mM (k+1) 21 [bP,.ref (.s 26),.tup [.str 14,.int (.l 0),.tup [vv v]],vv w] ⟨hh N,n⟩=some (.none,⟨hh (N.mq (.wi true false v) w),n+2⟩):=vL N n k (.wi true false v) w h e hl j
theorem Gs(N:Ns)(nx k:Nat)(w:Int)(x y:V):bH mM (k+2) 32 [bP,vv w,.str 14,x,y] ⟨hh N,nx⟩=some (.none,⟨hh N,nx⟩):=C7 N nx k w x y true false
theorem NY(N:Ns)(n:Nat):hQ mM (.ref (.s 4)) (.tup [.int (.l 2),.bool true]) ⟨hh N,n⟩=some (.str 15,⟨hh N,n⟩):=rfl
theorem G5(N:Ns)(v:Int):dF mM (hh N) (.tup [.str 15,.int (.l 0),.tup [vv v]]) (.ref (.s 26))=some (N.ex.lookup (.wi true true v)).isSome:=wy N (.wi true true v)
theorem Gu(N:Ns)(n k:Nat)(v w:Int)(h:N.ex.lookup (.wi true true v)=none)(e:n+1<bu)(hl:N.ex.length<bu)(j:N.lg.length<bu):bH mM (k+1) 21 [bP,.ref (.s 26),.tup [.str 15,.int (.l 0),.tup [vv v]],vv w] ⟨hh N,n⟩=some (.none,⟨hh (N.mq (.wi true true v) w),n+2⟩):=vL N n k (.wi true true v) w h e hl j
theorem Gv(N:Ns)(nx k:Nat)(w:Int)(x y:V):bH mM (k+2) 32 [bP,vv w,.str 15,x,y] ⟨hh N,nx⟩=some (.none,⟨hh N,nx⟩):=C7 N nx k w x y true true
theorem NZ(N:Ns)(n:Nat):hQ mM (.ref (.s 4)) (.tup [.int (.l 1),.bool false]) ⟨hh N,n⟩=some (.str 16,⟨hh N,n⟩):=rfl
theorem G6(N:Ns)(v:Int):dF mM (hh N) (.tup [.str 16,.int (.l 0),.tup [vv v]]) (.ref (.s 26))=some (N.ex.lookup (.wi false false v)).isSome:=wy N (.wi false false v)
theorem Gw(N:Ns)(n k:Nat)(v w:Int)(h:N.ex.lookup (.wi false false v)=none)(e:n+1<bu)(hl:N.ex.length<bu)(j:N.lg.length<bu):bH mM (k+1) 21 [bP,.ref (.s 26),.tup [.str 16,.int (.l 0),.tup [vv v]],vv w] ⟨hh N,n⟩=some (.none,⟨hh (N.mq (.wi false false v) w),n+2⟩):=vL N n k (.wi false false v) w h e hl j
theorem Gx(N:Ns)(nx k:Nat)(w:Int)(x y:V):bH mM (k+2) 32 [bP,vv w,.str 16,x,y] ⟨hh N,nx⟩=some (.none,⟨hh N,nx⟩):=C7 N nx k w x y false false
theorem N0(N:Ns)(n:Nat):hQ mM (.ref (.s 4)) (.tup [.int (.l 2),.bool false]) ⟨hh N,n⟩=some (.str 17,⟨hh N,n⟩):=rfl
theorem G9(N:Ns)(v:Int):dF mM (hh N) (.tup [.str 17,.int (.l 0),.tup [vv v]]) (.ref (.s 26))=some (N.ex.lookup (.wi false true v)).isSome:=wy N (.wi false true v)
theorem Gy(N:Ns)(n k:Nat)(v w:Int)(h:N.ex.lookup (.wi false true v)=none)(e:n+1<bu)(hl:N.ex.length<bu)(j:N.lg.length<bu):bH mM (k+1) 21 [bP,.ref (.s 26),.tup [.str 17,.int (.l 0),.tup [vv v]],vv w] ⟨hh N,n⟩=some (.none,⟨hh (N.mq (.wi false true v) w),n+2⟩):=vL N n k (.wi false true v) w h e hl j
theorem Gz(N:Ns)(nx k:Nat)(w:Int)(x y:V):bH mM (k+2) 32 [bP,vv w,.str 17,x,y] ⟨hh N,nx⟩=some (.none,⟨hh N,nx⟩):=C7 N nx k w x y false true
local macro_rules |`(tactic|walk_at "k19")=>`(tactic|simp(disch:=walk_at "k10")only[el,ff,iH,fp,eM,fY,rl,oP,jk,fS,iI,eF,nY,gz,fG,iJ,ky,ig,lQ,eN,eO,fN,jh,iT,eQ,HH,fC,fA,fe,gw,jJ,gQ,jf,oF,bA,bW,fill,fb,eY,fX,Option.isSome, *,BA,BB,vc,wQ,BE,vG,wA,cL,AH,BF,Iq,Ir,Iu,Iv,BG,uX,uY,put,lp,sV,Zv,Zw,aa0,aa1,Ae,G4,Gr,Gs,G5,Gu,Gv,G6,Gw,Gx,G9,Gy,Gz])
theorem cell_eq(N:Ns)(n k:Nat)(v h:V)(o:v≠ .no)(e:h≠ .no)(hf:N.g n=.free)(p:n+3<bu):make mM (bH mM (k+1)) 3 .none [v,h] ⟨hh N,n⟩=some (.ref (.g n),⟨hh (N.wg fun j=>if j=n then .inst 3 [(16,v),(17,h)]else N.g j),n+3⟩):=by rw[Af,aa2];walk_at "k19";rw[c19];unfold zr;walk_at "k19"
theorem Ha(N:Ns)(n k:Nat)(u:Int)(h:Nat)(hf:N.g n=.free)(e:n+3<bu):make mM (bH mM (k+1)) 3 .none [vv u,.str h] ⟨hh N,n⟩=some (.ref (.g n),⟨hh (N.wg fun j=>if j=n then .inst 3 [(16,vv u),(17,.str h)]else N.g j),n+3⟩):=
 cell_eq N n k (vv u) (.str h) (by simp) (by simp) hf e
theorem Em:decide ((1:Int)=4)=false:=rfl
theorem En:decide ((2:Int)=4)=false:=rfl
theorem Eo:decide ((1:Int)=2)=false:=rfl
local macro_rules |`(tactic|walk_at "k20")=>`(tactic|simp(disch:=walk_at "k10")only[el,ff,iH,fp,eM,fY,rl,oP,nX,jk,fS,iI,eZ,eF,nY,gz,gj,fG,qz,iJ,nh,uW,ky,ig,ma,lQ,eN,eO,fN,rd,jh,iT,eQ,vX,fC,fA,fe,gw,jQ,ij,HJ,jJ,gQ,jf,bA,bW,fill,fb,eY,fX,ki,Option.isSome,ft,gy, *,yB,BA,BB,wO,wx,vc,wQ,BC,BD,I2,yC,BE,I3,I4,wz,vZ,kc,jR,n4,jS,Nat.reduceBEq,vG,Ge,zQ,zR,G0,wA,nZ,oM,oN,Na,oR,oS,NP,vM,Ab,cL,AH,HM,HN,G1,BF,Iq,Ir,Iu,Iv,BG,Po,xE,sT,qA,uX,uY,yp,uZ,yq,A1,fld,put,lp,sV,LB,Pp,NX,G4,Gr,Gs,NY,G5,Gu,Gv,NZ,G6,Gw,Gx,N0,G9,Gy,Gz,Ha,Em,En,Eo])
def kA(w:Int)(sg:Bool):Nat:=bif decide (w=4)then 13 else bif sg then 11 else 12
theorem VD(N:Ns)(nx k a b:Nat)(d v w:Int)(sg:Bool)(e:N.g a=da 8 d b (.tup [.int (.l w),.bool sg]) true)(hd:N.on.lookup d=some ())(hs:N.st.lookup d=none)(j:N.hd.lookup (N.n+1)=none)(rm:cF N nx 20):
  bH mM (k+5) 35 [bP,.ref (.g a),vv v] ⟨hh N,nx⟩=some (.bool true,⟨hh ((N.nn).dst d (N.n+1)),nx+4⟩):=by
 have a1:=rm.nx;have o:=rm.st;have a3:=rm.hd;have a4:=rm.lg;rw[E0];unfold uo;walk_at "k20"
theorem VE(N:Ns)(nx k a b:Nat)(d v w:Int)(sg:Bool)(o:w=4∨w=1∨w=2)(q:N.g a=da 8 d b (.tup [.int (.l w),.bool sg]) false)(p:a<nx)(hd:N.on.lookup d=some ())(hs:N.st.lookup d=none)(t:N.hd.lookup (N.n+1)=none)
  (e:∀j,nx<=j->N.g j=.free) (x:N.ce.lookup ⟨(dc N v).1,(dc N v).2,w⟩=none) (rm:cF N nx 20):
  bH mM (k+5) 35 [bP,.ref (.g a),vv v] ⟨hh N,nx⟩=some (.bool true,⟨hh ((((N.nn).wg fun j=>if j=nx+1 then .inst 3 [(16,vv (N.n+1)),(17,.str (kA w sg))]else N.g j).vd ⟨(dc N v).1,(dc N v).2,w⟩ (nx+1)).dst d (N.n+1)),nx+9⟩):=by
 have a1:=rm.nx;have y:=rm.st;have a3:=rm.hd;have a4:=rm.lg;have a5:=rm.ce;rw[E0];unfold uo kA;rcases o with rfl|rfl|rfl<;>cases sg<;>walk_at "k20"<;>all_goals rfl
theorem VF(N:Ns)(nx k a b c:Nat)(d v w u r:Int)(sg:Bool)(p:w=4∨w=1∨w=2)(x:N.g a=da 8 d b (.tup [.int (.l w),.bool sg]) false)(q:a<nx)(hd:N.on.lookup d=some ())(hs:N.st.lookup d=none)
  (o:∀j,nx<=j->N.g j=.free) (y:N.ce.lookup ⟨(dc N v).1,(dc N v).2,w⟩=some c) (e:N.g c=.inst 3 [(16,vv u),(17,.str (kA w sg))]) (z:N.hd.lookup u=some r) (hr:N.on.lookup r=some ()) (t:N.st.lookup r=some u) (rm:cF N nx 20):
  bH mM (k+5) 35 [bP,.ref (.g a),vv v] ⟨hh N,nx⟩=some (.bool true,⟨hh (({N with ch:=true}.oT d u).wg fun j=>if j=a then da 6 d (nx+1) (.int (.l 0)) false else if j=nx+1 then .list [rv r]else N.g j),nx+6⟩):=by
 have a1:=rm.nx;have B:=rm.st;have a3:=rm.hd;have a4:=rm.lg;have a5:=rm.ce;rw[E0];unfold uo;unfold kA at e;rcases p with rfl|rfl|rfl<;>cases sg<;>simp only[jS,lL,fX,ki,Em,En,Eo]at e<;>walk_at "k20"
theorem Dj(N:Ns)(nx k a op b:Nat)(d v:Int)(more_q:V)(firm:Bool)(e:N.g a=da op d b more_q firm)(hd:N.on.lookup d=some ())(hs:N.st.lookup d=none)(j:N.hd.lookup v=none)(o:nx+5<bu)(p:N.st.length<bu)(q:N.hd.length<bu)(t:N.lg.length<bu):
  bH mM (k+4) 34 [bP,.ref (.g a),vv v] ⟨hh N,nx⟩=some (.bool true,⟨hh ((N.oT d v).wR v d),nx+3⟩):=by
 rw[yA];unfold sA;walk_at "k20"
theorem UD(N:Ns)(nx k p:Nat)(v:Int)(hp:N.g p=.list [vv v])(e:N.ex.lookup (.wi true false v)=none)(hf:N.fo.lookup (N.n+1)=none)(j:nx+5<bu)(o:N.ex.length<bu)(q:N.fo.length<bu)(t:N.lg.length<bu):bH mM (k+4) 33 [bP,.str 14,.ref (.g p),.int (.l 0)] ⟨hh N,nx⟩=some (vv (N.n+1),⟨hh (((N.nn).mq (.wi true false v) (N.n+1)).r8 (N.n+1) (Ek.wi true false v).v),nx+4⟩):=by
 rw[sU];unfold pC;walk_at "k20"
 all_goals rfl
theorem UE(N:Ns)(nx k p:Nat)(v:Int)(hp:N.g p=.list [vv v])(e:N.ex.lookup (.wi true true v)=none)(hf:N.fo.lookup (N.n+1)=none)(j:nx+5<bu)(o:N.ex.length<bu)(q:N.fo.length<bu)(t:N.lg.length<bu):bH mM (k+4) 33 [bP,.str 15,.ref (.g p),.int (.l 0)] ⟨hh N,nx⟩=some (vv (N.n+1),⟨hh (((N.nn).mq (.wi true true v) (N.n+1)).r8 (N.n+1) (Ek.wi true true v).v),nx+4⟩):=by
 rw[sU];unfold pC;walk_at "k20"
 all_goals rfl
theorem UG(N:Ns)(nx k p:Nat)(v:Int)(hp:N.g p=.list [vv v])(e:N.ex.lookup (.wi false false v)=none)(hf:N.fo.lookup (N.n+1)=none)(j:nx+5<bu)(o:N.ex.length<bu)(q:N.fo.length<bu)(t:N.lg.length<bu):bH mM (k+4) 33 [bP,.str 16,.ref (.g p),.int (.l 0)] ⟨hh N,nx⟩=some (vv (N.n+1),⟨hh (((N.nn).mq (.wi false false v) (N.n+1)).r8 (N.n+1) (Ek.wi false false v).v),nx+4⟩):=by
 rw[sU];unfold pC;walk_at "k20"
 all_goals rfl
theorem UH(N:Ns)(nx k p:Nat)(v:Int)(hp:N.g p=.list [vv v])(e:N.ex.lookup (.wi false true v)=none)(hf:N.fo.lookup (N.n+1)=none)(j:nx+5<bu)(o:N.ex.length<bu)(q:N.fo.length<bu)(t:N.lg.length<bu):bH mM (k+4) 33 [bP,.str 17,.ref (.g p),.int (.l 0)] ⟨hh N,nx⟩=some (vv (N.n+1),⟨hh (((N.nn).mq (.wi false true v) (N.n+1)).r8 (N.n+1) (Ek.wi false true v).v),nx+4⟩):=by
 rw[sU];unfold pC;walk_at "k20"
 all_goals rfl
local macro_rules |`(tactic|walk_at "k21")=>`(tactic|first | assumption | omega | (simp only [cU, cT, cQ]; omega) | (simp (disch := omega) only [cL, dj, *]; done) | (simp (disch := omega) only [cL, dj, *]; rfl) | with_unfolding_all rfl)
local macro_rules |`(tactic|walk_at "k22")=>`(tactic|simp(disch:=walk_at "k21")only[el,ff,iH,fp,eM,fY,rl,oP,nX,jk,fS,iI,eZ,eF,nY,gz,gj,fG,qz,iJ,nh,uW,ky,ig,ma,lQ,eN,eO,fN,rd,jh,iT,eQ,vX,fC,fA,fe,gw,jQ,ij,HJ,jJ,gQ,jf,bA,bW,fill,fb,eY,fX,ki,Option.isSome,ft,gy, *,yB,BA,BB,wO,wx,vc,wQ,BC,BD,I2,yC,BE,I3,I4,wz,vZ,kc,jR,n4,jS,Nat.reduceBEq,vG,Ge,zQ,zR,G0,wA,nZ,oM,oN,Na,oR,oS,NP,vM,Ab,cL,AH,HM,HN,G1,BF,Iq,Ir,Iu,Iv,BG,Po,xE,sT,qA,uX,uY,yp,uZ,yq,A1,fld,put,lp,sV,LB,Pp,NX,G4,Gr,Gs,NY,G5,Gu,Gv,NZ,G6,Gw,Gx,N0,G9,Gy,Gz,Ha,Em,En,Eo])
theorem Xc(N:Ns)(nx k a b c:Nat)(d v w u r:Int)(h:Nat)(sg:Bool)(z:w=1∨w=2)(O:N.g a=da 8 d b (.tup [.int (.l w),.bool sg]) false)(B:a<nx)(hd:N.on.lookup d=some ())(hs:N.st.lookup d=none)
  (p:∀j,nx<=j->N.g j=.free) (S:N.ce.lookup ⟨(dc N v).1,(dc N v).2,w⟩=some c) (x:N.g c=.inst 3 [(16,vv u),(17,.str h)]) (y:h<1000) (q:(h==kA w sg)=false) (U:N.hd.lookup u=some r) (hr:N.on.lookup r=some ()) (I:N.st.lookup r=some u)
  (e:N.hd.lookup (N.n+1)=none) (t:N.ex.lookup (.wi sg (decide (w=2)) u)=none) (hf:N.fo.lookup (N.n+1)=none) (rm:cF N nx 30):
  ∃g o,bH mM (k+5) 35 [bP,.ref (.g a),vv v] ⟨hh N,nx⟩=some (.bool true,⟨hh ((((({N with ch:=true}.nn).mq (.wi sg (decide (w=2)) u) (N.n+1)).r8 (N.n+1) (Ek.wi sg (decide (w=2)) u).v).dst d (N.n+1)).wg g),o⟩)/\
   g a=da (mO sg (decide (w=2))) d nx (.int (.l 0)) false/\g nx=.list [rv r]/\(∀j,j<nx->j≠a->g j=N.g j)/\(∀j,o<=j->g j=.free)/\nx+3<=o/\o<=nx+20:=by
 have a1:=rm.nx;have W:=rm.st;have a3:=rm.hd;have a4:=rm.lg;have a5:=rm.ce;have a6:=rm.ex;have Y:=rm.fo;rw[E0];unfold uo;unfold kA at q;refine⟨fun j=>if j=nx+5 then .list [vv u]else if j=a then da (mO sg (decide (w=2))) d nx (.int (.l 0)) false else if j=nx then .list [rv r]else N.g j,nx+13,?_,by simp[show a≠nx+5 by omega],by simp[show nx≠nx+5 by omega,show nx≠a by omega],fun j J K=>by simp[show j≠nx+5 by omega,K,show j≠nx by omega],fun j J=>by simp[show j≠nx+5 by omega,show j≠a by omega,show j≠nx by omega,p j (by omega)],by omega,by omega⟩;rcases z with rfl|rfl<;>cases sg<;>simp only[jS,lL,fX,ki,Em,En,Eo]at q t⊢
 ·walk_at "k22";rw[UG _ _ _ _ u (by show(if _ then _ else _)=_;rw[df rfl]) (by exact t) (by exact hf) (by omega) (by show N.ex.length<bu;omega) (by show N.fo.length<bu;omega) (by show N.lg.length<bu;omega)];walk_at "k22";rw[Dj _ _ _ a 16 nx d _ (.int (.l 0)) false (by show(if a=_ then _ else if _ then _ else _)=_;rw[bL (by omega),df rfl]) (by exact hd) (by exact hs) (by exact e) (by omega) (by show N.st.length<bu;omega) (by show N.hd.length<bu;omega) (by show(N.lg++[_]).length<bu;rw[cU,sM];omega)];walk_at "k22"
  all_goals rfl
 ·walk_at "k22";rw[UD _ _ _ _ u (by show(if _ then _ else _)=_;rw[df rfl]) (by exact t) (by exact hf) (by omega) (by show N.ex.length<bu;omega) (by show N.fo.length<bu;omega) (by show N.lg.length<bu;omega)];walk_at "k22";rw[Dj _ _ _ a 14 nx d _ (.int (.l 0)) false (by show(if a=_ then _ else if _ then _ else _)=_;rw[bL (by omega),df rfl]) (by exact hd) (by exact hs) (by exact e) (by omega) (by show N.st.length<bu;omega) (by show N.hd.length<bu;omega) (by show(N.lg++[_]).length<bu;rw[cU,sM];omega)];walk_at "k22"
  all_goals rfl
 ·walk_at "k22";rw[UH _ _ _ _ u (by show(if _ then _ else _)=_;rw[df rfl]) (by exact t) (by exact hf) (by omega) (by show N.ex.length<bu;omega) (by show N.fo.length<bu;omega) (by show N.lg.length<bu;omega)];walk_at "k22";rw[Dj _ _ _ a 17 nx d _ (.int (.l 0)) false (by show(if a=_ then _ else if _ then _ else _)=_;rw[bL (by omega),df rfl]) (by exact hd) (by exact hs) (by exact e) (by omega) (by show N.st.length<bu;omega) (by show N.hd.length<bu;omega) (by show(N.lg++[_]).length<bu;rw[cU,sM];omega)];walk_at "k22"
  all_goals rfl
 ·walk_at "k22";rw[UE _ _ _ _ u (by show(if _ then _ else _)=_;rw[df rfl]) (by exact t) (by exact hf) (by omega) (by show N.ex.length<bu;omega) (by show N.fo.length<bu;omega) (by show N.lg.length<bu;omega)];walk_at "k22";rw[Dj _ _ _ a 15 nx d _ (.int (.l 0)) false (by show(if a=_ then _ else if _ then _ else _)=_;rw[bL (by omega),df rfl]) (by exact hd) (by exact hs) (by exact e) (by omega) (by show N.st.length<bu;omega) (by show N.hd.length<bu;omega) (by show(N.lg++[_]).length<bu;rw[cU,sM];omega)];walk_at "k22"
  all_goals rfl
theorem Lb(pr:List (Int×Unit))(k:Ck)(e:0<k.w):hH pr k k=true:=by unfold hH;rw[oJ rfl,fX,Int.sub_self];simp[e]
local macro_rules |`(tactic|walk_at "k23")=>`(tactic|simp(disch:=walk_at "k21")only[el,ff,iH,fp,eM,fY,nX,jk,fS,iI,eZ,eF,gz,gj,yo,fG,iJ,uW,ig,ma,lQ,eN,eO,fN,rd,iT,eQ,fC,fA,fe,gw,ij,jJ,gQ,jf,bA,bW,fill,fb,eY,fX,ki,Option.isSome,ft,gy, *,yB,wO,vc,yC,Pc,wz,vZ,Ip,jS,lL,nZ,oM,oN,oR,oS,HM,HN,G1,xE,sT,qA,fld,nK,Ha])
theorem VG(N:Ns)(nx k a b c:Nat)(d v u w:Int)(h:Nat)(j:N.g a=da 9 d b (.int (.l w)) false)(o:N.ce.lookup ⟨(dc N v).1,(dc N v).2,w⟩=some c)(e:N.g c=.inst 3 [(16,vv u),(17,.str h)]):
  bH mM (k+5) 38 [bP,.ref (.g a),vv v,vv u] ⟨hh N,nx⟩=some (.bool false,⟨hh N,nx⟩):=by
 rw[IZ];unfold vt;walk_at "k23"
theorem L8(N:Ns)(nx k a b f sl:Nat)(d v u w:Int)(firm:Bool)(F:mu N f sl)(hf:f<nx)(B:sl<nx)(O:0<w)(S:N.g a=da 9 d b (.int (.l w)) firm)(I:a<nx)(hp:ik (dc N v).1)(U:∀q∈N.ce,ik q.1.b)(W:(N.ce.map (·.1)).Nodup)(y:∀j,nx<=j->N.g j=.free)
  (Y:firm=true∨N.ce.lookup ⟨(dc N v).1,(dc N v).2,w⟩=none∨∃c z h,N.ce.lookup ⟨(dc N v).1,(dc N v).2,w⟩=some c/\N.g c=.inst 3 [(16,vv z),(17,.str h)]/\z≠u) (rm:cF N nx (2*N.ce.length+40)):
  ∃x t,I8 N nx (fun J=>hH N.pr J ⟨(dc N v).1,(dc N v).2,w⟩) x t/\bH mM (k+5) 38 [bP,.ref (.g a),vv v,vv u] ⟨hh N,nx⟩=some (.bool true,bif firm then⟨hh x,t⟩else⟨hh ((x.wg fun j=>if j=t then .inst 3 [(16,vv u),(17,.str 13)]else x.g j).vd ⟨(dc N v).1,(dc N v).2,w⟩ t),t+5⟩):=by
 have a1:=rm.nx;obtain⟨x,t,q,P⟩:=La N nx (k+1) f sl F hf B ⟨(dc N v).1,(dc N v).2,w⟩ hp U W y (rm.less (by omega) (by omega));have q:bH mM (k+4) 36 [bP,.tup [(dc N v).1.v,.int (.l (dc N v).2),.int (.l w)]] ⟨hh N,nx⟩=some (.none,⟨hh x,t⟩):=q;refine⟨x,t,P,?_⟩;have b1:=P.lo;have b2:=P.hi;have b3:=P.lg;have b4:=rm.lg;have b5:=rm.ce;have f1:x.g t=.free:=P.free t (ez _);have g1:x.g a=da 9 d b (.int (.l w)) firm:=by rw[P.old a I,S]
 have c1:x.ce.lookup ⟨(dc N v).1,(dc N v).2,w⟩=none:=by obtain⟨e,lg,g,rfl⟩:=P.eq;rw[List.lookup_eq_none_iff];intro p Z;have:=(vT.mp Z).2;cases K:(({b:=(dc N v).1,o:=(dc N v).2,w:=w}:Ck)==p.1)with|false=>unfold bne;rw[K];rfl|true=>rw[←dM.mp K,Lb _ _ O]at this;cases this
 have c2:x.ce.length<=N.ce.length:=by obtain⟨e,lg,g,rfl⟩:=P.eq;exact qU _ _
 cases firm with
 |true=>rw[IZ];unfold vt;cases hk:N.ce.lookup ⟨(dc N v).1,(dc N v).2,w⟩<;>walk_at "k23"
 |false=>
  rw[IZ];unfold vt;rcases Y with h|h|⟨c,z,h,h1,h2,h3⟩
  ·cases h
  ·walk_at "k23"
   all_goals rfl
  ·have h4:decide (z=u)=false:=m9 h3;walk_at "k23"
   all_goals rfl
local macro_rules |`(tactic|walk_at "k24")=>`(tactic|simp(disch:=walk_at "k21")only[el,ff,iH,fp,eM,fS,iI,eZ,eF,nY,gj,fG,ig,eN,eO,jh,iT,eQ,fC,fA,fe,gw,ij,jJ,jf,bA, *,m45,jV,kc,jR,Nat.reduceBEq,wU,pu8,I7])
section
variable{N N':Ns}{fnds:List Op}
theorem RQ{x v w:Int}{sg:Bool}(T:Tks N (bR [.r x]) N' [vv v] (bR fnds))(nx k a b:Nat)(d:Int)(z:a<nx)(t:b<nx)(B:b≠a)(p:∀j,nx<=j->N.g j=.free)(rm:cF N nx 200)(I:∀y,y<=nx+30->cF N' y 100)(Y:N.g a=da 8 d b (.tup [.int (.l w),.bool sg]) true)(Z:N.g b=.list (bR [.r x]))
  (hd:N'.on.lookup d=some ()) (hs:N'.st.lookup d=none) (hv:N'.hd.lookup (N'.n+1)=none):
  ∃N3 cH,bH mM (k+6) 39 [bP,.ref (.g a)] ⟨hh N,nx⟩=some (.bool true,⟨hh N3,cH⟩)/\kY N ((N'.nn).dst d (N'.n+1)) nx a b d true 8 fnds N3 cH:=by
 obtain⟨N2,o,K,P,e⟩:=oI T nx k a b 8 d _ true (by omega) rfl Y Z z t B (by simp) p (rm.less (by omega) (by omega));obtain⟨⟨ch,g,rfl⟩,J,O,p3,S,U,p6,p7,p8,p9⟩:=P;have W:=I o (by omega);have rn:cF ({N' with ch:=ch,g:=g}:Ns) o 100:=(fun r:cF N' o 100=>⟨r.nx,r.st,r.ce,r.pl,r.fo,r.ex,r.hd,r.lg⟩) W;have a1:=W.nx;have q:=VD {N' with ch:=ch,g:=g} o k a K d v w sg J hd hs hv (rn.less (by omega) (by omega));dsimp only at J O p3 S U;refine⟨(({N' with ch:=ch,g:=g}:Ns).nn).dst d (N'.n+1),o+4,?_,⟨ch,g,rfl⟩,⟨K,_,J,O,by omega,p9⟩,S,fun j h=>U j (by omega),by omega,by omega⟩;rw[e];unfold m6;walk_at "k24"
theorem RS{x v w:Int}{sg:Bool}(T:Tks N (bR [.r x]) N' [vv v] (bR fnds))(nx k a b:Nat)(d:Int)(B:a<nx)(t:b<nx)(I:b≠a)(p:∀j,nx<=j->N.g j=.free)(rm:cF N nx 200)(J:∀y,y<=nx+30->cF N' y 100)(hg:N.g a=da 8 d b (.tup [.int (.l w),.bool sg]) false)(hb:N.g b=.list (bR [.r x]))(hw:w=4∨w=1∨w=2)
  (hd:N'.on.lookup d=some ()) (hs:N'.st.lookup d=none) (hv:N'.hd.lookup (N'.n+1)=none) (hc:N'.ce.lookup ⟨(dc N' v).1,(dc N' v).2,w⟩=none):
  ∃N3 cH c,bH mM (k+6) 39 [bP,.ref (.g a)] ⟨hh N,nx⟩=some (.bool true,⟨hh N3,cH⟩)/\kY N (((N'.nn).vd ⟨(dc N' v).1,(dc N' v).2,w⟩ c).dst d (N'.n+1)) nx a b d false 8 fnds N3 cH/\
   N3.g c=.inst 3 [(16,vv (N'.n+1)),(17,.str (kA w sg))]/\c<cH/\nx<=c:=by
 obtain⟨N2,o,K,P,e⟩:=oI T nx k a b 8 d _ false (by omega) rfl hg hb B t I (by simp) p (rm.less (by omega) (by omega));obtain⟨⟨ch,g,rfl⟩,S,W,p3,Y,U,p6,p7,p8,p9⟩:=P;have Z:=J o (by omega);have rn:cF ({N' with ch:=ch,g:=g}:Ns) o 100:=(fun r:cF N' o 100=>⟨r.nx,r.st,r.ce,r.pl,r.fo,r.ex,r.hd,r.lg⟩) Z;have a1:=Z.nx;have q:=VE {N' with ch:=ch,g:=g} o k a K d v w sg hw S (by omega) hd hs hv U hc (rn.less (by omega) (by omega));dsimp only at S W p3 Y U
 let G:Nat->O:=fun j=>if j=o+1 then .inst 3 [(16,vv (N'.n+1)),(17,.str (kA w sg))]else g j
 have z:∀j,j≠o+1->G j=g j:=fun j h=>bL h
 refine⟨{((N'.nn).vd ⟨(dc N' v).1,(dc N' v).2,w⟩ (o+1)).dst d (N'.n+1)with ch:=ch,g:=G},o+9,o+1,?_,
  ⟨⟨ch,G,rfl⟩,⟨K,_,(z a (by omega)).trans S,(z K (by omega)).trans W,by omega,p9⟩,fun j h h2=>(z j (by omega)).trans (Y j h h2),fun j h=>(z j (by omega)).trans (U j (by omega)),by omega,by omega⟩,df rfl,by omega,by omega⟩
 ·rw[e];unfold m6;walk_at "k24"
  all_goals rfl
theorem RT{x v w u r:Int}{sg:Bool}(T:Tks N (bR [.r x]) N' [vv v] (bR fnds))(nx k a b:Nat)(d:Int)(I:a<nx)(y:b<nx)(J:b≠a)(p:∀j,nx<=j->N.g j=.free)(rm:cF N nx 200)(K:∀z,z<=nx+30->cF N' z 100)(hg:N.g a=da 8 d b (.tup [.int (.l w),.bool sg]) false)(hb:N.g b=.list (bR [.r x]))(hw:w=4∨w=1∨w=2)
  (hd:N'.on.lookup d=some ()) (hs:N'.st.lookup d=none) {c:Nat} (hc:N'.ce.lookup ⟨(dc N' v).1,(dc N' v).2,w⟩=some c) (S:c≠a) (U:c<nx) (t:N.g c=.inst 3 [(16,vv u),(17,.str (kA w sg))]) (hu:N'.hd.lookup u=some r) (hr:N'.on.lookup r=some ()) (W:N'.st.lookup r=some u):
  ∃N3 cH,bH mM (k+6) 39 [bP,.ref (.g a)] ⟨hh N,nx⟩=some (.bool true,⟨hh N3,cH⟩)/\kY N (N'.oT d u) nx a b d false 6 [.r r] N3 cH:=by
 obtain⟨N2,o,b2,P,e⟩:=oI T nx k a b 8 d _ false (by omega) rfl hg hb I y J (by simp) p (rm.less (by omega) (by omega));obtain⟨⟨ch,g,rfl⟩,p1,p2,p3,Y,Z,p6,p7,p8,p9⟩:=P;have r2:=K o (by omega);have rn:cF ({N' with ch:=ch,g:=g}:Ns) o 100:=(fun r:cF N' o 100=>⟨r.nx,r.st,r.ce,r.pl,r.fo,r.ex,r.hd,r.lg⟩) r2;have a1:=r2.nx;have q:=VF {N' with ch:=ch,g:=g} o k a b2 c d v w u r sg hw p1 (by omega) hd hs Z hc ((Y c U S).trans t) hu hr W (rn.less (by omega) (by omega));dsimp only at p1 p2 p3 Y Z
 let G:Nat->O:=fun j=>if j=a then da 6 d (o+1) (.int (.l 0)) false else if j=o+1 then .list [rv r]else g j
 have hG:∀j,j≠a->j≠o+1->G j=g j:=fun j h B=>(bL h).trans (bL B)
 refine⟨{N'.oT d u with ch:=true,g:=G},o+6,?_,
  ⟨⟨true,G,rfl⟩,⟨o+1,_,df rfl,(bL (by omega)).trans (df rfl),by omega,by omega,.inr (by omega)⟩,fun j h B=>(hG j B (by omega)).trans (Y j h B),fun j h=>(hG j (by omega) (by omega)).trans (Z j (by omega)),by omega,by omega⟩⟩
 ·rw[e];unfold m6;walk_at "k24"
  all_goals rfl
theorem R9{x v w u r:Int}{sg:Bool}{h:Nat}(T:Tks N (bR [.r x]) N' [vv v] (bR fnds))(nx k a b:Nat)(d:Int)(I:a<nx)(y:b<nx)(J:b≠a)(p:∀j,nx<=j->N.g j=.free)(rm:cF N nx 200)(K:∀z,z<=nx+30->cF N' z 100)(hg:N.g a=da 8 d b (.tup [.int (.l w),.bool sg]) false)(hb:N.g b=.list (bR [.r x]))(hw:w=1∨w=2)
  (hd:N'.on.lookup d=some ()) (hs:N'.st.lookup d=none) {c:Nat} (hc:N'.ce.lookup ⟨(dc N' v).1,(dc N' v).2,w⟩=some c) (O:c≠a) (S:c<nx) (t:N.g c=.inst 3 [(16,vv u),(17,.str h)]) (B:h<1000) (U:(h==kA w sg)=false) (hu:N'.hd.lookup u=some r) (hr:N'.on.lookup r=some ()) (W:N'.st.lookup r=some u)
  (Y:N'.hd.lookup (N'.n+1)=none) (he:N'.ex.lookup (.wi sg (decide (w=2)) u)=none) (hf:N'.fo.lookup (N'.n+1)=none):
  ∃N3 cH,bH mM (k+6) 39 [bP,.ref (.g a)] ⟨hh N,nx⟩=some (.bool true,⟨hh N3,cH⟩)/\kY N ((((N'.nn).mq (.wi sg (decide (w=2)) u) (N'.n+1)).r8 (N'.n+1) (Ek.wi sg (decide (w=2)) u).v).dst d (N'.n+1)) nx a b d false (mO sg (decide (w=2))) [.r r] N3 cH:=by
 obtain⟨N2,o,b2,P,e⟩:=oI T nx k a b 8 d _ false (by omega) rfl hg hb I y J (by simp) p (rm.less (by omega) (by omega));obtain⟨⟨ch,g,rfl⟩,p1,p2,p3,Z,p5,p6,p7,p8,p9⟩:=P;have r2:=K o (by omega);have rn:cF ({N' with ch:=ch,g:=g}:Ns) o 100:=(fun r:cF N' o 100=>⟨r.nx,r.st,r.ce,r.pl,r.fo,r.ex,r.hd,r.lg⟩) r2;have a1:=r2.nx;obtain⟨G,aa,q,g1,g2,g3,g4,g5,g6⟩:=Xc {N' with ch:=ch,g:=g} o k a b2 c d v w u r h sg hw p1 (by omega) hd hs p5 hc ((Z c S O).trans t) B U hu hr W Y he hf (rn.less (by omega) (by omega));dsimp only at p1 p2 p3 Z p5;refine⟨{(((N'.nn).mq (.wi sg (decide (w=2)) u) (N'.n+1)).r8 (N'.n+1) (Ek.wi sg (decide (w=2)) u).v).dst d (N'.n+1)with ch:=true,g:=G},aa,?_,
  ⟨⟨true,G,rfl⟩,⟨o,_,g1,g2,by omega,by omega,.inr (by omega)⟩,fun j h h2=>(g3 j (by omega) h2).trans (Z j h h2),g4,by omega,by omega⟩⟩
 ·rw[e];unfold m6;walk_at "k24"
  all_goals rfl
end
theorem aa3:decide ((-1:Int)<0)=true:=rfl
abbrev Ns.fg(N:Ns)(j:Ck->Bool)(e:Nat)(lg:List V):Ns:={N with ce:=N.ce.filter (fun p=>!j p.1),mP:=e,lg:=lg}
local macro_rules |`(tactic|walk_at "k25")=>`(tactic|simp(disch:=walk_at "k21")only[el,ff,iH,fp,eM,nX,jk,fS,iI,eZ,eF,nY,gz,gj,fG,iJ,ig,eN,eO,fN,jh,iT,eQ,fC,fA,fe,gw,jQ,ij,jJ,wu,kT,jf,bA,bW,fX,ki,Option.isSome,ft, *,yC,Pc,m47,m48,jV,mL,kc,jR,Nat.reduceBEq,nZ,oM,oN,oR,oS,wU,pu9,aaW,aaX,I7,rV,rW,xE,sT,qA,fld,kz,aa3])
section
variable{N N':Ns}{fnds:List Op}
theorem RF{x y v u w:Int}{h:Nat}(T:Tks N (bR [.r x,.r y]) N' [vv v,vv u] (bR fnds))(nx k a b:Nat)(d:Int)(I:a<nx)(z:b<nx)(J:b≠a)(p:∀j,nx<=j->N.g j=.free)(rm:cF N nx 200)(K:∀B,B<=nx+30->cF N' B 100)(hg:N.g a=da 9 d b (.int (.l w)) false)(hb:N.g b=.list (bR [.r x,.r y]))
  {c:Nat} (hc:N'.ce.lookup ⟨(dc N' v).1,(dc N' v).2,w⟩=some c) (O:c≠a) (S:c<nx) (t:N.g c=.inst 3 [(16,vv u),(17,.str h)]):
  ∃N3 cH,bH mM (k+6) 39 [bP,.ref (.g a)] ⟨hh N,nx⟩=some (.bool false,⟨hh N3,cH⟩)/\kY N N' nx a b d false 9 fnds N3 cH:=by
 obtain⟨N2,o,Y,P,e⟩:=oI T nx k a b 9 d _ false (by omega) rfl hg hb I z J (by simp) p (rm.less (by omega) (by omega));obtain⟨⟨ch,g,rfl⟩,U,Z,p3,W,p5,p6,p7,p8,p9⟩:=P;have r2:=K o (by omega);have rn:cF ({N' with ch:=ch,g:=g}:Ns) o 100:=(fun r:cF N' o 100=>⟨r.nx,r.st,r.ce,r.pl,r.fo,r.ex,r.hd,r.lg⟩) r2;have a1:=r2.nx;have q:=VG {N' with ch:=ch,g:=g} o k a Y c d v u w h U hc ((W c S O).trans t);dsimp only at U Z p3 W p5;refine⟨{N' with ch:=ch,g:=g},o,?_,⟨⟨ch,g,rfl⟩,⟨Y,_,U,Z,by omega,p9⟩,W,p5,by omega,by omega⟩⟩
 ·rw[e];unfold m6;walk_at "k25"
  all_goals rfl
theorem RG{x y v u w:Int}(T:Tks N (bR [.r x,.r y]) N' [vv v,vv u] (bR fnds))(nx k a b:Nat)(d:Int)(O:a<nx)(z:b<nx)(S:b≠a)(p:∀j,nx<=j->N.g j=.free)(rm:cF N nx 200)(U:∀B,B<=nx+30->cF N' B 100){f sl:Nat}(F:mu N f sl)(hf:f<nx)(W:sl<nx)(I:N'.fn=N.fn)(Y:sl≠a)(ae:N'.ce.length<=5)(Z:∀q∈N'.ce,ik q.1.b)(hn:(N'.ce.map (·.1)).Nodup)(hw:0<w)(hg:N.g a=da 9 d b (.int (.l w)) true)(hb:N.g b=.list (bR [.r x,.r y]))(hp:ik (dc N' v).1)
  :
  ∃N3 cH e lg,bH mM (k+6) 39 [bP,.ref (.g a)] ⟨hh N,nx⟩=some (.bool true,⟨hh N3,cH⟩)/\lg.length<=N'.lg.length+N'.ce.length/\kY N (N'.fg (fun t=>hH N'.pr t ⟨(dc N' v).1,(dc N' v).2,w⟩) e lg) nx a b d true 9 fnds N3 cH:=by
 obtain⟨N2,o,b2,P,e⟩:=oI T nx k a b 9 d _ true (by omega) rfl hg hb O z S (by simp) p (rm.less (by omega) (by omega));obtain⟨⟨ch,g,rfl⟩,p1,p2,p3,K,p5,p6,p7,p8,p9⟩:=P;have r2:=U o (by omega);have rn:cF ({N' with ch:=ch,g:=g}:Ns) o 100:=(fun r:cF N' o 100=>⟨r.nx,r.st,r.ce,r.pl,r.fo,r.ex,r.hd,r.lg⟩) r2;have a1:=r2.nx;have aa:f≠a:=by rintro rfl;obtain⟨fs,h,_⟩:=F.inst;rw[hg]at h;cases h
 have F2:mu ({N' with ch:=ch,g:=g}:Ns) f sl:=⟨I.trans F.fn,by obtain⟨fs,h1,h2⟩:=F.inst;exact⟨fs,(K f hf aa).trans h1,h2⟩,(K sl W Y).trans F.pE⟩
 clear I;obtain⟨N4,ab,Q,q⟩:=L8 {N' with ch:=ch,g:=g} o k a b2 f sl d v u w true F2 (by omega) (by omega) hw p1 (by omega) hp Z hn p5 (.inl rfl) (rn.less (by show _+(2*N'.ce.length+40)<=_;omega) (by show 2*N'.ce.length+40<=_;omega));obtain⟨⟨e4,J,g4,rfl⟩,q2,q3,q4,q5,q6⟩:=Q;dsimp only at p1 p2 p3 K p5 q2 q3 q4 q6;simp only[fX,ki]at q;refine⟨{N'.fg (fun t=>hH N'.pr t ⟨(dc N' v).1,(dc N' v).2,w⟩) e4 J with ch:=ch,g:=g4},ab,e4,J,?_,q2,⟨⟨ch,g4,rfl⟩,⟨b2,_,(q3 a (by omega)).trans p1,(q3 b2 (by omega)).trans p2,by omega,p9⟩,fun j h h2=>(q3 j (by omega)).trans (K j h h2),q4,by omega,by omega⟩⟩
 ·rw[e];unfold m6;walk_at "k25"
  all_goals rfl
theorem Rx{x y v u w:Int}(T:Tks N (bR [.r x,.r y]) N' [vv v,vv u] (bR fnds))(nx k a b:Nat)(d:Int)(aa:a<nx)(B:b<nx)(ab:b≠a)(t:∀j,nx<=j->N.g j=.free)(rm:cF N nx 200)(ae:∀I,I<=nx+30->cF N' I 100){f sl:Nat}(F:mu N f sl)(hf:f<nx)(af:sl<nx)(J:N'.fn=N.fn)(ag:sl≠a)(aj:N'.ce.length<=5)(ah:∀q∈N'.ce,ik q.1.b)(hn:(N'.ce.map (·.1)).Nodup)(hw:0<w)(hg:N.g a=da 9 d b (.int (.l w)) false)(hb:N.g b=.list (bR [.r x,.r y]))(hp:ik (dc N' v).1)
  (hc:N'.ce.lookup ⟨(dc N' v).1,(dc N' v).2,w⟩=none∨∃c W h,N'.ce.lookup ⟨(dc N' v).1,(dc N' v).2,w⟩=some c/\c≠a/\c<nx/\N.g c=.inst 3 [(16,vv W),(17,.str h)]/\W≠u):
  ∃N3 cH e lg c,bH mM (k+6) 39 [bP,.ref (.g a)] ⟨hh N,nx⟩=some (.bool true,⟨hh N3,cH⟩)/\lg.length<=N'.lg.length+N'.ce.length/\kY N ((N'.fg (fun z=>hH N'.pr z ⟨(dc N' v).1,(dc N' v).2,w⟩) e lg).vd ⟨(dc N' v).1,(dc N' v).2,w⟩ c) nx a b d false 9 fnds N3 cH/\N3.g c=.inst 3 [(16,vv u),(17,.str 13)]/\c<cH/\nx<=c:=by
 obtain⟨N2,p,Y,P,e⟩:=oI T nx k a b 9 d _ false (by omega) rfl hg hb aa B ab (by simp) t (rm.less (by omega) (by omega));obtain⟨⟨ch,g,rfl⟩,p1,p2,p3,K,p5,p6,p7,p8,p9⟩:=P;have r2:=ae p (by omega);have rn:cF ({N' with ch:=ch,g:=g}:Ns) p 100:=(fun r:cF N' p 100=>⟨r.nx,r.st,r.ce,r.pl,r.fo,r.ex,r.hd,r.lg⟩) r2;have a1:=r2.nx;have ai:f≠a:=by rintro rfl;obtain⟨fs,h,_⟩:=F.inst;rw[hg]at h;cases h
 have F2:mu ({N' with ch:=ch,g:=g}:Ns) f sl:=⟨J.trans F.fn,by obtain⟨fs,h1,S⟩:=F.inst;exact⟨fs,(K f hf ai).trans h1,S⟩,(K sl af ag).trans F.pE⟩
 clear J;obtain⟨N4,o,Q,q⟩:=L8 {N' with ch:=ch,g:=g} p k a Y f sl d v u w false F2 (by omega) (by omega) hw p1 (by omega) hp ah hn p5 (.inr (hc.imp id fun⟨c,W,h,h1,S,h3,h4,h5⟩=>⟨c,W,h,h1,(K c h3 S).trans h4,h5⟩)) (rn.less (by show _+(2*N'.ce.length+40)<=_;omega) (by show 2*N'.ce.length+40<=_;omega));obtain⟨⟨e4,U,g4,rfl⟩,q2,q3,q4,q5,q6⟩:=Q;dsimp only at p1 p2 p3 K p5 q2 q3 q4 q6;simp only[fX,ki]at q
 let G:Nat->O:=fun j=>if j=o then .inst 3 [(16,vv u),(17,.str 13)]else g4 j
 have Z:∀j,j≠o->G j=g4 j:=fun j h=>bL h
 refine⟨{(N'.fg (fun z=>hH N'.pr z ⟨(dc N' v).1,(dc N' v).2,w⟩) e4 U).vd ⟨(dc N' v).1,(dc N' v).2,w⟩ o with ch:=ch,g:=G},o+5,e4,U,o,?_,q2,⟨⟨ch,G,rfl⟩,⟨Y,_,(Z a (by omega)).trans ((q3 a (by omega)).trans p1),(Z Y (by omega)).trans ((q3 Y (by omega)).trans p2),by omega,p9⟩,fun j h S=>(Z j (by omega)).trans ((q3 j (by omega)).trans (K j h S)),fun j h=>(Z j (by omega)).trans (q4 j (by omega)),by omega,by omega⟩,df rfl,by omega,by omega⟩
 ·rw[e];unfold m6;walk_at "k25"
  all_goals rfl
theorem VH{x y v u w z:Int}(T:Tks N (bR [.r x,.r y]) N' [vv v,vv u] (bR fnds))(nx k a b:Nat)(d:Int)(U:a<nx)(B:b<nx)(W:b≠a)(p:∀j,nx<=j->N.g j=.free)(rm:cF N nx 200)(Y:∀I,I<=nx+30->cF N' I 100)(firm:Bool){f sl:Nat}(F:mu N f sl)(hf:f<nx)(Z:sl<nx)(J:N'.fn=N.fn)(aa:sl≠a)(af:N'.ce.length<=5)(ab:∀q∈N'.ce,ik q.1.b)(hn:(N'.ce.map (·.1)).Nodup)(hg:N.g a=da 10 d b (.tup [.int (.l w),.int (.l z)]) firm)(hb:N.g b=.list (bR [.r x,.r y]))(hp:ik (dc N' v).1):
  ∃N3 cH e lg,bH mM (k+6) 39 [bP,.ref (.g a)] ⟨hh N,nx⟩=some (.bool true,⟨hh N3,cH⟩)/\lg.length<=N'.lg.length+N'.ce.length/\kY N (N'.fg (fun t=>hH N'.pr t ⟨(dc N' v).1,(dc N' v).2,w⟩) e lg) nx a b d firm 10 fnds N3 cH:=by
 obtain⟨N2,o,b2,P,e⟩:=oI T nx k a b 10 d _ firm (by omega) rfl hg hb U B W (by simp) p (rm.less (by omega) (by omega));obtain⟨⟨ch,g,rfl⟩,p1,p2,p3,S,p5,p6,p7,p8,p9⟩:=P;have r2:=Y o (by omega);have rn:cF ({N' with ch:=ch,g:=g}:Ns) o 100:=(fun r:cF N' o 100=>⟨r.nx,r.st,r.ce,r.pl,r.fo,r.ex,r.hd,r.lg⟩) r2;have a1:=r2.nx;have ae:f≠a:=by rintro rfl;obtain⟨fs,h,_⟩:=F.inst;rw[hg]at h;cases h
 have F2:mu ({N' with ch:=ch,g:=g}:Ns) f sl:=⟨J.trans F.fn,by obtain⟨fs,h1,h2⟩:=F.inst;exact⟨fs,(S f hf ae).trans h1,h2⟩,(S sl Z aa).trans F.pE⟩
 clear J;obtain⟨N4,K,q,Q⟩:=La {N' with ch:=ch,g:=g} o (k+2) f sl F2 (by omega) (by omega) ⟨(dc N' v).1,(dc N' v).2,w⟩ hp ab hn p5 (rn.less (by show _+(2*N'.ce.length+20)<=_;omega) (by show 2*N'.ce.length+20<=_;omega));have q:bH mM (k+5) 36 [bP,.tup [(dc {N' with ch:=ch,g:=g} v).1.v,.int (.l (dc {N' with ch:=ch,g:=g} v).2),.int (.l w)]] ⟨hh {N' with ch:=ch,g:=g},o⟩=some (.none,⟨hh N4,K⟩):=q;obtain⟨⟨e4,O,g4,rfl⟩,q2,q3,q4,q5,q6⟩:=Q;dsimp only at p1 p2 p3 S p5 q2 q3 q4 q6;refine⟨{N'.fg (fun t=>hH N'.pr t ⟨(dc N' v).1,(dc N' v).2,w⟩) e4 O with ch:=ch,g:=g4},K,e4,O,?_,q2,⟨⟨ch,g4,rfl⟩,⟨b2,_,(q3 a (by omega)).trans p1,(q3 b2 (by omega)).trans p2,by omega,p9⟩,fun j h h2=>(q3 j (by omega)).trans (S j h h2),q4,by omega,by omega⟩⟩
 ·rw[e];unfold m6;walk_at "k25"
  all_goals rfl
theorem VI{x v:Int}(T:Tks N (bR [.r x]) N' [vv v] (bR fnds))(nx k a b:Nat)(K:a<nx)(y:b<nx)(O:b≠a)(t:∀j,nx<=j->N.g j=.free)(rm:cF N nx 200)(S:∀z,z<=nx+30->cF N' z 100)(firm:Bool){f sl:Nat}(F:mu N f sl)(hf:f<nx)(U:sl<nx)(B:N'.fn=N.fn)(W:sl≠a)(ae:N'.ce.length<=5)(Y:∀q∈N'.ce,ik q.1.b)(hn:(N'.ce.map (·.1)).Nodup)(hg:N.g a=da 25 (-1) b (.str 26) firm)(hb:N.g b=.list (bR [.r x])):
  ∃N3 cH e lg,bH mM (k+6) 39 [bP,.ref (.g a)] ⟨hh N,nx⟩=some (.bool true,⟨hh N3,cH⟩)/\lg.length<=N'.lg.length+N'.ce.length/\kY N (N'.fg (fun o=>!(kz N'.pr o.b&&jK o)) e lg) nx a b (-1) firm 25 fnds N3 cH:=by
 obtain⟨N2,p,Z,P,e⟩:=oI T nx k a b 25 (-1) _ firm (by omega) rfl hg hb K y O (by simp) t (rm.less (by omega) (by omega));obtain⟨⟨ch,g,rfl⟩,p1,p2,p3,J,p5,p6,p7,p8,p9⟩:=P;have r2:=S p (by omega);have rn:cF ({N' with ch:=ch,g:=g}:Ns) p 100:=(fun r:cF N' p 100=>⟨r.nx,r.st,r.ce,r.pl,r.fo,r.ex,r.hd,r.lg⟩) r2;have a1:=r2.nx;have aa:f≠a:=by rintro rfl;obtain⟨fs,h,_⟩:=F.inst;rw[hg]at h;cases h
 have F2:mu ({N' with ch:=ch,g:=g}:Ns) f sl:=⟨B.trans F.fn,by obtain⟨fs,h1,h2⟩:=F.inst;exact⟨fs,(J f hf aa).trans h1,h2⟩,(J sl U W).trans F.pE⟩
 clear B;obtain⟨N4,ab,q,Q⟩:=VC {N' with ch:=ch,g:=g} p (k+2) f sl F2 (by omega) (by omega) Y hn p5 (rn.less (by show _+(2*N'.ce.length+20)<=_;omega) (by show 2*N'.ce.length+20<=_;omega));obtain⟨⟨e4,I,g4,rfl⟩,q2,q3,q4,q5,q6⟩:=Q;dsimp only at p1 p2 p3 J p5 q2 q3 q4 q6;have g1:g4 a=da 25 (-1) Z (.str 26) firm:=(q3 a (by omega)).trans p1;refine⟨{N'.fg (fun o=>!(kz N'.pr o.b&&jK o)) e4 I with ch:=ch,g:=g4},ab,e4,I,?_,q2,⟨⟨ch,g4,rfl⟩,⟨Z,_,g1,(q3 Z (by omega)).trans p2,by omega,p9⟩,fun j h h2=>(q3 j (by omega)).trans (J j h h2),q4,by omega,by omega⟩⟩
 ·rw[e];unfold m6;walk_at "k25"
  all_goals rfl
end
theorem I9(N:Ns)(n p:Nat)(l:List V)(h:N.g p=.list l):builtin mM 0 [.ref (.g p)] ⟨hh N,n⟩=some (.int (.l l.length),⟨hh N,n⟩):=by
 show(match mM.get (hh N) (.g p)with|.list l=>some (V.int (.l l.length),_)|_=>.none)=_
 rw[gg,h]
local macro_rules |`(tactic|walk_at "k26")=>`(tactic|simp(disch:=walk_at "k21")only[el,ff,fp,eM,rl,jk,fS,eZ,eF,gz,fG,ky,ig,eN,eO,eQ,fC,fA,fe,jQ,sS,bA,bW,fb,eY,fX,ft,gy, *,wx,Pe,n4,jS,Hn,I5,qA,uX,uY,fld,put,lp,I9])
def cu(a:Nat):V:=.ref (.g a)
def xP:List S:=[.if (.me (.l 0) 49 [.l 3]) [.ex (.me (.l 2) 0 [.l 3])] []]
inductive BL(k K S:Nat):List Nat->Ns->Nat->List Nat->Ns->Nat->List Nat->Prop
 |nil (N:Ns) (nx:Nat) (ks:List Nat):BL k K S [] N nx ks N nx ks
 |keep {a:Nat} {as ks BH:List Nat} {N N1 N':Ns} {nx yE mv:Nat}:bH mM (k+6) 39 [bP,.ref (.g a)] ⟨hh N,nx⟩=some (.bool true,⟨hh N1,yE⟩)->N1.g K=.list (ks.map cu)->yE<bu->N1.g S=N.g S->K≠S->
   BL k K S as (N1.wg fun j=>if j=K then .list ((ks++[a]).map cu)else N1.g j) (yE+1) (ks++[a]) N' mv BH->BL k K S (a::as) N nx ks N' mv BH
 |drop {a:Nat} {as ks BH:List Nat} {N N1 N':Ns} {nx yE mv:Nat}:bH mM (k+6) 39 [bP,.ref (.g a)] ⟨hh N,nx⟩=some (.bool false,⟨hh N1,yE⟩)->N1.g S=N.g S->N1.g K=N.g K->
   BL k K S as N1 yE ks N' mv BH->BL k K S (a::as) N nx ks N' mv BH
theorem Xd{k K S:Nat}{bl:V}{As:List V}:∀{as ks p:List Nat}{N N':Ns}{nx o:Nat}(_:BL k K S as N nx ks N' o p)(dV:List V)(x y z:V),N.g S=.list As->As=dV++as.map cu->ks.length+as.length<100->
  ∃W,N'.g S=.list As/\eU mM (.li (.g S)) (dE mM (.nm 3) (cy mM (bH mM (k+6)) xP)) (as.length+1) dV.length [bP,bl,.ref (.g K),x,y,z] ⟨hh N,nx⟩=some ((.nx,[bP,bl,.ref (.g K),W,y,z]),⟨hh N',o⟩):=by
 intro as ks p N N' nx o B;have af:(100:Nat)<bu:=by decide
 induction B with
 |nil N nx ks=>
  intro dV x y z t I _;have aa:As=dV:=by rw[I];simp
  refine⟨x,t,?_⟩;show eU mM _ _ (0+1) _ _ _=_
  simp only[eU];rw[vN _ S _ _ (show mM.get (hh N) (.g S)=.list As from t),aa,Di]
 |@keep a as ks p N Y N' nx J o q hK hn O ab B Z=>
  intro dV x y z t I hl;simp only[cT]at hl;obtain⟨W,h1,U⟩:=Z (dV++[cu a]) (cu a) y z (by show(if S=K then _ else Y.g S)=_;rw[bL (kQ ab),O,t]) (by rw[I];simp) (by simp;omega);refine⟨W,h1,?_⟩;show eU mM _ _ (as.length+1+1) _ _ _=_
  rw[eU,vN _ S _ _ (show mM.get (hh N) (.g S)=.list As from t),show bA As dV.length=some (cu a) by rw[I];exact zS dV (cu a) _];have e:dE mM (.nm 3) (cy mM (bH mM (k+6)) xP) (cu a) [bP,bl,.ref (.g K),x,y,z] ⟨hh N,nx⟩=some ((.nx,[bP,bl,.ref (.g K),cu a,y,z]),⟨hh (Y.wg fun j=>if j=K then .list ((ks++[a]).map cu)else Y.g j),J+1⟩):=by
   have ae:(ks.map cu).length<bu:=by simp;omega
   unfold dE fV xP cu;unfold cu at hK ae;simp only[bW,lJ,gf,m8];clear h1 U Z B;walk_at "k26"
   try rfl
  simp only[e];rw[cU]at U;exact U
 |@drop a as ks p N Y N' nx J o q O ag B Z=>
  intro dV x y z t I hl;simp only[cT]at hl;obtain⟨W,h1,U⟩:=Z (dV++[cu a]) (cu a) y z (by rw[O,t]) (by rw[I];simp) (by omega);refine⟨W,h1,?_⟩;show eU mM _ _ (as.length+1+1) _ _ _=_
  rw[eU,vN _ S _ _ (show mM.get (hh N) (.g S)=.list As from t),show bA As dV.length=some (cu a) by rw[I];exact zS dV (cu a) _];have e:dE mM (.nm 3) (cy mM (bH mM (k+6)) xP) (cu a) [bP,bl,.ref (.g K),x,y,z] ⟨hh N,nx⟩=some ((.nx,[bP,bl,.ref (.g K),cu a,y,z]),⟨hh Y,J⟩):=by
   unfold dE fV xP cu;simp only[bW];clear h1 U Z B;walk_at "k26"
   try rfl
  simp only[e];rw[cU]at U;exact U
theorem aa4{k K S:Nat}{as ks e:List Nat}{N N':Ns}{nx j:Nat}(B:BL k K S as N nx ks N' j e):N.g K=.list (ks.map cu)->N'.g K=.list (e.map cu):=by
 induction B with|nil=>exact id|keep q y z o x B p=>exact fun _=>p (df rfl)|drop q o t B p=>exact fun h=>p (t.trans h)
theorem MC{k K S:Nat}{as ks j:List Nat}{N N':Ns}{nx o:Nat}(B:BL k K S as N nx ks N' o j):∃sub,j=ks++sub/\sub.Sublist as:=by
 induction B with|nil=>exact⟨[],by simp,.slnil⟩|@keep a as _ _ _ _ _ _ _ _ q z I p x B t=>obtain⟨sub,e,h⟩:=t;exact⟨a::sub,by rw[e];simp,.cons_cons _ h⟩|drop q p y B t=>obtain⟨sub,e,h⟩:=t;exact⟨sub,e,.cons _ h⟩
abbrev mQ(num:V)(S E:Nat):O:=.inst 1 [(6,num),(7,.ref (.g S)),(8,.ref (.g E))]
theorem Iy:mM.P.eE 1 7=true:=rfl
theorem aa5(a b c:Nat×V):Nat.blt [a,b,c].length 1000=true:=rfl
theorem aa6(k:Nat)(as:List V)(h:Hp)(n:Nat):bH mM (k+1) 40 as ⟨h,n⟩=enter mM (bH mM k) ⟨2,6,[.as 2 (.li .none []),.fo (.nm 3) (.ex (.at (.l 1) 7)) xP,.if (.cm .ne (.cb 0 [.l 2]) (.cb 0 [.at (.l 1) 7])) [.aa (.l 1) 7 (.l 2),.aa (.l 0) 31 (.c (.bool true))] [],
 .tp [.nm 4,.nm 5] (.me (.l 0) 40 [.at (.at (.l 1) 8) 2]),
 .if (.cm .ne (.l 5) (.at (.at (.l 1) 8) 2)) [.aa (.at (.l 1) 8) 2 (.l 5),.aa (.l 0) 31 (.c (.bool true))] []]⟩ as ⟨h,n⟩:=rfl
local macro_rules |`(tactic|walk_at "k27")=>`(tactic|simp(disch:=walk_at "k21")only[el,ff,fp,eM,rl,jk,fS,eZ,eF,gz,fG,ky,ig,eN,eO,eQ,fC,fA,fe,jQ,sS,bA,bW,fb,eY,fX,ft,gy, *,wx,Pe,n4,jS,Hn,I5,qA,uX,uY,fld,put,lp,I9,Iy,aa5])
theorem Xe{N:Ns}{bl S E K nx k:Nat}{num x y z:V}{As ks:List Nat}(B:N.g bl=mQ num S E)(J:N.g S=.list (As.map cu))(O:N.g K=.list (ks.map cu))(U:S≠bl)(I:K≠bl)(W:nx+5<bu)(p:ks.length=As.length->ks=As):
  ∃ch g o t,eJ mM (bH mM k) (.if (.cm .ne (.cb 0 [.l 2]) (.cb 0 [.at (.l 1) 7])) [.aa (.l 1) 7 (.l 2),.aa (.l 0) 31 (.c (.bool true))] []) [bP,.ref (.g bl),.ref (.g K),x,y,z] ⟨hh N,nx⟩=some ((.nx,[bP,.ref (.g bl),.ref (.g K),x,y,z]),⟨hh {N with ch:=ch,g:=g},o⟩)/\
   g bl=mQ num t E/\g t=.list (ks.map cu)/\(∀j,j≠bl->g j=N.g j)/\(t=S∨t=K)/\nx<=o/\o<=nx+2:=by
 by_cases h:ks.length=As.length
 ·have:=p h;subst this;refine⟨N.ch,N.g,nx,S,?_,B,J,fun _ _=>rfl,.inl rfl,ez _,by omega⟩;have e:decide (((ks.map cu).length:Int)=((ks.map cu).length:Int))=true:=oJ rfl;walk_at "k27"
 ·have e:decide (((ks.map cu).length:Int)=((As.map cu).length:Int))=false:=by
   rw[decide_eq_false_iff_not,oK,oK];intro q;exact h (by omega)
  refine⟨true,fun j=>if j=bl then mQ num K E else N.g j,nx+2,K,?_,df rfl,(bL I).trans O,fun j h=>bL h,.inr rfl,by omega,by omega⟩;walk_at "k27"
local macro_rules |`(tactic|walk_at "k28")=>`(tactic|simp(disch:=walk_at "k21")only[el,ff,fp,eM,fY,rl,nX,fS,eZ,eF,gz,fG,nh,ig,eN,eO,eQ,fC,fA,fe,jQ,sS,gQ,bA,bW,fill,fb,eY,fX,ft,gy, *,wx,Pb,wA,nZ,oM,oN,oR,oS,cL,qA,uX,uY,uZ,A1,fld,put,lp])
def A7(N:Ns):Prop:=N.on.lookup 1=some ()/\((∃v h,N.st.lookup 1=some v/\N.hd.lookup v=some h/\N.on.lookup h=some ()/\N.st.lookup h=some v)∨(N.st.lookup 1=none/\N.hd.lookup (N.n+1)=none))
theorem A7.tks{N:Ns}(h:A7 N):∃N3 v fnds,Tks N (bR [.r 1]) N3 [vv v] (bR [.r fnds]):=by
 obtain⟨ho,⟨v,h,e,j,o,p⟩|⟨e,j⟩⟩:=h
 ·exact⟨N,v,h,.cons (.known 1 v h ho e j o p) (.nil _)⟩
 ·exact⟨_,_,1,.cons (.new 1 ho e j) (.nil _)⟩
theorem Xf{N:Ns}{bl S E be nx k:Nat}{num kr y z:V}{op:Nat}{d:Int}{more_q:V}(I:N.g bl=mQ num S E)(Y:N.g E=da op d be more_q false)(t:N.g be=.list (bR [.r 1]))(J:bl<nx)(K:E<nx)(e:be<nx)(o:∀j,nx<=j->N.g j=.free)(rm:cF N nx 100)(Z:A7 N):
  ∃l' N3 cH,cy mM (bH mM (k+6)) [.tp [.nm 4,.nm 5] (.me (.l 0) 40 [.at (.at (.l 1) 8) 2]),.if (.cm .ne (.l 5) (.at (.at (.l 1) 8) 2)) [.aa (.at (.l 1) 8) 2 (.l 5),.aa (.l 0) 31 (.c (.bool true))] []] [bP,.ref (.g bl),kr,y,z,.no] ⟨hh N,nx⟩=some ((.nx,l'),⟨hh N3,cH⟩)/\
   (∀j,j<nx->j≠E->N3.g j=N.g j)/\(∀j,cH<=j->N3.g j=.free)/\nx<=cH/\cH<=nx+20:=by
 obtain⟨N',v,fj,T⟩:=Z.tks;have a1:=rm.nx;obtain⟨p,x,e1,e2,e3,B,U,e6,e7⟩:=Lx T nx (k+2) be t e (by simp[bR]) o (rm.less (by simp[bR]) (by simp[bR]));simp only[bR,oK,cT,cQ]at e7;have aa:p E=da op d be more_q false:=by rw[B E K,Y]
 have O:p be=.list (bR [.r 1]):=by rw[B be e,t]
 have W:p bl=mQ num S E:=by rw[B bl J,I]
 have q:=LD (N'.wg p) (nx+1) be [.r fj] [.r 1] e3 O
 by_cases hf:([.r fj]:List Op)=[.r 1]
 ·rw[oJ hf]at q;refine⟨[bP,.ref (.g bl),kr,y,.ref (.g nx),.ref (.g (nx+1))],N'.wg p,x,?_,fun j h _=>B j h,U,by omega,by omega⟩;walk_at "k28"
 ·rw[m9 hf]at q;refine⟨[bP,.ref (.g bl),kr,y,.ref (.g nx),.ref (.g (nx+1))],{N' with ch:=true,g:=fun j=>if j=E then da op d (nx+1) more_q false else p j},x+2,?_,fun j h h2=>(bL h2).trans (B j h),fun j h=>(bL (by omega)).trans (U j (by omega)),by omega,by omega⟩;walk_at "k28"
theorem Zx{N N':Ns}{bl S E be nx e k:Nat}{num:V}{op:Nat}{d:Int}{more_q:V}{As ks:List Nat}(O:N.g bl=mQ num S E)(hS:N.g S=.list (As.map cu))(ak:S<nx)(al:bl<nx)(aa:N.g nx=.free)(hn:nx+10<bu)(hA:As.length<90)
  (B:BL k nx S As (N.wg fun j=>if j=nx then .list []else N.g j) (nx+1) [] N' e ks) (o:N'.g bl=mQ num S E) (hE:N'.g E=da op d be more_q false) (U:N'.g be=.list (bR [.r 1])) (ai:nx<e) (am:E<e) (aj:be<e) (p:∀j,e<=j->N'.g j=.free) (rm:cF N' e 150) (h1:A7 N'):
  ∃M q S',bH mM (k+7) 40 [bP,.ref (.g bl)] ⟨hh N,nx⟩=some (.none,⟨hh M,q⟩)/\M.g bl=mQ num S' E/\M.g S'=.list (ks.map cu)/\S'<e/\(∀j,j<e->j≠bl->j≠E->M.g j=N'.g j)/\(∀j,q<=j->M.g j=.free)/\e<=q/\q<=e+30:=by
 obtain⟨x',W,e1⟩:=Xd B [] .no .no .no (bl:=.ref (.g bl)) (As:=As.map cu) ((bL (by omega)).trans hS) (by simp) (by simp;omega);have hK:=aa4 B (df rfl);obtain⟨sub,t,ab⟩:=MC B;rw[eY]at t;subst t;have ae:S≠bl:=by rintro rfl;rw[hS]at O;cases O
 have a1:=rm.nx;obtain⟨ch,g,I,K,e2,q1,q2,q3,q4,q5,q6⟩:=Xe (k:=k+6) (nx:=e) (num:=num) (x:=x') (y:=.no) (z:=.no) o W hK ae (show nx≠bl by omega) (by omega) (fun h=>ab.eq_of_length h);have J:E≠bl:=by rintro rfl;rw[hE]at o;cases o
 have af:be≠bl:=by rintro rfl;rw[U]at o;cases o
 have ag:cF ({N' with ch:=ch,g:=g}:Ns) I 100:=(fun r:cF N' I 100=>⟨r.nx,r.st,r.ce,r.pl,r.fo,r.ex,r.hd,r.lg⟩) (rm.less (by omega) (by omega));obtain⟨l',N3,cH,e3,Z,s2,s3,s4⟩:=Xf (N:={N' with ch:=ch,g:=g}) (bl:=bl) (S:=K) (E:=E) (be:=be) (nx:=I) (k:=k) (num:=num) (kr:=.ref (.g nx)) (y:=x') (z:=.no) (op:=op) (d:=d) (more_q:=more_q) q1 ((q3 E J).trans hE) ((q3 be af).trans U) (by omega) (by omega) (by omega) (fun j h=>(q3 j (by omega)).trans (p j (by omega))) ag h1;dsimp only at Z;have ah:K<e:=by rcases q4 with rfl|rfl<;>omega
 have Y:K≠E:=by rintro rfl;rw[q3 K J,hE]at q2;cases q2
 refine⟨N3,cH,K,?_,(Z bl (by omega) (kQ J)).trans q1,(Z K (by omega) Y).trans q2,ah,fun j h h2 h3=>(Z j (by omega) h3).trans (q3 j h2),s2,by omega,by omega⟩;rw[aa6];clear W hK;have an:nx<bu:=by omega
 walk_at "k28";rw[mK,rQ];walk_at "k28";have ea:mM.get (hh (N.wg fun j=>if j=nx then .list []else N.g j)) (.g S)=.list (As.map cu):=(bL (by omega)).trans hS;rw[cQ]at e1;rw[DX mM _ _ ea,el,AG mM _ ea,oK,e1,ff,eM,e2,ff,e3,oF]
section
variable(h:Hp)(n:Nat)
theorem q16:mM.get h (.s 16)=h.nb:=rfl
theorem Ja(o:O):mM.set h (.s 17) o={h with on:=o}:=rfl
theorem q18:mM.get h (.s 18)=h.mo:=rfl
theorem w18(o:O):mM.set h (.s 18) o={h with mo:=o}:=rfl
theorem E3:mM.get h (.s 19)=h.pr:=rfl
theorem Pq(o:O):mM.set h (.s 19) o={h with pr:=o}:=rfl
theorem Pr:mM.get h (.s 20)=h.ho:=rfl
theorem Pt(o:O):mM.set h (.s 20) o={h with ho:=o}:=rfl
theorem q1:mM.get h (.s 1)=h.t 1:=rfl
theorem q2:mM.get h (.s 2)=h.t 2:=rfl
theorem q3:mM.get h (.s 3)=h.t 3:=rfl
theorem q4:mM.get h (.s 4)=h.t 4:=rfl
theorem q5:mM.get h (.s 5)=h.t 5:=rfl
theorem q6:mM.get h (.s 6)=h.t 6:=rfl
theorem q7:mM.get h (.s 7)=h.t 7:=rfl
theorem qg(i:Nat):mM.get h (.g i)=h.g i:=rfl
theorem wg(i:Nat)(o:O):mM.set h (.g i) o={h with g:=fun j=>if j=i then o else h.g j}:=rfl
theorem iA(o:O)(hf:h.g n=.free)(e:n<bu):new mM .none o ⟨h,n⟩=some (.ref (.g n),⟨{h with g:=fun j=>if j=n then o else h.g j},n+1⟩):=by rw[Mu mM _ n o hf rfl e,wg]
theorem HP(k:Nat)(o:O)(hf:mM.get h (.s k)=.free)(hl:Nat.ble 16 k=true)(e:n<bu):new mM (some k) o ⟨h,n⟩=some (.ref (.s k),⟨mM.set h (.s k) o,n+1⟩):=rL mM h n k o hf rfl hl e
theorem oU(a:Ad)(f:Nat):kR mM (.ref a) f ⟨h,n⟩=match mM.get h a with
  |.inst _ fs=>iX (fld f fs) ⟨h,n⟩
  |_=>.none:=rfl
theorem sQ(a:Ad)(f:Nat)(v:V):qt mM (.ref a) f v ⟨h,n⟩=match mM.get h a with
  |.inst c fs=>bif mM.P.eE c f&&Nat.blt fs.length 1000 then upd mM a (.inst c (put f v fs)) ⟨h,n⟩else .none
  |_=>.none:=rfl
theorem yg(a:Ad):uE mM (.ref a) ⟨h,n⟩=uM (match mM.get h a with
  |.list _=>some (It.li a)
  |.dict es e=>some (.di a es.length e)
  |_=>.none) ⟨h,n⟩:=rfl
end
theorem Jb{α:Type}{f:α->V}(h:Hp)(a:Ad)(l:List (Int×α))(e:Nat)(r:Int)(hd:mM.get h a=.dict (g9 (fun i=>.int (.l i)) f l) e):dF mM h (.int (.l r)) (.ref a)=some (l.lookup r).isSome:=uK mM h hd (je jP f r l) (tA jP f r l)
theorem wB{α:Type}{f:α->V}(h:Hp)(n:Nat)(a:Ad)(l:List (Int×α))(e:Nat)(r:Int)(v:α)(hd:mM.get h a=.dict (g9 (fun i=>.int (.l i)) f l) e)(hr:l.lookup r=none)(hl:l.length<bu)(ha:a.live=true)(j:n<bu):
  nP mM (.ref a) (.int (.l r)) (f v) ⟨h,n⟩=some ((),⟨mM.set h a (.dict (g9 (fun i=>.int (.l i)) f (l++[(r,v)])) (e+1)),n+1⟩):=by
 rw[vK mM h n hd (je jP f r l) (by rw[len_tab jP];exact hl) (ux jP f r (f v) l hr) (by rw[cU];rfl),qu mM h n _ ha rfl j];unfold g9;rw[lJ];rfl
abbrev eK(l:List (Int×Unit)):List (V×V):=g9 (fun i=>V.int (.l i)) (fun _=>.bool true) l
local macro_rules |`(tactic|walk_at "k29")=>`(tactic|simp(disch:=walk_at "k21")only[el,ff,fp,eM,oP,fS,eZ,eF,gz,fG,fN,eQ,fC,fA,fe,gw,jQ,jJ,wu,bA,bW,fX,ki,Option.isSome,ft,gy, *,jS,lL,rV,rW,fld,Ja,qg,oU])
inductive Rk where
 |sl (i:Int)
 |na (s:Bool) (c:Int)
 |ad (x c:Int)
 |lo (x w:Int) (sg:Bool)
 |st (x y w:Int)
 |ca (x:Int)
 |mo (x y w:Int)
structure cq where
 k:Rk
 d:Int
 firm:Bool
def Rk.op:Rk->Nat
 |.sl _=>3
 |.na _ _=>4
 |.ad _ _=>5
 |.lo _ _ _=>8
 |.st _ _ _=>9
 |.ca _=>25
 |.mo _ _ _=>10
def Rk.args:Rk->List Op
 |.sl _=>[]
 |.na _ _=>[]
 |.ad x c=>[.r x,.k c]
 |.lo x _ _=>[.r x]
 |.st x y _=>[.r x,.r y]
 |.ca x=>[.r x]
 |.mo x y _=>[.r x,.r y]
def Rk.more_q:Rk->V
 |.sl i=>.int (.l i)
 |.na s c=>.tup [.str (mn s),.int (.l c)]
 |.ad _ _=>.int (.l 0)
 |.lo _ w sg=>.tup [.int (.l w),.bool sg]
 |.st _ _ w=>.int (.l w)
 |.ca _=>.str 26
 |.mo _ _ w=>.tup [.int (.l w),.int (.l 4)]
def qm(g:Nat->O)(a b:Nat)(r:cq):Prop:=g a=da r.k.op r.d b r.k.more_q r.firm/\g b=.list (bR r.k.args)
def kj(l:List (Int×Unit))(r:cq):List (Int×Unit):=bif decide (0<=r.d)then l++[(r.d,())]else l
def iL(e:List cq):List (Int×Unit):=e.foldl kj [(0,()),(1,()),(2,())]
def Ag:List S:=[.if (.cm .gk (.at (.l 5) 1) (.l 1)) [.ai (.l 2) (.at (.l 5) 1) (.c (.bool true))] [.if (.cm .ge (.at (.l 5) 1) (.c (.int (.l 0)))) [.ai (.l 1) (.at (.l 5) 1) (.c (.bool true))] []]]
theorem VJ(h:Hp)(n k a b:Nat)(r:cq)(l:List (Int×Unit))(e:Nat)(j o q p:V)(t:qm h.g a b r)(ho:h.on=.dict (eK l) e)(hr:l.lookup r.d=none)(hl:l.length<bu)(x:n<bu):
  dE mM (.nm 5) (cy mM (bH mM k) Ag) (cu a) [j,.ref (.s 17),.ref (.s 18),p,o,q] ⟨h,n⟩=some ((.nx,[j,.ref (.s 17),.ref (.s 18),p,o,cu a]),bif decide (0<=r.d)then⟨{h with on:=.dict (eK (l++[(r.d,())])) (e+1)},n+1⟩else⟨h,n⟩):=by
 obtain⟨z,B⟩:=t;unfold dE fV Ag cu;simp only[bW];have hi:=Jb h (.s 17) l e r.d ho;rw[hr]at hi;have hp:=wB h n (.s 17) l e r.d () ho hr hl rfl x;have hle:(!decide (r.d<0))=decide (0<=r.d):=by by_cases y:r.d<0<;>simp[y]<;>omega
 cases hd:decide (0<=r.d)with|true=>rw[hd]at hle;walk_at "k29"|false=>rw[hd]at hle;walk_at "k29"
theorem pF{α:Type}:∀(l:List α)(i:Nat),bA l i=l[i]?
 |[],i=>by simp[bA]
 |a::r,0=>rfl
 |a::r,i+1=>by simp[bA,pF r i]
theorem xF(e:V->L->St Hp->R Hp (Fl×L))(A:Ad)(fW:List V)(I:Nat->L->St Hp->Prop)(q:∀i l s,I i l s->mM.get s.h A=.list fW)
  (step:∀i v l s,bA fW i=some v->I i l s->∃j o,e v l s=some ((.nx,j),o)/\I (i+1) j o):∀(m i:Nat)(l:L)(s:St Hp),i+m=fW.length->I i l s->∃j o,eU mM (.li A) e (m+1) i l s=some ((.nx,j),o)/\I fW.length j o
 |0,i,l,s,x,p=>by
  have z:bA fW i=none:=by rw[pF,xU (by omega)]
  refine⟨l,s,?_,by rw[←x];exact p⟩;simp only[eU,hX,q i l s p,z]
 |m+1,i,l,s,x,p=>by
  have t:i<fW.length:=by omega
  have y:bA fW i=some fW[i]:=by rw[pF,qZ t]
  obtain⟨B,J,K,O⟩:=step i _ l s y p;obtain⟨S,U,W,Y⟩:=xF e A fW I q step m (i+1) B J (by omega) O;refine⟨S,U,?_,Y⟩;rw[eU];simp only[hX,q i l s p,y,K];exact W
local macro_rules |`(tactic|walk_at "k30")=>`(tactic|simp(disch:=walk_at "k21")only[el,ff,fp,eM,oP,nX,eZ,eF,gz,iJ,Ef,eN,eO,rQ,fN,eQ,fe,gQ,bA,bW,fill,fb,eY, *,nZ,oM,oN,oR,oS,fld,Ja,q18,w18,qg,HP,oU,yg])
abbrev t7(Pm e Bk:Nat):O:=.inst 2 [(9,.str 28),(10,.ref (.g Pm)),(11,.bool false),(12,.ref (.g e)),(13,.ref (.g Bk)),(14,.int (.l 16)),(15,.bool true)]
structure FnAt(g:Nat->O)(F Pm Sl Bk bl S E:Nat)(As:List Nat):Prop where
 fn:g F=t7 Pm Sl Bk
 pm:g Pm=.list [.int (.l 0),.int (.l 1),.int (.l 2)]
 sl:g Sl=vO
 bk:g Bk=.list [cu bl]
 bl:g bl=mQ (.int (.l 0)) S E
 st:g S=.list (As.map cu)
def xH(g:Nat->O)(As:List Nat)(bf:List cq):Prop:=As.length=bf.length/\∀(i:Nat) a r,As[i]?=some a->bf[i]?=some r->∃b,qm g a b r
theorem xH.get{g:Nat->O}{As:List Nat}{bf:List cq}(h:xH g As bf){i:Nat}{v:V}(e:bA (As.map cu) i=some v):∃a r b,v=cu a/\As[i]?=some a/\bf[i]?=some r/\qm g a b r:=by
 rw[pF,sL]at e;cases p:As[i]? with
 |none=>rw[p]at e;cases e
 |some a=>rw[p]at e;cases q:bf[i]? with|none=>have o:=(lK.mp p).1;have t:=xY.mp q;have:=h.1;omega|some r=>obtain⟨b,j⟩:=h.2 i a r p q;exact⟨a,r,b,(nM e).symm,rfl,rfl,j⟩
theorem take_succ{α:Type}{l:List α}{i:Nat}{x:α}(h:l[i]?=some x):l.take (i+1)=l.take i++[x]:=by rw[List.take_add_one,h];rfl
theorem VK(e:List cq):(iL e).length<=3+e.length:=by
 have:∀(e:List cq) l,(e.foldl kj l).length<=l.length+e.length:=by
  intro e
  induction e with
  |nil=>intro l;simp
  |cons r e j=>
   intro l;have:=j (kj l r);have o:(kj l r).length<=l.length+1:=by unfold kj;cases decide (0<=r.d)<;>simp
   simp only[tG,cT];omega
 exact this e _
theorem aa7(k:Nat)(as:List V)(h:Hp)(n:Nat):bH mM (k+1) 12 as ⟨h,n⟩=enter mM (bH mM k) ⟨1,6,[.tp [.nm 1,.nm 2] (.tu [.d0 (some 17),.d0 (some 18)]),.fo (.nm 3) (.ex (.at (.l 0) 10)) [.ai (.l 1) (.l 3) (.c (.bool true))],.fo (.nm 4) (.ex (.at (.l 0) 13)) [.fo (.nm 5) (.ex (.at (.l 4) 7)) Ag],
 .fo (.nm 3) (.ex (.l 2)) [.ex (.me (.l 1) 1 [.l 3])],.rt (.l 1)]⟩ as ⟨h,n⟩:=rfl
def HQ:List S:=[.ai (.l 1) (.l 3) (.c (.bool true))]
theorem Xg(h:Hp)(n k:Nat)(Pm:Nat)(e:V)(hp:h.g Pm=.list [.int (.l 0),.int (.l 1),.int (.l 2)])(ho:h.on=.dict [] 0)(z:n+3<bu):
  ∃x,eU mM (.li (.g Pm)) (dE mM (.nm 3) (cy mM (bH mM k) HQ)) 4 0 [e,.ref (.s 17),.ref (.s 18),.no,.no,.no] ⟨h,n⟩=some ((.nx,[e,.ref (.s 17),.ref (.s 18),x,.no,.no]),⟨{h with on:=.dict (eK (iL [])) 3},n+3⟩):=by
 refine⟨.int (.l 2),?_⟩;have j:(3:Nat)<bu:=by decide
 have p:=wB h n (.s 17) ([]:List (Int×Unit)) 0 0 () (f:=fun _=>.bool true) ho rfl (by decide) rfl (by omega);have q:=wB ({h with on:=.dict (eK [(0,())]) 1}:Hp) (n+1) (.s 17) [(0,())] 1 1 () (f:=fun _=>.bool true) rfl rfl (by simp;omega) rfl (by omega);have t:=wB ({h with on:=.dict (eK [(0,()),(1,())]) 2}:Hp) (n+2) (.s 17) [(0,()),(1,())] 2 2 () (f:=fun _=>.bool true) rfl rfl (by simp;omega) rfl (by omega);have g0:∀o:O,mM.get ({h with on:=o}:Hp) (.g Pm)=.list [.int (.l 0),.int (.l 1),.int (.l 2)]:=fun _=>hp
 have y:mM.get h (.g Pm)=.list [.int (.l 0),.int (.l 1),.int (.l 2)]:=hp;rw[Ja]at p q t;simp only[eY,fb,Nat.zero_add,Nat.reduceAdd]at p q t;simp only[eU,hX,dE,fV,HQ,y,bA,bW];walk_at "k30"
 all_goals rfl
theorem ro{xs:List V}{a:Nat}(h:Hp)(e:h.g a=.list xs):count mM (.li (.g a)) h=xs.length:=AG mM h e
def vP(bf:List cq):Prop:=∀(i:Nat) r,bf[i]?=some r->(iL (bf.take i)).lookup r.d=none
theorem UI(h:Hp)(n k:Nat)(S:Nat)(As:List Nat)(bf:List cq)(j y z:V)(Y:h.g S=.list (As.map cu))(J:xH h.g As bf)(ho:h.on=.dict (eK (iL [])) 3)(hd:vP bf)(hl:bf.length<100)(hn:n+bf.length<bu):
  ∃o e p,eU mM (.li (.g S)) (dE mM (.nm 5) (cy mM (bH mM k) Ag)) (As.length+1) 0 [j,.ref (.s 17),.ref (.s 18),y,z,.no] ⟨h,n⟩=some ((.nx,[j,.ref (.s 17),.ref (.s 18),y,z,o]),⟨{h with on:=.dict (eK (iL bf)) e},p⟩)/\n<=p/\p<=n+bf.length:=by
 have U:(200:Nat)<bu:=by decide
 obtain⟨l',Z,W,o,e,O,t,B,I⟩:=xF (dE mM (.nm 5) (cy mM (bH mM k) Ag)) (.g S) (As.map cu)
  (fun i l s=>∃o e,l=[j,.ref (.s 17),.ref (.s 18),y,z,o]/\s.h={h with on:=.dict (eK (iL (bf.take i))) e}/\n<=s.nx/\s.nx<=n+i)
  (fun i l s ⟨o,e,_,t,_⟩=>by rw[t];exact Y)
  (fun i v l s hv ⟨o,e,O,t,B,I⟩=>by
   obtain⟨a,r,b,rfl,ha,hr,hs⟩:=J.get hv;obtain⟨sh,x⟩:=s;simp only at t B I;subst O;subst t;have aa:i<bf.length:=(lK.mp hr).1;have hle:=VK (bf.take i);rw[List.length_take]at hle;have q:=VJ {h with on:=.dict (eK (iL (bf.take i))) e} x k a b r (iL (bf.take i)) e j z o y hs rfl (hd i r hr) (by omega) (by omega);have hf:iL (bf.take (i+1))=kj (iL (bf.take i)) r:=by rw[take_succ hr];unfold iL;rw[vI];rfl
   cases K:decide (0<=r.d)with
   |true=>rw[K]at q;refine⟨_,_,q,cu a,e+1,rfl,?_,by show n<=x+1;omega,by show x+1<=n+(i+1);omega⟩;rw[hf];unfold kj;rw[K];rfl
   |false=>
    rw[K]at q;refine⟨_,_,q,cu a,e,rfl,?_,B,by show x<=n+(i+1);omega⟩
    rw[hf];unfold kj;rw[K];rfl)
  As.length 0 [j,.ref (.s 17),.ref (.s 18),y,z,.no] ⟨h,n⟩ (by simp) ⟨.no,3,rfl,by show h=_;rw[List.take_zero,←ho],ez _,ez _⟩
 obtain⟨sh,x⟩:=Z;simp only at t B I;subst O;subst t;rw[oK,J.1]at I;rw[oK,J.1,vU]at W;refine⟨o,e,x,?_,B,I⟩;rw[J.1];exact W
theorem Zy(h:Hp)(n k F Pm I Bk bl S E:Nat)(As:List Nat)(bf:List cq)(J:FnAt h.g F Pm I Bk bl S E As)(K:xH h.g As bf)(p:h.on=.free)(q:h.mo=.free)(hd:vP bf)(hl:bf.length<100)(Z:n+200<bu):
  ∃e j,bH mM (k+1) 12 [.ref (.g F)] ⟨h,n⟩=some (.ref (.s 17),⟨{h with on:=.dict (eK (iL bf)) e,mo:=.dict [] 0},j⟩)/\n<=j/\j<=n+10+bf.length:=by
 obtain⟨f1,t,f3,y,U,z⟩:=J;obtain⟨x,B⟩:=Xg {h with on:=.dict [] 0,mo:=.dict [] 0} (n+2) k Pm (.ref (.g F)) t rfl (by omega);obtain⟨x5,e,j,W,b1,b2⟩:=UI {h with on:=.dict (eK (iL [])) 3,mo:=.dict [] 0} (n+2+3) k S As bf (.ref (.g F)) x (.ref (.g bl)) z K rfl hd hl (by omega);dsimp only at B W;unfold HQ at B;have OZ:mM.get h (.s 17)=.free:=p;have Y:mM.get ({h with on:=.dict [] 0}:Hp) (.s 18)=.free:=q;have c1:count mM (.li (.g Pm)) ({h with on:=.dict [] 0,mo:=.dict [] 0}:Hp)=3:=ro (xs:=[.int (.l 0),.int (.l 1),.int (.l 2)]) _ t;have c2:count mM (.li (.g Bk)) ({h with on:=.dict (eK (iL [])) 3,mo:=.dict [] 0}:Hp)=1:=ro (xs:=[cu bl]) _ y;have c3:count mM (.li (.g S)) ({h with on:=.dict (eK (iL [])) 3,mo:=.dict [] 0}:Hp)=As.length:=(ro (xs:=As.map cu) _ z).trans (by simp);have k1:∀o:O,mM.get ({h with on:=o,mo:=.dict [] 0}:Hp) (.g Bk)=.list [cu bl]:=fun _=>y
 have k2:∀o:O,mM.get ({h with on:=o,mo:=.dict [] 0}:Hp) (.g bl)=mQ (.int (.l 0)) S E:=fun _=>U
 clear p q;refine⟨e,j,?_,by omega,by omega⟩;rw[aa7];walk_at "k30";rw[mK];walk_at "k30";rw[mK];walk_at "k30";simp only[Nat.reduceAdd,eU,hX,k1,bA,dE,fV,bW,cu];walk_at "k30";rw[mK];walk_at "k30";rw[mK];walk_at "k30";rfl
local macro_rules |`(tactic|walk_at "k31")=>`(tactic|simp(disch:=walk_at "k21")only[el,ff,iH,M0,fp,eM,fY,jk,fS,iI,NI,eZ,eF,gz,gj,NK,tR,fG,nh,NL,lP,ky,ig,eN,eO,fN,jh,eQ,fC,fA,fe,gw,ij,gQ,jf,bA,bW,fill,fb,eY,fX,ft,gy, *,jV,mL,Ei,kc,jR,n4,Nat.reduceBEq,cL,fld,sV,qg,iA,oU])
abbrev rR(b:Nat):O:=da 27 (-1) b (.int (.l 0)) false
theorem RU(h:Hp)(n k bl S E be:Nat)(e:h.g bl=mQ (.int (.l 0)) S E)(o:h.g E=rR be)(hf:h.g n=.free)(p:n<bu):
  bH mM (k+1) 4 [.ref (.g bl)] ⟨h,n⟩=some (.ref (.g n),⟨{h with g:=fun j=>if j=n then .list []else h.g j},n+1⟩):=by
 rw[c4];unfold zm;walk_at "k31"
theorem Xh(h:Hp)(a:Ad):tW mM h (.ref a)=match mM.get h a with
  |.list l=>some (!l.isEmpty)
  |_=>.none:=rfl
theorem AI(h:Hp)(n:Nat)(a:Ad):builtin mM 0 [.ref a] ⟨h,n⟩=match mM.get h a with
  |.list l=>some (.int (.l l.length),⟨h,n⟩)
  |_=>.none:=rfl
theorem tP(h:Hp)(a:Ad)(m:Nat):own mM h a m=match mM.get h a with
 |.inst c _=>(match mM.P.me c m with
  |some f=>some (some f)
  |.none=>.none)
 |.free=>.none
 |_=>some .none:=rfl
theorem yF(l:List V):lx (.list l)=0:=rfl
theorem Pu(l:List (V×V))(e:Nat):lx (.dict l e)=1:=rfl
theorem v5(h:Hp)(n:Nat)(a:Ad)(v:V):gO mM 0 a 0 [v] ⟨h,n⟩=match mM.get h a with
  |.list l=>bif Nat.blt l.length bu then pL mM a (.list (l++[v])) .none ⟨h,n⟩else .none
  |_=>.none:=by
 unfold gO sG C9;cases q:mM.get h a<;>simp only[q,lx]<;>rfl
theorem Xi(h:Hp)(n:Nat)(z:Int)(hf:h.g n=.free)(e:n<bu):Ea mM (.int (.l z)) ⟨h,n⟩=some (.ref (.g n),⟨{h with g:=fun j=>if j=n then .set [.int (.l z)]else h.g j},n+1⟩):=by
 show new mM .none (.set [.int (.l z)]) ⟨h,n⟩=_
 rw[iA h n _ hf e]
def wk{H:Type}(x:R H (Fl×L))(f:Y H):R H (Fl×L):=match x with
 |.none=>.none
 |some ((.rt v,l),s)=>some ((.rt v,l),s)
 |some ((_,l),s)=>f l s
theorem aa8{H:Type}(l:L)(s:St H)(f:Y H):wk (some ((.cn,l),s)) f=f l s:=rfl
theorem L9{H:Type}(e:L->St H->R H Bool)(body:Y H)(k:Nat)(l:L)(s:St H):u9 e body (k+1) l s=bO (e l s) fun c s=>match c with
  |false=>some ((.nx,l),s)
  |true=>wk (body l s) (u9 e body k):=by
 rw[u9];cases e l s with
 |none=>rfl
 |some p=>
  obtain⟨b,j⟩:=p;cases b with
  |false=>rfl
  |true=>
   show(match body l j with|.none=>_|some ((.rt v,l),s)=>_|some ((_,l),s)=>_)=wk (body l j) _
   unfold wk;cases body l j with|none=>rfl|some q=>obtain⟨⟨f,t⟩,o⟩:=q;cases f<;>rfl
theorem N9{H:Type}(M:Mc H)(C:CH H)(e:E)(l:L)(h:H)(n:Nat):xB M (b9 M C e) l ⟨h,n⟩=bO (b9 M C e l ⟨h,n⟩) fun v s=>qx M v s:=rfl
theorem u0{H:Type}(s:St H):neg (.int (.l 1)) s=some (.int (.l (-1)),s):=rfl
theorem Zz(x:V):jy [x] (.int (.l (-1)))=some x:=rfl
theorem ZA(h:Hp)(n:Nat)(a:Ad):D8 mM (.ref a) ⟨h,n⟩=match mM.get h a with
  |.list l=>new mM .none (.list l.reverse) ⟨h,n⟩
  |_=>.none:=rfl
theorem aa9(x:V)(r:List V):(x::r).isEmpty=false:=rfl
theorem aba:([]:List V).isEmpty=true:=rfl
theorem d00:decide ((0:Int)=((0:Nat):Int))=true:=rfl
theorem HR(h:Hp)(n a:Nat)(o:O)(e:n<bu):upd mM (.g a) o ⟨h,n⟩=some ((),⟨{h with g:=fun j=>if j=a then o else h.g j},n+1⟩):=by rw[qu mM h n o rfl rfl e,wg]
theorem vQ(h:Hp)(n a:Nat)(o:O)(v:V)(e:n<bu):pL mM (.g a) o v ⟨h,n⟩=some (v,⟨{h with g:=fun j=>if j=a then o else h.g j},n+1⟩):=by rw[Dz mM h n o v rfl rfl e,wg]
theorem ZC(h:Hp)(n a:Nat):gO mM 0 (.g a) 1 [] ⟨h,n⟩=match h.g a with
  |.list l=>(match l.getLast? with
   |some v=>(match v with
    |.no=>.none
    |v=>pL mM (.g a) (.list l.dropLast) v ⟨h,n⟩)
   |.none=>.none)
  |_=>.none:=by
 unfold gO sG D9;simp only[qg];cases q:h.g a<;>simp only[q,lx]<;>rfl
theorem ZD(x:V):[x].getLast?=some x:=rfl
theorem ZE(x:V):[x].dropLast=[]:=rfl
local macro_rules |`(tactic|walk_at "k32")=>`(tactic|simp(disch:=walk_at "k21")only[el,ff,iH,M0,fp,eM,fY,jk,fS,iI,NI,eZ,eF,gz,gj,NK,tR,fG,nh,NL,lP,ky,ig,eN,eO,fN,jh,eQ,fC,fA,fe,gw,ij,gQ,jf,bA,bW,fill,fb,eY,fX,ft,gy, *,jV,mL,Ei,kc,jR,n4,Nat.reduceBEq,cL,fld,sV,qg,iA,oU,RU,Xh,AI,tP,yF,v5,Xi,N9,aa8,Zz,u0,ZA,aa9,aba,lq,cQ,List.reverse_cons,List.reverse_nil,nR,d00,sJ,vQ,ZC,ZD,ZE])
theorem order_eq(h:Hp)(n k F Pm z Bk bl S E be:Nat)(As:List Nat)(B:FnAt h.g F Pm z Bk bl S E As)(K:h.g E=rR be)(q:F<n/\Bk<n/\bl<n/\E<n)(o:∀j,n<=j->h.g j=.free)(O:n+40<bu):
  ∃g e a,bH mM (k+4) 7 [.ref (.g F)] ⟨h,n⟩=some (.ref (.g a),⟨{h with g:=g},e⟩)/\g a=.list [.int (.l 0)]/\(∀j,j<n->g j=h.g j)/\(∀j,e<=j->g j=.free)/\n<=e/\e<=n+30/\a<e:=by
 obtain⟨U,W,Y,I,Z,f6⟩:=B;obtain⟨l1,l2,l3,l4⟩:=q;have x:(10:Nat)<bu:=by decide
 unfold cu at I;have t:∃g,bH mM (k+3) 6 [.ref (.g F)] ⟨h,n⟩=some (.ref (.g n),⟨{h with g:=g},n+7⟩)/\g n=.list [.int (.l 0)]/\(∀j,j<n->g j=h.g j)/\(∀j,n+7<=j->g j=.free):=by
  refine⟨fun j=>if j=n+4 then .list []else if j=n then .list [.int (.l 0)]else if j=n+3 then .list [.int (.l 0),.ref (.g (n+2)),.int (.l 0)]else if j=n+2 then .list []else if j=n+1 then .set [.int (.l 0)]else h.g j,?_,?_,?_,?_⟩
  ·rw[c6];unfold zo;walk_at "k32";rw[aaM,show DM=298+1+1 from rfl,L9];walk_at "k32";rw[L9];walk_at "k32"
  ·simp
  ·intro j p;simp[show j≠n+4 by omega,show j≠n by omega,show j≠n+3 by omega,show j≠n+2 by omega,show j≠n+1 by omega]
  ·intro j p;simp[show j≠n+4 by omega,show j≠n by omega,show j≠n+3 by omega,show j≠n+2 by omega,show j≠n+1 by omega,o j (by omega)]
 obtain⟨g,e1,e2,J,y⟩:=t;refine⟨fun j=>if j=n+7 then .list [.int (.l 0)]else g j,n+8,n+7,?_,df rfl,fun j p=>(bL (by omega)).trans (J j p),fun j p=>(bL (by omega)).trans (y j (by omega)),by omega,by omega,by omega⟩;have e5:=y (n+7) (ez _);rw[c7];unfold zO;walk_at "k32"
 all_goals rfl
abbrev jX(l:List (Int×Int)):List (V×V):=g9 (fun i=>V.int (.l i)) (fun v=>.int (.l v)) l
theorem Oa{h:Hp}{e:Nat}{l:List (Int×Int)}(n:Nat)(x d:Int)(hd:h.ho=.dict (jX l) e):gO mM 1 (.s 20) 2 [.int (.l x),.int (.l d)] ⟨h,n⟩=some (.int (.l ((l.lookup x).getD d)),⟨h,n⟩):=by rw[Aa mM h n (show mM.get h (.s 20)=.dict (jX l) e from hd) (je jP _ x l) (pD jP (fun v=>.int (.l v)) x l)];cases l.lookup x<;>rfl
theorem Ob{h:Hp}{e:Nat}{l:List (Int×Int)}(x:Int)(hd:h.ho=.dict (jX l) e):dF mM h (.int (.l x)) (.ref (.s 20))=some (l.lookup x).isSome:=Jb h (.s 20) l e x hd
theorem Oc{h:Hp}{e:Nat}{l:List (Int×Unit)}(x:Int)(hd:h.on=.dict (eK l) e):dF mM h (.int (.l x)) (.ref (.s 17))=some (l.lookup x).isSome:=Jb h (.s 17) l e x hd
theorem abb{h:Hp}{e:Nat}{l:List (Int×Int)}(n:Nat)(x:Int)(hd:h.ho=.dict (jX l) e):hQ mM (.ref (.s 20)) (.int (.l x)) ⟨h,n⟩=match l.lookup x with
  |some v=>some (.int (.l v),⟨h,n⟩)
  |none=>none:=by
 rw[nR];simp only[show mM.get h (.s 20)=.dict (jX l) e from hd];show(bif jx (.int (.l x)) _ then(match jH dN (.int (.l x)) _ with|some (some v)=>some (v,_)|_=>.none)else .none)=_
 rw[je jP,pD jP];cases l.lookup x<;>rfl
local macro_rules |`(tactic|walk_at "k33")=>`(tactic|simp(disch:=walk_at "k21")only[el,ff,iH,fp,eM,fY,oP,fS,iI,eZ,eF,gz,gj,tR,fG,lP,ig,ma,lQ,eN,eO,fN,jh,iT,eQ,fC,fA,fe,gw,jQ,ij,jJ,wu,kT,gQ,jf,bA,bW,fb,eY,fX,ki,ft,gy, *,jV,mL,kc,jR,jS,lL,Nat.reduceBEq,tJ,rV,rW,fld,lp,lM,Pr,q1,q2,qg,oU,tP,Pu,u0,nR,sJ,Oa])
def lz(l:List (Int×Int)):Rk->Int
 |.sl i=>i
 |.ad x _=>(l.lookup x).getD (-1)
 |_=> -1
theorem VL(h:Hp)(n k a b:Nat)(r:cq)(l:List (Int×Int))(e:Nat)(j:qm h.g a b r)(hd:h.ho=.dict (jX l) e):bH mM (k+1) 13 [cu a,.ref (.s 20)] ⟨h,n⟩=some (.int (.l (lz l r.k)),⟨h,n⟩):=by obtain⟨o,p⟩:=j;obtain⟨q,d,firm⟩:=r;unfold cu;rw[c13];unfold zp;cases q<;>simp only[Rk.op,Rk.args,Rk.more_q,bR,Op.v,gf,m8]at o p<;>unfold lz<;>walk_at "k33"
theorem UJ{h:Hp}{a b:Nat}{r:cq}{l:List (Int×Int)}{e:Nat}(n k:Nat)(j:qm h.g a b r)(hd:h.ho=.dict (jX l) e):bH mM (k+1) 13 [.ref (.g a),.ref (.s 20)] ⟨h,n⟩=some (.int (.l (lz l r.k)),⟨h,n⟩):=VL h n k a b r l e j hd
def Ah:List S:=[.if (.cm .gk (.at (.l 4) 1) (.l 1)) [.as 5 (.cf 13 [.l 4,.l 2]),.if (.cm .ge (.l 5) (.c (.int (.l 0)))) [.ai (.l 2) (.at (.l 4) 1) (.l 5)] []] []]
def l9(l:List (Int×Int))(r:cq):List (Int×Int):=bif decide (0<=r.d)&&decide (0<=lz l r.k)then l++[(r.d,lz l r.k)]else l
def gA(e:List cq):List (Int×Int):=e.foldl l9 []
theorem VM(h:Hp)(n k a b:Nat)(r:cq)(on:List (Int×Unit))(B:Nat)(l:List (Int×Int))(e:Nat)(x y I z:V)(o:qm h.g a b r)(ho:h.on=.dict (eK on) B)(j:(on.lookup r.d).isSome=decide (0<=r.d))(hd:h.ho=.dict (jX l) e)(hr:l.lookup r.d=none)(hl:l.length<bu)(J:n<bu):
  ∃t,dE mM (.nm 4) (cy mM (bH mM (k+1)) Ah) (cu a) [x,.ref (.s 17),.ref (.s 20),y,I,z] ⟨h,n⟩=some ((.nx,[x,.ref (.s 17),.ref (.s 20),y,cu a,t]),bif decide (0<=r.d)&&decide (0<=lz l r.k)then⟨{h with ho:=.dict (jX (l++[(r.d,lz l r.k)])) (e+1)},n+1⟩else⟨h,n⟩):=by
 obtain⟨O,S⟩:=id o;unfold dE fV Ah cu;simp only[bW];have hp:=wB h n (.s 20) l e r.d (lz l r.k) (f:=fun v=>.int (.l v)) hd hr hl rfl J;rw[Pt]at hp;have hle:(!decide (lz l r.k<0))=decide (0<=lz l r.k):=by by_cases K:lz l r.k<0<;>simp[K]<;>omega
 have q1:=Oc r.d ho;have q2:=UJ n k o hd;cases p:decide (0<=r.d)with
 |true=>rw[p]at j;rw[j]at q1;clear j;cases q:decide (0<=lz l r.k)with|true=>rw[q]at hle;refine⟨.int (.l (lz l r.k)),?_⟩;clear hd ho o;walk_at "k33"|false=>rw[q]at hle;refine⟨.int (.l (lz l r.k)),?_⟩;clear hd ho o;walk_at "k33"
 |false=>rw[p]at j;rw[j]at q1;clear j;refine⟨z,?_⟩;clear hd ho o;walk_at "k33"
theorem zM{κ α:Type} [DecidableEq κ](l m:List (κ×α))(k:κ):(l++m).lookup k=(l.lookup k).or (m.lookup k):=by rw[Dn]
theorem Hb:∀(e:List cq)(m:List (Int×Unit))(d:Int),(m.lookup d).isSome=true->((e.foldl kj m).lookup d).isSome=true
 |[],m,d,h=>h
 |r::e,m,d,h=>by
  refine Hb e (kj m r) d ?_;unfold kj;cases decide (0<=r.d)with
  |true=>
   show((m++[(r.d,())]).lookup d).isSome=true
   rw[zM];cases q:m.lookup d with|none=>rw[q]at h;cases h|some _=>rfl
  |false=>exact h
theorem MD:∀(e:List cq)(m:List (Int×Unit))(r:cq),r∈e->0<=r.d->((e.foldl kj m).lookup r.d).isSome=true
 |x::e,m,r,h,hd=>by
  rcases gx.mp h with rfl|h
  ·refine Hb e _ _ ?_;unfold kj;rw[oJ hd];show((m++[(r.d,())]).lookup r.d).isSome=true
   rw[zM];cases m.lookup r.d<;>simp
  ·exact MD e (kj m x) r h hd
theorem ME:∀(e:List cq)(m:List (Int×Unit)),(∀d,(m.lookup d).isSome=true->0<=d)->∀d,((e.foldl kj m).lookup d).isSome=true->0<=d
 |[],m,h=>h
 |r::e,m,h=>by
  refine ME e (kj m r) fun d hd=>?_
  unfold kj at hd;cases q:decide (0<=r.d)with
  |false=>rw[q]at hd;exact h d hd
  |true=>
   rw[q]at hd;replace hd:((m++[(r.d,())]).lookup d).isSome=true:=hd;rw[zM]at hd;cases p:m.lookup d with
   |some _=>exact h d (by rw[p];rfl)
   |none=>
    rw[p]at hd
    by_cases j:d=r.d
    ·rw[j];exact Ay q
    ·have:([(r.d,())]:List (Int×Unit)).lookup d=none:=by
      rw[jT,km.mpr j];rfl
     rw[this]at hd;cases hd
theorem VN(e:List cq)(d:Int)(h:((iL e).lookup d).isSome=true):0<=d:=by
 refine ME e _ (fun d hd=>?_) d h
 by_cases j:d=0
 ·omega
 ·by_cases o:d=1
  ·omega
  ·by_cases p:d=2
   ·omega
   ·rw[jT,km.mpr j]at hd;simp only at hd;rw[jT,km.mpr o]at hd;simp only at hd;rw[jT,km.mpr p]at hd;cases hd
theorem Hr{e:List cq}{r:cq}(h:r∈e):((iL e).lookup r.d).isSome=decide (0<=r.d):=by
 cases q:decide (0<=r.d)with
 |true=>exact MD e _ r h (Ay q)
 |false=>cases p:((iL e).lookup r.d).isSome with|false=>rfl|true=>have:=VN e r.d p;exact absurd this (of_decide_eq_false q)
theorem MF:∀(e:List cq)(l:List (Int×Int))(m:List (Int×Unit)),(∀d,m.lookup d=none->l.lookup d=none)->∀d,(e.foldl kj m).lookup d=none->(e.foldl l9 l).lookup d=none
 |[],l,m,h=>h
 |r::e,l,m,h=>by
  refine MF e (l9 l r) (kj m r) fun d hd=>?_
  unfold kj at hd;unfold l9;cases q:decide (0<=r.d)with
  |false=>rw[q]at hd;exact h d hd
  |true=>
   rw[q]at hd;replace hd:(m++[(r.d,())]).lookup d=none:=hd;rw[zM,Option.or_eq_none_iff]at hd;have hl:=h d hd.1;cases p:decide (0<=lz l r.k)with
   |false=>exact hl
   |true=>
    show(l++[(r.d,lz l r.k)]).lookup d=none
    rw[zM,hl];have j:(d==r.d)=false:=by cases z:d==r.d with|false=>rfl|true=>rw[jT,z]at hd;cases hd.2
    rw[jT,j];rfl
theorem UK{e:List cq}{d:Int}(h:(iL e).lookup d=none):(gA e).lookup d=none:=MF e [] _ (fun _ _=>rfl) d h
theorem VO(e:List cq):(gA e).length<=e.length:=by
 have:∀(e:List cq) l,(e.foldl l9 l).length<=l.length+e.length:=by
  intro e
  induction e with
  |nil=>intro l;simp
  |cons r e j=>
   intro l;have:=j (l9 l r);have o:(l9 l r).length<=l.length+1:=by unfold l9;cases decide (0<=r.d)<;>cases decide (0<=lz l r.k)<;>simp
   simp only[tG,cT];omega
 have:=this e [];rw[cQ,Nat.zero_add]at this;exact this
theorem UL(h:Hp)(n k:Nat)(S:Nat)(As:List Nat)(bf:List cq)(Y:Nat)(y z:V)(hS:h.g S=.list (As.map cu))(K:xH h.g As bf)(ho:h.on=.dict (eK (iL bf)) Y)(U:h.ho=.dict [] 0)(hd:vP bf)(hl:bf.length<100)(hn:n+bf.length<bu):
  ∃j o e p,eU mM (.li (.g S)) (dE mM (.nm 4) (cy mM (bH mM (k+1)) Ah)) (As.length+1) 0 [y,.ref (.s 17),.ref (.s 20),z,.no,.no] ⟨h,n⟩=some ((.nx,[y,.ref (.s 17),.ref (.s 20),z,j,o]),⟨{h with ho:=.dict (jX (gA bf)) e},p⟩)/\n<=p/\p<=n+bf.length:=by
 have Z:(200:Nat)<bu:=by decide
 obtain⟨l',s',q1,j,o,e,W,t,B,I⟩:=xF (dE mM (.nm 4) (cy mM (bH mM (k+1)) Ah)) (.g S) (As.map cu)
  (fun i l s=>∃j o e,l=[y,.ref (.s 17),.ref (.s 20),z,j,o]/\s.h={h with ho:=.dict (jX (gA (bf.take i))) e}/\n<=s.nx/\s.nx<=n+i)
  (fun i l s ⟨j,o,e,_,t,_⟩=>by rw[t];exact hS)
  (fun i v l s hv ⟨j,o,e,W,t,B,I⟩=>by
   obtain⟨a,r,b,rfl,ha,hr,hs⟩:=K.get hv;obtain⟨sh,x⟩:=s;simp only at t B I;subst W;subst t;have aa:i<bf.length:=(lK.mp hr).1;have hle:=VO (bf.take i);rw[List.length_take]at hle;obtain⟨J,q⟩:=VM {h with ho:=.dict (jX (gA (bf.take i))) e} x k a b r (iL bf) Y (gA (bf.take i)) e y z j o hs ho (Hr (iw hr)) rfl (UK (hd i r hr)) (by omega) (by omega);have hf:gA (bf.take (i+1))=l9 (gA (bf.take i)) r:=by rw[take_succ hr];unfold gA;rw[vI];rfl
   cases O:(decide (0<=r.d)&&decide (0<=lz (gA (bf.take i)) r.k))with
   |true=>rw[O]at q;refine⟨_,_,q,cu a,J,e+1,rfl,?_,by show n<=x+1;omega,by show x+1<=n+(i+1);omega⟩;rw[hf];unfold l9;rw[O];rfl
   |false=>
    rw[O]at q;refine⟨_,_,q,cu a,J,e,rfl,?_,B,by show x<=n+(i+1);omega⟩
    rw[hf];unfold l9;rw[O];rfl)
  As.length 0 [y,.ref (.s 17),.ref (.s 20),z,.no,.no] ⟨h,n⟩ (by simp) ⟨.no,.no,0,rfl,by show h=_;rw[List.take_zero,show jX (gA [])=[] from rfl,←U],ez _,ez _⟩
 obtain⟨sh,x⟩:=s';simp only at t B I;subst W;subst t;rw[oK,K.1]at I;rw[oK,K.1,vU]at q1;refine⟨j,o,e,x,?_,B,I⟩;rw[K.1];exact q1
local macro_rules |`(tactic|walk_at "k34")=>`(tactic|simp(disch:=walk_at "k21")only[el,ff,iH,fp,eM,fY,iI,eF,gz,gj,Ef,lP,eN,eO,rQ,fN,eQ,fe,gQ,jf,bA,bW,fill,fb,eY, *,jV,tL,tJ,fld,lp,Pt,q1,q2,qg,HP,oU,yg,cQ,nR])
theorem abc(k:Nat)(as:List V)(h:Hp)(n:Nat):bH mM (k+1) 14 as ⟨h,n⟩=enter mM (bH mM k) ⟨2,6,[.as 2 (.d0 (some 20)),.fo (.nm 3) (.ex (.cf 7 [.l 0])) [.fo (.nm 4) (.ex (.at (.ix (.at (.l 0) 13) (.l 3)) 7)) Ah],.rt (.l 2)]⟩ as ⟨h,n⟩:=rfl
theorem FnAt.same{g g':Nat->O}{F Pm e Bk bl S E:Nat}{As:List Nat}{n:Nat}(x:FnAt g F Pm e Bk bl S E As)(k:∀j,j<n->g' j=g j)(hl:F<n/\Pm<n/\e<n/\Bk<n/\bl<n/\S<n):FnAt g' F Pm e Bk bl S E As:=
 ⟨(k _ hl.1).trans x.fn,(k _ hl.2.1).trans x.pm,(k _ hl.2.2.1).trans x.sl,(k _ hl.2.2.2.1).trans x.bk,(k _ hl.2.2.2.2.1).trans x.bl,(k _ hl.2.2.2.2.2).trans x.st⟩
def vB(g:Nat->O)(As:List Nat)(bf:List cq)(n:Nat):Prop:=As.length=bf.length/\∀(i:Nat) a r,As[i]?=some a->bf[i]?=some r->∃b,qm g a b r/\a<n/\b<n
theorem vB.at{g g':Nat->O}{As:List Nat}{bf:List cq}{n:Nat}(x:vB g As bf n)(k:∀j,j<n->g' j=g j):xH g' As bf:=
 ⟨x.1,fun i a r o p=>let⟨b,e,q,t⟩:=x.2 i a r o p;⟨b,(k a q).trans e.1,(k b t).trans e.2⟩⟩
theorem ZF(h:Hp)(n k F Pm y Bk bl S E be:Nat)(As:List Nat)(bf:List cq)(K:Nat)(p:FnAt h.g F Pm y Bk bl S E As)(O:h.g E=rR be)(B:F<n/\Pm<n/\y<n/\Bk<n/\bl<n/\S<n)(U:E<n)(W:vB h.g As bf n)(ho:h.on=.dict (eK (iL bf)) K)(t:h.ho=.free)(hd:vP bf)(hl:bf.length<100)(q:∀j,n<=j->h.g j=.free)(hn:n+300<bu):
  ∃g e o,bH mM (k+5) 14 [.ref (.g F),.ref (.s 17)] ⟨h,n⟩=some (.ref (.s 20),⟨{h with ho:=.dict (jX (gA bf)) e,g:=g},o⟩)/\(∀j,j<n->g j=h.g j)/\(∀j,o<=j->g j=.free)/\n<=o/\o<=n+40+bf.length:=by
 obtain⟨g,I,a,q1,q2,q3,q4,q5,q6,q7⟩:=order_eq {h with ho:=.dict [] 0} (n+1) k F Pm y Bk bl S E be As ⟨p.fn,p.pm,p.sl,p.bk,p.bl,p.st⟩ O ⟨by omega,by omega,by omega,by omega⟩ (fun j z=>q j (by omega)) (by omega);dsimp only at q1 q3;have x:FnAt g F Pm y Bk bl S E As:=p.same (fun j z=>q3 j (by omega)) B;obtain⟨x4,x5,e,J,Y,w2,w3⟩:=UL {h with ho:=.dict [] 0,g:=g} I (k+3) S As bf K (.ref (.g F)) (.int (.l 0)) x.st (W.at fun j z=>q3 j (by omega)) ho rfl hd hl (by omega);dsimp only at Y;refine⟨g,e,J,?_,fun j z=>q3 j (by omega),fun j z=>q4 j (by omega),by omega,by omega⟩;obtain⟨f1,f2,f3,Z,f5,f6⟩:=x;have aa:mM.get h (.s 20)=.free:=t;have c1:count mM (.li (.g a)) ({h with ho:=.dict [] 0,g:=g}:Hp)=1:=ro (xs:=[.int (.l 0)]) _ q2;have c3:count mM (.li (.g S)) ({h with ho:=.dict [] 0,g:=g}:Hp)=As.length:=(ro (xs:=As.map cu) _ f6).trans (by simp);unfold cu at Z;clear t ho p q3;rw[abc];walk_at "k34";rw[mK];walk_at "k34";simp only[Nat.reduceAdd,eU,hX,qg,q2,bA,dE,fV,bW];walk_at "k34";rw[mK];walk_at "k34"
theorem LG{κ α:Type} [DecidableEq κ]{k:κ}:∀{l:List (κ×α)},l.lookup k=none->kX k l=l
 |[],_=>rfl
 |p::l,h=>by
  obtain⟨a,b⟩:=p;rw[jT]at h;cases q:k==a with
  |true=>rw[q]at h;cases h
  |false=>
   rw[q]at h;have:¬a=k:=fun e=>by subst e;simp at q
   rw[kX,bL this,LG h]
theorem Xj{h:Hp}{e:Nat}{l:List (Int×Unit)}(n:Nat)(s:Int)(d:V)(hd:h.pr=.dict (eK l) e)(hs:l.lookup s=some ())(j:n<bu):gO mM 1 (.s 19) 1 [.int (.l s),d] ⟨h,n⟩=some (.bool true,⟨{h with pr:=.dict (eK (kX s l)) (e+1)},n+1⟩):=by have o:mM.get h (.s 19)=.dict (eK l) e:=hd;unfold gO sG vW;simp only[o,lx];have q1:jH mM.F (.int (.l s)) (eK l)=some (some (.bool true)):=(pD jP (fun _=>.bool true) s l).trans (by rw[hs]<;>rfl);have q2:qw mM.F (.int (.l s)) (eK l)=some (eK (kX s l)):=GP jP (fun _=>.bool true) s l;rw[je jP];simp only[q1,fX];unfold wb;simp only[q2];rw[Dz mM _ n _ _ rfl rfl j];rfl
theorem Xk{h:Hp}{e:Nat}{l:List (Int×Unit)}(n:Nat)(s:Int)(d:V)(hd:h.pr=.dict (eK l) e)(hs:l.lookup s=none):gO mM 1 (.s 19) 1 [.int (.l s),d] ⟨h,n⟩=some (d,⟨h,n⟩):=by have j:mM.get h (.s 19)=.dict (eK l) e:=hd;unfold gO sG vW;simp only[j,lx];have q1:jH mM.F (.int (.l s)) (eK l)=some none:=(pD jP (fun _=>.bool true) s l).trans (by rw[hs]<;>rfl);rw[je jP];simp only[q1,fX]
local macro_rules |`(tactic|walk_at "k35")=>`(tactic|simp(disch:=walk_at "k21")only[el,ff,fp,eM,jk,fS,eZ,eF,gj,fG,ig,ma,lQ,eN,eO,fN,jh,iT,eQ,fC,fA,fe,gw,ij,jJ,kT,bA,bW,fX, *,jV,mL,kc,jR,Nat.reduceBEq,E3,q1,q2,q5,q6,q7,sJ])
def iK(l:List (Int×Int))(pl:List (Int×Unit)):Op->List (Int×Unit)
 |.r x=>match l.lookup x with|some s=>kX s pl|none=>pl
 |.k _=>pl
def Ai:List S:=[.if (.an [.cm .eq (.ix (.l 3) (.c (.int (.l 0)))) (.c (.str 1)),.cm .gk (.ix (.l 3) (.c (.int (.l 1)))) (.l 1)]) [.ex (.me (.l 2) 1 [.ix (.l 1) (.ix (.l 3) (.c (.int (.l 1)))),.c .none])] []]
theorem VP(h:Hp)(n k:Nat)(op:Op)(l:List (Int×Int))(e:Nat)(pl:List (Int×Unit))(p:Nat)(t y:V)(hd:h.ho=.dict (jX l) e)(hp:h.pr=.dict (eK pl) p)(q:n<bu):
  ∃z j,dE mM (.nm 3) (cy mM (bH mM k) Ai) op.v [t,.ref (.s 20),.ref (.s 19),y] ⟨h,n⟩=some ((.nx,[t,.ref (.s 20),.ref (.s 19),op.v]),⟨{h with pr:=.dict (eK (iK l pl op)) z},j⟩)/\n<=j/\j<=n+1:=by
 unfold dE fV Ai;simp only[bW];cases op with
 |k c=>refine⟨p,n,?_,ez _,by omega⟩;unfold iK Op.v;rw[←hp];clear hd hp;walk_at "k35"
 |r x=>
  have q1:=Ob x hd;have q2:=fun n=>abb n x hd
  cases o:l.lookup x with
  |none=>
   rw[o]at q1;refine⟨p,n,?_,ez _,by omega⟩;have this:iK l pl (.r x)=pl:=by unfold iK;simp only[o]
   rw[this,←hp];unfold Op.v;clear hd hp this q2;replace q1:dF mM h (.int (.l x)) (.ref (.s 20))=some false:=q1;walk_at "k35"
  |some s=>
   rw[o]at q1;simp only[o]at q2;replace q1:dF mM h (.int (.l x)) (.ref (.s 20))=some true:=q1;have q3:=fun n (q:n<bu) (hs:pl.lookup s=some ())=>Xj n s .none hp hs q
   have q4:=fun n (hs:pl.lookup s=none)=>Xk n s .none hp hs
   have q5:own mM h (.s 19) 1=some none:=by rw[tP,E3,hp]
   have q6:lx h.pr=1:=by rw[hp];rfl
   cases hs:pl.lookup s with
   |none=>
    refine⟨p,n,?_,ez _,by omega⟩;have:iK l pl (.r x)=pl:=by unfold iK;simp only[o];exact LG hs
    rw[this,←hp];unfold Op.v;have q7:=q4 n hs;clear hd hp q3 q4 this;walk_at "k35"
   |some _=>
    refine⟨p+1,n+1,?_,by omega,ez _⟩;have:iK l pl (.r x)=kX s pl:=by unfold iK;simp only[o]
    rw[this];unfold Op.v;have q7:=q3 n q hs;clear hd hp q3 q4 this;walk_at "k35"
theorem sl1{h:Hp}{a:Nat}{l:List V}(n:Nat)(e:h.g a=.list l):qs mM (.ref (.g a)) (.int (.l 1)) .none ⟨h,n⟩=new mM .none (.list (l.drop 1)) ⟨h,n⟩:=by
 show(match mM.get h (.g a)with|.list l=>(match bound 0 (.int (.l 1))with|some m=>(match bound l.length .none with|some k=>new mM .none (.list ((l.take k).drop m)) ⟨h,n⟩|.none=>.none)|.none=>.none)|_=>.none)=_
 rw[qg,e];show new mM .none (.list ((l.take l.length).drop 1)) ⟨h,n⟩=_
 rw[vU]
theorem sl2{h:Hp}{a:Nat}{l:List V}(n:Nat)(e:h.g a=.list l):qs mM (.ref (.g a)) (.int (.l 2)) .none ⟨h,n⟩=new mM .none (.list (l.drop 2)) ⟨h,n⟩:=by
 show(match mM.get h (.g a)with|.list l=>(match bound 0 (.int (.l 2))with|some m=>(match bound l.length .none with|some k=>new mM .none (.list ((l.take k).drop m)) ⟨h,n⟩|.none=>.none)|.none=>.none)|_=>.none)=_
 rw[qg,e];show new mM .none (.list ((l.take l.length).drop 2)) ⟨h,n⟩=_
 rw[vU]
theorem VQ(h:Hp)(n k p:Nat)(j:List Op)(l:List (Int×Int))(e:Nat)(pl:List (Int×Unit))(Y:Nat)(B:V)(hp:h.g p=.list (bR j))(hd:h.ho=.dict (jX l) e)(O:h.pr=.dict (eK pl) Y)(hn:n+j.length<bu):
  ∃y x o,eU mM (.li (.g p)) (dE mM (.nm 3) (cy mM (bH mM k) Ai)) (j.length+1) 0 [B,.ref (.s 20),.ref (.s 19),.no] ⟨h,n⟩=some ((.nx,[B,.ref (.s 20),.ref (.s 19),y]),⟨{h with pr:=.dict (eK (j.foldl (iK l) pl)) x},o⟩)/\n<=o/\o<=n+j.length:=by
 have t:(bR j).length=j.length:=by simp[bR]
 obtain⟨S,Z,q1,y,x,U,z,K,I⟩:=xF (dE mM (.nm 3) (cy mM (bH mM k) Ai)) (.g p) (bR j)
  (fun i S s=>∃y x,S=[B,.ref (.s 20),.ref (.s 19),y]/\s.h={h with pr:=.dict (eK ((j.take i).foldl (iK l) pl)) x}/\n<=s.nx/\s.nx<=n+i)
  (fun i l s ⟨y,x,_,z,_⟩=>by rw[z];exact hp)
  (fun i v S s J ⟨y,x,U,z,K,I⟩=>by
   obtain⟨sh,W⟩:=s;simp only at z K I;subst U;subst z;rw[pF,bR,sL]at J;cases ho:j[i]? with
   |none=>rw[ho]at J;cases J
   |some op=>
    rw[ho]at J;cases J;have aa:i<j.length:=(lK.mp ho).1;obtain⟨e4,o,q,b1,b2⟩:=VP {h with pr:=.dict (eK ((j.take i).foldl (iK l) pl)) x} W k op l e ((j.take i).foldl (iK l) pl) x B y hd rfl (by omega);refine⟨_,_,q,op.v,e4,rfl,?_,by show n<=o;omega,by show o<=n+(i+1);omega⟩
    rw[take_succ ho,vI];rfl)
  j.length 0 [B,.ref (.s 20),.ref (.s 19),.no] ⟨h,n⟩ (by rw[t];omega) ⟨.no,Y,rfl,by show h=_;rw[List.take_zero,List.foldl_nil,←O],ez _,ez _⟩
 obtain⟨sh,W⟩:=Z;simp only at z K I;subst U;subst z;rw[t]at I;rw[t,vU]at q1;exact⟨y,x,W,q1,K,I⟩
theorem abd(k:Nat)(as:List V)(h:Hp)(n:Nat):bH mM (k+1) 15 as ⟨h,n⟩=enter mM (bH mM k) ⟨3,4,[.fo (.nm 3) (.ex (.l 0)) Ai]⟩ as ⟨h,n⟩:=rfl
theorem abe(x:V):[x].drop 1=[]:=rfl
theorem abf(x y:V):[x,y].drop 1=[y]:=rfl
theorem abg(x y:V):[x,y].drop 2=[]:=rfl
local macro_rules |`(tactic|walk_at "k36")=>`(tactic|simp(disch:=walk_at "k21")only[el,ff,fp,eM,jk,fS,eZ,eF,nY,gz,gj,NJ,fG,lP,eN,eO,rQ,fN,jh,eQ,fC,fA,fe,gw,jQ,ij,jJ,vY,gQ,oF,bA,bW,fill,fb,eY,ft,gy, *,kc,jR,Nat.reduceBEq,gv5,fld,q1,q2,qg,iA,oU,yg,cQ,sl1,sl2,abe,abf,abg])
theorem v7(h:Hp)(n k p:Nat)(j:List Op)(l:List (Int×Int))(e:Nat)(pl:List (Int×Unit))(y:Nat)(hp:h.g p=.list (bR j))(hd:h.ho=.dict (jX l) e)(t:h.pr=.dict (eK pl) y)(z:n+j.length<bu):
  ∃x o,bH mM (k+1) 15 [.ref (.g p),.ref (.s 20),.ref (.s 19)] ⟨h,n⟩=some (.none,⟨{h with pr:=.dict (eK (j.foldl (iK l) pl)) x},o⟩)/\n<=o/\o<=n+j.length:=by
 obtain⟨J,x,o,q,B,I⟩:=VQ h n k p j l e pl y (.ref (.g p)) hp hd t z;refine⟨x,o,?_,B,I⟩;have c1:count mM (.li (.g p)) h=j.length:=(ro (xs:=bR j) _ hp).trans (by simp[bR]);clear hd t;rw[abd];walk_at "k36";rw[mK];walk_at "k36"
def ju(l:List (Int×Int))(pl:List (Int×Unit))(r:cq):List (Int×Unit):=match r.k with
 |.lo _ _ _=>pl
 |.st _ y _=>iK l pl (.r y)
 |.mo _ _ _=>pl
 |.sl _=>pl
 |k=>bif(l.lookup r.d).isSome then pl else k.args.foldl (iK l) pl
def pH:List S:=[.if (.cm .gk (.at (.l 6) 0) (.gl 5)) [.ex (.cf 15 [.sl (.at (.l 6) 2) (.ix (.gl 5) (.at (.l 6) 0)) (.c .none),.l 4,.l 2])] [.if (.cm .eq (.at (.l 6) 0) (.c (.str 3))) [.if (.cm .nj (.at (.l 6) 1) (.l 1)) [.ex (.me (.l 2) 1 [.at (.l 6) 3,.c .none])] []] [.if (.cm .nj (.at (.l 6) 1) (.l 4)) [.ex (.cf 15 [.at (.l 6) 2,.l 4,.l 2])] []]]]
def Jc(h h':Hp)(n:Nat)(pl:List (Int×Unit)):Prop:=∃e g,h'={h with pr:=.dict (eK pl) e,g:=g}/\∀j,j<n->g j=h.g j
theorem VR(h:Hp)(n k a b:Nat)(r:cq)(on:List (Int×Unit))(e1:Nat)(l:List (Int×Int))(e:Nat)(pl:List (Int×Unit))(K:Nat)(x0 x3 x5 x6:V)(z:h.t=pO)(hS:qm h.g a b r)(ae:a<n)(ab:b<n)(ho:h.on=.dict (eK on) e1)(W:(on.lookup r.d).isSome=decide (0<=r.d))(Z:∀i,r.k=.sl i->0<=r.d)
  (hd:h.ho=.dict (jX l) e) (p:h.pr=.dict (eK pl) K) (o:∀j,n<=j->h.g j=.free) (hn:n+10<bu):
  ∃h' t,dE mM (.nm 6) (cy mM (bH mM (k+1)) pH) (cu a) [x0,.ref (.s 17),.ref (.s 19),x3,.ref (.s 20),x5,x6] ⟨h,n⟩=some ((.nx,[x0,.ref (.s 17),.ref (.s 19),x3,.ref (.s 20),x5,cu a]),⟨h',t⟩)/\Jc h h' n (ju l pl r)/\(∀j,t<=j->h'.g j=.free)/\n<=t/\t<=n+5:=by
 have A8:dF mM h (.str 8) (.ref (.s 2))=some true:=by unfold dF;simp only[q2,z];rfl
 have A9:dF mM h (.str 9) (.ref (.s 2))=some true:=by unfold dF;simp only[q2,z];rfl
 have af:dF mM h (.str 10) (.ref (.s 2))=some true:=by unfold dF;simp only[q2,z];rfl
 have A3:dF mM h (.str 3) (.ref (.s 2))=some false:=by unfold dF;simp only[q2,z];rfl
 have A4:dF mM h (.str 4) (.ref (.s 2))=some false:=by unfold dF;simp only[q2,z];rfl
 have A5:dF mM h (.str 5) (.ref (.s 2))=some false:=by unfold dF;simp only[q2,z];rfl
 have ag:dF mM h (.str 25) (.ref (.s 2))=some false:=by unfold dF;simp only[q2,z];rfl
 have B8:∀n,hQ mM (.ref (.s 2)) (.str 8) ⟨h,n⟩=some (.int (.l 1),⟨h,n⟩):=fun n=>by rw[nR,q2,z];rfl
 have B9:∀n,hQ mM (.ref (.s 2)) (.str 9) ⟨h,n⟩=some (.int (.l 1),⟨h,n⟩):=fun n=>by rw[nR,q2,z];rfl
 have ah:∀n,hQ mM (.ref (.s 2)) (.str 10) ⟨h,n⟩=some (.int (.l 2),⟨h,n⟩):=fun n=>by rw[nR,q2,z];rfl
 obtain⟨O,I⟩:=hS;obtain⟨rk,d,firm⟩:=r;simp only at W Z O I;have q1:=Ob d hd;cases rk with
 |sl i=>have aa:=Z i rfl;rw[oJ aa]at W;have q2:=Oc d ho;rw[W]at q2;refine⟨h,n,?_,⟨K,h.g,by show h={h with pr:=.dict (eK pl) K};rw[←p],fun _ _=>rfl⟩,o,ez _,by omega⟩;clear hd p ho z W q1;unfold dE fV pH cu;simp only[bW];simp only[Rk.op,Rk.args,Rk.more_q,bR,Op.v,gf,m8]at O I;walk_at "k36"
 |lo x w sg=>
  obtain⟨J,t,q,S,U⟩:=v7 {h with g:=fun j=>if j=n then .list (bR [])else h.g j} (n+1) k n [] l e pl K (df rfl) hd p (by simp;omega);dsimp only at q;simp only[cT,cQ]at S U;refine⟨_,t,?_,⟨J,fun j=>if j=n then .list (bR [])else h.g j,rfl,fun j Y=>bL (by omega)⟩,fun j Y=>(bL (by omega)).trans (o j (by omega)),by omega,by omega⟩;clear hd p ho z;unfold dE fV pH cu;simp only[bW];simp only[Rk.op,Rk.args,Rk.more_q,bR,Op.v,gf,m8]at O I q;have f0:=o n (ez _);walk_at "k36"
  all_goals rfl
 |st x y w=>
  obtain⟨J,t,q,S,U⟩:=v7 {h with g:=fun j=>if j=n then .list (bR [.r y])else h.g j} (n+1) k n [.r y] l e pl K (df rfl) hd p (by simp;omega);dsimp only at q;simp only[cT,cQ]at S U;refine⟨_,t,?_,⟨J,fun j=>if j=n then .list (bR [.r y])else h.g j,rfl,fun j Y=>bL (by omega)⟩,fun j Y=>(bL (by omega)).trans (o j (by omega)),by omega,by omega⟩;clear hd p ho z;unfold dE fV pH cu;simp only[bW];simp only[Rk.op,Rk.args,Rk.more_q,bR,Op.v,gf,m8]at O I q;have f0:=o n (ez _);walk_at "k36"
  all_goals rfl
 |mo x y w=>
  obtain⟨J,t,q,S,U⟩:=v7 {h with g:=fun j=>if j=n then .list (bR [])else h.g j} (n+1) k n [] l e pl K (df rfl) hd p (by simp;omega);dsimp only at q;simp only[cT,cQ]at S U;refine⟨_,t,?_,⟨J,fun j=>if j=n then .list (bR [])else h.g j,rfl,fun j Y=>bL (by omega)⟩,fun j Y=>(bL (by omega)).trans (o j (by omega)),by omega,by omega⟩;clear hd p ho z;unfold dE fV pH cu;simp only[bW];simp only[Rk.op,Rk.args,Rk.more_q,bR,Op.v,gf,m8]at O I q;have f0:=o n (ez _);walk_at "k36"
  all_goals rfl
 |na s0 c0=>
  cases hl:l.lookup d with
  |some _=>
   rw[hl]at q1;replace q1:dF mM h (.int (.l d)) (.ref (.s 20))=some true:=q1;have B:ju l pl ⟨.na s0 c0,d,firm⟩=pl:=by unfold ju;simp only[hl];rfl
   refine⟨h,n,?_,⟨K,h.g,by rw[B,←p],fun _ _=>rfl⟩,o,ez _,by omega⟩;clear hd p ho z B;unfold dE fV pH cu;simp only[bW];simp only[Rk.op,Rk.args,Rk.more_q,bR,Op.v,gf,m8]at O I;walk_at "k36"
  |none=>
   rw[hl]at q1;replace q1:dF mM h (.int (.l d)) (.ref (.s 20))=some false:=q1;have B:ju l pl ⟨.na s0 c0,d,firm⟩=([]:List Op).foldl (iK l) pl:=by unfold ju;simp only[hl];rfl
   obtain⟨J,t,q,S,U⟩:=v7 h n k b [] l e pl K I hd p (by simp;omega);simp only[cT,cQ]at S U;refine⟨{h with pr:=.dict (eK (([]:List Op).foldl (iK l) pl)) J},t,?_,⟨J,h.g,by rw[B],fun _ _=>rfl⟩,fun j Y=>o j (by omega),by omega,by omega⟩;clear hd p ho z B;unfold dE fV pH cu;simp only[bW];simp only[Rk.op,Rk.args,Rk.more_q,bR,Op.v,gf,m8]at O I;walk_at "k36"
   all_goals rfl
 |ad x c=>
  cases hl:l.lookup d with
  |some _=>
   rw[hl]at q1;replace q1:dF mM h (.int (.l d)) (.ref (.s 20))=some true:=q1;have B:ju l pl ⟨.ad x c,d,firm⟩=pl:=by unfold ju;simp only[hl];rfl
   refine⟨h,n,?_,⟨K,h.g,by rw[B,←p],fun _ _=>rfl⟩,o,ez _,by omega⟩;clear hd p ho z B;unfold dE fV pH cu;simp only[bW];simp only[Rk.op,Rk.args,Rk.more_q,bR,Op.v,gf,m8]at O I;walk_at "k36"
  |none=>
   rw[hl]at q1;replace q1:dF mM h (.int (.l d)) (.ref (.s 20))=some false:=q1;have B:ju l pl ⟨.ad x c,d,firm⟩=([.r x,.k c]:List Op).foldl (iK l) pl:=by unfold ju;simp only[hl];rfl
   obtain⟨J,t,q,S,U⟩:=v7 h n k b [.r x,.k c] l e pl K I hd p (by simp;omega);simp only[cT,cQ]at S U;refine⟨{h with pr:=.dict (eK (([.r x,.k c]:List Op).foldl (iK l) pl)) J},t,?_,⟨J,h.g,by rw[B],fun _ _=>rfl⟩,fun j Y=>o j (by omega),by omega,by omega⟩;clear hd p ho z B;unfold dE fV pH cu;simp only[bW];simp only[Rk.op,Rk.args,Rk.more_q,bR,Op.v,gf,m8]at O I;walk_at "k36"
   all_goals rfl
 |ca x=>
  cases hl:l.lookup d with
  |some _=>
   rw[hl]at q1;replace q1:dF mM h (.int (.l d)) (.ref (.s 20))=some true:=q1;have B:ju l pl ⟨.ca x,d,firm⟩=pl:=by unfold ju;simp only[hl];rfl
   refine⟨h,n,?_,⟨K,h.g,by rw[B,←p],fun _ _=>rfl⟩,o,ez _,by omega⟩;clear hd p ho z B;unfold dE fV pH cu;simp only[bW];simp only[Rk.op,Rk.args,Rk.more_q,bR,Op.v,gf,m8]at O I;walk_at "k36"
  |none=>
   rw[hl]at q1;replace q1:dF mM h (.int (.l d)) (.ref (.s 20))=some false:=q1;have B:ju l pl ⟨.ca x,d,firm⟩=([.r x]:List Op).foldl (iK l) pl:=by unfold ju;simp only[hl];rfl
   obtain⟨J,t,q,S,U⟩:=v7 h n k b [.r x] l e pl K I hd p (by simp;omega);simp only[cT,cQ]at S U;refine⟨{h with pr:=.dict (eK (([.r x]:List Op).foldl (iK l) pl)) J},t,?_,⟨J,h.g,by rw[B],fun _ _=>rfl⟩,fun j Y=>o j (by omega),by omega,by omega⟩;clear hd p ho z B;unfold dE fV pH cu;simp only[bW];simp only[Rk.op,Rk.args,Rk.more_q,bR,Op.v,gf,m8]at O I;walk_at "k36"
   all_goals rfl
theorem abh(a b:V):range [.int (.l (([a,b]:List V).length:Int))]=some [.int (.l 0),.int (.l 1)]:=by
 show(bif small 2 then some (qV 0 2)else none)=_
 rw[show small 2=true by decide];rfl
theorem UM(h:Hp)(n k S:Nat)(As:List Nat)(bf:List cq)(e1 e e2:Nat)(pl:List (Int×Unit))(z B I:V)(ht:h.t=pO)(hS:h.g S=.list (As.map cu))(U:S<n)(O:vB h.g As bf n)(ho:h.on=.dict (eK (iL bf)) e1)(hd:h.ho=.dict (jX (gA bf)) e)(W:h.pr=.dict (eK pl) e2)
  (Y:∀r∈bf,∀i,r.k=.sl i->0<=r.d) (y:∀j,n<=j->h.g j=.free) (hn:n+5*bf.length+10<bu):
  ∃h' o p,eU mM (.li (.g S)) (dE mM (.nm 6) (cy mM (bH mM (k+1)) pH)) (As.length+1) 0 [z,.ref (.s 17),.ref (.s 19),B,.ref (.s 20),I,.no] ⟨h,n⟩=some ((.nx,[z,.ref (.s 17),.ref (.s 19),B,.ref (.s 20),I,p]),⟨h',o⟩)/\Jc h h' n (bf.foldl (ju (gA bf)) pl)/\(∀j,o<=j->h'.g j=.free)/\n<=o/\o<=n+5*bf.length:=by
 obtain⟨Z,s',q1,p,h1,t,x,J,K⟩:=xF (dE mM (.nm 6) (cy mM (bH mM (k+1)) pH)) (.g S) (As.map cu)
  (fun i Z s=>∃p,Z=[z,.ref (.s 17),.ref (.s 19),B,.ref (.s 20),I,p]/\Jc h s.h n ((bf.take i).foldl (ju (gA bf)) pl)/\(∀j,s.nx<=j->s.h.g j=.free)/\n<=s.nx/\s.nx<=n+5*i)
  (fun i l s ⟨p,_,⟨e,g,t,x⟩,_⟩=>by rw[t];exact(x S U).trans hS)
  (fun i v Z s hv ⟨p,h1,⟨e3,g,t,x⟩,J,K,h6⟩=>by
   obtain⟨a,r,b0,rfl,ha,hr,_⟩:=(O.at (fun _ _=>rfl)).get hv;obtain⟨b,hs,aa,ab⟩:=O.2 i a r ha hr;obtain⟨sh,sn⟩:=s;simp only at t J K h6;subst h1;subst t;have ae:i<bf.length:=(lK.mp hr).1;have hm:=iw hr;obtain⟨h',o,q,⟨e4,g4,rfl,w2⟩,w3,w4,w5⟩:=VR {h with pr:=.dict (eK ((bf.take i).foldl (ju (gA bf)) pl)) e3,g:=g} sn k a b r (iL bf) e1 (gA bf) e ((bf.take i).foldl (ju (gA bf)) pl) e3 z B I p ht ⟨(x a aa).trans hs.1,(x b ab).trans hs.2⟩ (by omega) (by omega) ho (Hr hm) (Y r hm) hd rfl J (by omega);refine⟨_,_,q,cu a,rfl,⟨e4,g4,?_,fun j hj=>(w2 j (by omega)).trans (x j hj)⟩,w3,by show n<=o;omega,by show o<=n+5*(i+1);omega⟩
   rw[take_succ hr,vI];rfl)
  As.length 0 [z,.ref (.s 17),.ref (.s 19),B,.ref (.s 20),I,.no] ⟨h,n⟩ (by simp) ⟨.no,rfl,⟨e2,h.g,by show h=_;rw[List.take_zero,List.foldl_nil,←W],fun _ _=>rfl⟩,y,ez _,ez _⟩
 obtain⟨sh,sn⟩:=s';simp only at t x J K;subst h1;rw[oK,O.1]at K;rw[oK,O.1,vU]at t;refine⟨sh,sn,p,?_,t,x,J,K⟩;exact q1
def BI(bf:List cq):List (Int×Unit):=iK (gA bf) (bf.foldl (ju (gA bf)) [(0,()),(1,())]) (.r 1)
theorem abi(k:Nat)(as:List V)(h:Hp)(n:Nat):bH mM (k+1) 16 as ⟨h,n⟩=enter mM (bH mM k) ⟨2,7,[.as 2 (.d0 (some 19)),.fo (.nm 3) (.rg [.cb 0 [.at (.l 0) 12]]) [.ai (.l 2) (.l 3) (.c (.bool true))],
 .if (.cm .eq (.l 2) (.d0 .none)) [.rt (.l 2)] [],.as 4 (.cf 14 [.l 0,.l 1]),.fo (.nm 5) (.ex (.at (.l 0) 13)) [.fo (.nm 6) (.ex (.at (.l 5) 7)) pH,.ex (.cf 15 [.at (.at (.l 5) 8) 2,.l 4,.l 2])],.rt (.l 2)]⟩ as ⟨h,n⟩:=rfl
local macro_rules |`(tactic|walk_at "k37")=>`(tactic|simp(disch:=walk_at "k21")only[el,ff,iH,fp,eM,fY,oP,jk,fS,iI,eZ,eF,gz,fG,Ef,lP,ky,eN,eO,rQ,Zi,fN,eQ,fC,fA,fe,gw,ij,gQ,jf,bA,bW,fill,fb,eY, *,fld,E3,Pq,q1,qg,iA,HP,oU,yg,AI,cQ,abh])
theorem Xl(h:Hp)(n k F Pm z Bk bl S E be:Nat)(As:List Nat)(bf:List cq)(e1:Nat)(ht:h.t=pO)(hF:FnAt h.g F Pm z Bk bl S E As)(hE:h.g E=rR be)(aa:h.g be=.list (bR [.r 1]))(ab:F<n/\Pm<n/\z<n/\Bk<n/\bl<n/\S<n)(ai:E<n/\be<n)(B:vB h.g As bf n)(ho:h.on=.dict (eK (iL bf)) e1)(I:h.pr=.free)(J:h.ho=.free)(hd:vP bf)
  (ae:∀r∈bf,∀i,r.k=.sl i->0<=r.d) (hl:bf.length<100) (o:∀j,n<=j->h.g j=.free) (hn:n+2000<bu):
  ∃g eh ep x,bH mM (k+6) 16 [.ref (.g F),.ref (.s 17)] ⟨h,n⟩=some (.ref (.s 19),⟨{h with pr:=.dict (eK (BI bf)) ep,ho:=.dict (jX (gA bf)) eh,g:=g},x⟩)/\(∀j,j<n->g j=h.g j)/\(∀j,x<=j->g j=.free)/\n<=x/\x<=n+1000:=by
 obtain⟨o1,o2,o3,o4,o5,o6⟩:=ab;have f0:=o (n+3) (by omega)
 let K:Nat->O:=fun j=>if j=n+3 then .dict [] 0 else h.g j
 have e:∀j,j<n+3->K j=h.g j:=fun j t=>bL (by omega)
 obtain⟨U,y,af,q1,q2,q3,q4,q5⟩:=ZF {h with pr:=.dict (eK [(0,()),(1,())]) 2,g:=K} (n+4) k F Pm z Bk bl S E be As bf e1 (hF.same (n:=n) (fun j t=>e j (by omega)) ⟨o1,o2,o3,o4,o5,o6⟩) ((e E (by omega)).trans hE) ⟨by omega,by omega,by omega,by omega,by omega,by omega⟩ (by omega)
  ⟨B.1,fun i a r ha hr=>let⟨b,W,w2,w3⟩:=B.2 i a r ha hr;⟨b,⟨(e a (by omega)).trans W.1,(e b (by omega)).trans W.2⟩,by omega,by omega⟩⟩ ho J hd hl (fun j t=>(bL (by omega)).trans (o j (by omega))) (by omega)
 dsimp only at q1 q2;have p:∀j,j<n+3->U j=h.g j:=fun j t=>(q2 j (by omega)).trans (e j t)
 have Y:FnAt U F Pm z Bk bl S E As:=hF.same (n:=n) (fun j t=>p j (by omega)) ⟨o1,o2,o3,o4,o5,o6⟩;obtain⟨h2,ag,x6,r1,⟨e4,Z,rfl,r2⟩,r3,r4,r5⟩:=UM {h with pr:=.dict (eK [(0,()),(1,())]) 2,ho:=.dict (jX (gA bf)) y,g:=U} af (k+4) S As bf e1 y 2 [(0,()),(1,())] (.ref (.g F)) (.int (.l 1)) (.ref (.g bl)) ht Y.st (by omega)
  ⟨B.1,fun i a r ha hr=>let⟨b,W,w2,w3⟩:=B.2 i a r ha hr;⟨b,⟨(p a (by omega)).trans W.1,(p b (by omega)).trans W.2⟩,by omega,by omega⟩⟩ ho rfl rfl ae q3 (by omega)
 dsimp only at r1 r2 r3;have q:∀j,j<n+3->Z j=h.g j:=fun j t=>(r2 j (by omega)).trans (p j t)
 obtain⟨e5,cH,t1,t2,t3⟩:=v7 {h with pr:=.dict (eK (bf.foldl (ju (gA bf)) [(0,()),(1,())])) e4,ho:=.dict (jX (gA bf)) y,g:=Z} ag (k+4) be [.r 1] (gA bf) y _ e4 ((q be (by omega)).trans aa) rfl rfl (by simp;omega);dsimp only at t1;simp only[cT,cQ]at t3;refine⟨Z,y,e5,cH,?_,fun j t=>q j (by omega),fun j t=>r3 j (by omega),by omega,by omega⟩;have ah:FnAt Z F Pm z Bk bl S E As:=hF.same (n:=n) (fun j t=>q j (by omega)) ⟨o1,o2,o3,o4,o5,o6⟩;have O0:mM.get h (.s 19)=.free:=I;obtain⟨a1,a2,a3,a4,a5,a6⟩:=hF;obtain⟨b1,b2,b3,b4,b5,b6⟩:=Y;obtain⟨d1,d2,d3,d4,d5,d6⟩:=ah;have p0:=wB ({h with pr:=.dict [] 0}:Hp) (n+1) (.s 19) ([]:List (Int×Unit)) 0 0 () (f:=fun _=>.bool true) rfl rfl (by decide) rfl (by omega);have p1:=wB ({h with pr:=.dict (eK [(0,())]) 1}:Hp) (n+2) (.s 19) [(0,())] 1 1 () (f:=fun _=>.bool true) rfl rfl (by decide) rfl (by omega);rw[Pq]at p0 p1;simp only[eY,fb,Nat.zero_add,Nat.reduceAdd]at p0 p1;have ge:K (n+3)=.dict [] 0:=df rfl;have qe:kV mM ({h with pr:=.dict (eK [(0,()),(1,())]) 2,g:=K}:Hp) (.ref (.s 19)) (.ref (.g (n+3)))=some false:=by unfold kV;simp only[E3,qg,ge];rfl
 have c1:count mM (.li (.g Bk)) ({h with pr:=.dict (eK [(0,()),(1,())]) 2,ho:=.dict (jX (gA bf)) y,g:=U}:Hp)=1:=ro (xs:=[cu bl]) _ b4;have c3:count mM (.li (.g S)) ({h with pr:=.dict (eK [(0,()),(1,())]) 2,ho:=.dict (jX (gA bf)) y,g:=U}:Hp)=As.length:=(ro (xs:=As.map cu) _ b6).trans (by simp);have aj:Z E=rR be:=(q E (by omega)).trans hE;unfold cu at a4 b4 d4;clear p q q2 r2 e I J ho ht B;rw[abi];walk_at "k37";rw[mK];walk_at "k37";simp only[count,cT,cQ,Nat.zero_add,Nat.reduceAdd,eU,hX,bA,dE,fV,bW];walk_at "k37";rw[show(fun j=>if j=n+3 then O.dict [] 0 else h.g j)=K from rfl];rw[show n+2+1+1=n+4 from rfl,show n+2+1=n+3 from rfl];walk_at "k37";rw[mK];walk_at "k37";simp only[Nat.reduceAdd,eU,hX,qg,b4,bA,dE,fV,bW];walk_at "k37";rw[mK];walk_at "k37";rfl
theorem ZG:mM.P.eE 4 18=true:=rfl
theorem ZH:mM.P.eE 4 19=true:=rfl
theorem ZI:mM.P.eE 4 20=true:=rfl
theorem ZJ:mM.P.eE 4 21=true:=rfl
theorem ZK:mM.P.eE 4 22=true:=rfl
theorem ZL:mM.P.eE 4 23=true:=rfl
theorem ZM:mM.P.eE 4 24=true:=rfl
theorem ZN:mM.P.eE 4 25=true:=rfl
theorem ZO:mM.P.eE 4 26=true:=rfl
theorem ZP:mM.P.eE 4 27=true:=rfl
theorem ZQ:mM.P.eE 4 28=true:=rfl
theorem ZR:mM.P.eE 4 29=true:=rfl
theorem ZS:mM.P.eE 4 30=true:=rfl
theorem ZT:mM.P.eE 4 31=true:=rfl
theorem abj:mM.P.rp 4=some 20:=rfl
theorem abk(h:Hp)(n:Nat)(o:O)(hf:h.nb=.free)(e:n<bu):new mM (some 16) o ⟨h,n⟩=some (.ref (.s 16),⟨{h with nb:=o},n+1⟩):=rL mM h n 16 o hf rfl rfl e
theorem abl(h:Hp)(n:Nat)(o:O)(hf:h.st=.free)(e:n<bu):new mM (some 21) o ⟨h,n⟩=some (.ref (.s 21),⟨{h with st:=o},n+1⟩):=rL mM h n 21 o hf rfl rfl e
theorem abm(h:Hp)(n:Nat)(o:O)(hf:h.lo=.free)(e:n<bu):new mM (some 22) o ⟨h,n⟩=some (.ref (.s 22),⟨{h with lo:=o},n+1⟩):=rL mM h n 22 o hf rfl rfl e
theorem abn(h:Hp)(n:Nat)(o:O)(hf:h.ce=.free)(e:n<bu):new mM (some 23) o ⟨h,n⟩=some (.ref (.s 23),⟨{h with ce:=o},n+1⟩):=rL mM h n 23 o hf rfl rfl e
theorem abo(h:Hp)(n:Nat)(o:O)(hf:h.pl=.free)(e:n<bu):new mM (some 24) o ⟨h,n⟩=some (.ref (.s 24),⟨{h with pl:=o},n+1⟩):=rL mM h n 24 o hf rfl rfl e
theorem abp(h:Hp)(n:Nat)(o:O)(hf:h.fo=.free)(e:n<bu):new mM (some 25) o ⟨h,n⟩=some (.ref (.s 25),⟨{h with fo:=o},n+1⟩):=rL mM h n 25 o hf rfl rfl e
theorem abq(h:Hp)(n:Nat)(o:O)(hf:h.ex=.free)(e:n<bu):new mM (some 26) o ⟨h,n⟩=some (.ref (.s 26),⟨{h with ex:=o},n+1⟩):=rL mM h n 26 o hf rfl rfl e
theorem abr(h:Hp)(n:Nat)(o:O)(hf:h.hd=.free)(e:n<bu):new mM (some 27) o ⟨h,n⟩=some (.ref (.s 27),⟨{h with hd:=o},n+1⟩):=rL mM h n 27 o hf rfl rfl e
theorem abt(h:Hp)(n:Nat)(o:O)(hf:h.sa=.free)(e:n<bu):new mM (some 28) o ⟨h,n⟩=some (.ref (.s 28),⟨{h with sa:=o},n+1⟩):=rL mM h n 28 o hf rfl rfl e
theorem abu(h:Hp)(n:Nat)(o:O)(hf:h.lg=.free)(e:n<bu):new mM (some 29) o ⟨h,n⟩=some (.ref (.s 29),⟨{h with lg:=o},n+1⟩):=rL mM h n 29 o hf rfl rfl e
theorem abv(h:Hp)(n:Nat)(o:O)(e:n<bu):upd mM (.s 16) o ⟨h,n⟩=some ((),⟨{h with nb:=o},n+1⟩):=qu mM h n o rfl rfl e
local macro_rules |`(tactic|walk_at "k38")=>`(tactic|simp(disch:=walk_at "k21")only[el,ff,fp,eM,rl,eZ,eF,gz,nh,Ef,lP,eN,eO,eQ,gQ,oF,bA,fb,eY,fX, *,fld,put,lp,Ae,q16,q1,oU,sQ,lq,cQ,ZG,ZH,ZI,ZJ,ZK,ZL,ZM,ZN,ZO,ZP,ZQ,ZR,ZS,ZT,Af,abj,abk,abl,abm,abn,abo,abp,abq,abr,abt,abu,abv,c20,zh])
structure rX(h:Hp):Prop where
 nb:h.nb=.free
 on:h.on=.free
 mo:h.mo=.free
 pr:h.pr=.free
 ho:h.ho=.free
 st:h.st=.free
 lo:h.lo=.free
 ce:h.ce=.free
 pl:h.pl=.free
 fo:h.fo=.free
 ex:h.ex=.free
 hd:h.hd=.free
 sa:h.sa=.free
 lg:h.lg=.free
 t:h.t=pO
theorem VS(h:Hp)(n k F Pm J Bk bl S E be:Nat)(As:List Nat)(bf:List cq)(hB:rX h)(K:FnAt h.g F Pm J Bk bl S E As)(U:h.g E=rR be)(p:h.g be=.list (bR [.r 1]))(W:F<n/\Pm<n/\J<n/\Bk<n/\bl<n/\S<n)(ae:E<n/\be<n)(q:vB h.g As bf n)(hd:vP bf)
  (Y:∀r∈bf,∀i,r.k=.sl i->0<=r.d) (hl:bf.length<100) (e:∀j,n<=j->h.g j=.free) (hn:n+3000<bu):
  ∃N o,make mM (bH mM (k+7)) 4 (some 16) [.ref (.g F)] ⟨h,n⟩=some (bP,⟨hh N,o⟩)/\N.fn=.ref (.g F)/\N.n=0/\N.on=iL bf/\N.pr=BI bf/\N.st=[]/\N.ce=[]/\N.pl=[]/\N.fo=[]/\N.ex=[]/\N.hd=[]/\N.lg=[]/\(∀j,j<n->N.g j=h.g j)/\(∀j,o<=j->N.g j=.free)/\n<=o/\o<=n+1500:=by
 obtain⟨o1,o2,o3,o4,o5,o6⟩:=W;obtain⟨z1,z2,z3,z4,z5,z6,z7,z8,z9,t,x,y,z,B,I⟩:=hB;obtain⟨af,ag,ah,ai,aj,ak,al,am,an,ao,ap,aq,ar,au,ht,hg⟩:=h;simp only at z1 z2 z3 z4 z5 z6 z7 z8 z9 t x y z B I K U p q e;subst z1 z2 z3 z4 z5 z6 z7 z8 z9 t x y z B I;obtain⟨Z,aa,q1,q2,q3⟩:=Zy ⟨.inst 4 [(18,.ref (.g F))],.free,.free,.free,.free,.free,.free,.free,.free,.free,.free,.free,.free,.free,pO,hg⟩ (n+2) (k+5) F Pm J Bk bl S E As bf K (q.at fun _ _=>rfl) rfl rfl hd hl (by omega);dsimp only at q1;obtain⟨g2,eh,ep,ab,w1,O,w3,w4,w5⟩:=Xl ⟨.inst 4 [(18,.ref (.g F)),(19,.ref (.s 17))],.dict (eK (iL bf)) Z,.dict [] 0,.free,.free,.free,.free,.free,.free,.free,.free,.free,.free,.free,pO,hg⟩ (aa+1) k F Pm J Bk bl S E be As bf Z rfl K U p ⟨by omega,by omega,by omega,by omega,by omega,by omega⟩ ⟨by omega,by omega⟩
  ⟨q.1,fun i a r ha hr=>let⟨b,w1,O,w3⟩:=q.2 i a r ha hr;⟨b,w1,by omega,by omega⟩⟩ rfl rfl rfl hd Y hl (fun j hj=>e j (by omega)) (by omega)
 dsimp only at w1 O;refine⟨⟨.ref (.g F),0,false,iL bf,Z,.dict [] 0,BI bf,ep,.dict (jX (gA bf)) eh,[],0,[],0,[],0,[],0,[],0,[],0,[],g2⟩,ab+21,?_,rfl,rfl,rfl,rfl,rfl,rfl,rfl,rfl,rfl,rfl,rfl,fun j hj=>O j (by omega),fun j hj=>w3 j (by omega),by omega,by omega⟩;clear K U p q e O w3;walk_at "k38";rfl
theorem Od:mM.P.eE 2 9=true:=rfl
theorem Nh:mM.P.eE 2 10=true:=rfl
theorem Ni:mM.P.eE 2 11=true:=rfl
theorem Nj:mM.P.eE 2 12=true:=rfl
theorem Nk:mM.P.eE 2 13=true:=rfl
theorem Nl:mM.P.eE 2 14=true:=rfl
theorem Nn:mM.P.eE 2 15=true:=rfl
theorem Oe:mM.P.eE 1 6=true:=rfl
theorem Of:mM.P.eE 1 8=true:=rfl
theorem Iz:mM.P.eE 0 1=true:=rfl
theorem IA:mM.P.eE 0 5=true:=rfl
theorem IB:mM.P.rp 0=some 1:=rfl
theorem Og:mM.P.rp 1=some 2:=rfl
theorem Oh:mM.P.rp 2=some 3:=rfl
theorem Ep(h:Hp)(n:Nat)(a:Ad):builtin mM 1 [.ref a] ⟨h,n⟩=match mM.get h a with
  |.list l=>new mM .none (.list l) ⟨h,n⟩
  |.dict es _=>new mM .none (.list (es.map (·.1))) ⟨h,n⟩
  |_=>.none:=rfl
local macro_rules |`(tactic|walk_at "k39")=>`(tactic|simp(disch:=walk_at "k21")only[el,ff,fp,eM,fY,rl,jk,eZ,eF,gz,uW,ky,ig,eN,eO,fN,rd,jh,eQ,HH,gQ,oF,bA,bW,fb,eY,fX, *,nZ,cL,yp,uZ,yq,Iw,fld,put,lp,sV,Ae,qg,iA,oU,sQ,tP,yF,v5,lq,cQ,sJ,HR,vQ,Af,IB,c1,vy,Iz,IA,Ep])
def cq.v(r:cq)(a:Ad):V:=.tup [.str r.k.op,.int (.l r.d),.ref a,r.k.more_q,.bool r.firm]
def Aj:List S:=[.as 11 (.ck 0 .none [.l 6,.l 7,.cb 1 [.l 8],.l 9]),.aa (.l 11) 4 (.l 10),.ex (.me (.at (.l 5) 7) 0 [.l 11])]
def Ba:Tg:=.tp [.nm 6,.nm 7,.nm 8,.nm 9,.nm 10]
theorem VT(k:Rk):k.more_q≠ .no:=by cases k<;>simp[Rk.more_q]
theorem VU(h:Hp)(n k bl S:Nat)(r:cq)(a:Ad)(y z B I J U W Y Z t x p q:V)(xs:List V)(num e8:V)(ab:h.g bl=.inst 1 [(6,num),(7,.ref (.g S)),(8,e8)])(hS:h.g S=.list xs)(ae:xs.length<100)(af:S<n)(ag:bl<n)(ha:mM.get h a=.list (bR r.k.args))(e:∀j,n<=j->h.g j=.free)(hn:n+20<bu):
  ∃g,dE mM Ba (cy mM (bH mM (k+1)) Aj) (r.v a) [y,z,B,I,J,.ref (.g bl),U,W,Y,Z,t,x,p,q] ⟨h,n⟩=
   some ((.nx,[y,z,B,I,J,.ref (.g bl),.str r.k.op,.int (.l r.d),.ref a,r.k.more_q,.bool r.firm,.ref (.g (n+1)),p,q]),⟨{h with g:=g},n+10⟩)/\g S=.list (xs++[cu (n+1)])/\qm g (n+1) n r/\(∀j,j<n->j≠S->g j=h.g j)/\(∀j,n+10<=j->g j=.free):=by
 have K:(200:Nat)<bu:=by decide
 have f0:=e n (ez _);have f1:=e (n+1) (by omega);have O:=VT r.k;obtain⟨o,d,firm⟩:=r;simp only at ha O;refine⟨fun j=>if j=S then .list (xs++[cu (n+1)])else if j=n+1 then da o.op d n o.more_q firm else if j=n then .list (bR o.args)else h.g j,?_,df rfl,⟨?_,?_⟩,fun j h1 h2=>?_,fun j h1=>?_⟩
 ·unfold dE Ba cq.v Aj cu;simp only[fV,rI,nZ,bW];generalize ah:o.more_q=mo at O⊢;generalize ai:o.op=oo;generalize aj:bR o.args=aa at ha⊢;walk_at "k39"
 ·show(if n+1=S then _ else if n+1=n+1 then _ else _)=_
  rw[bL (by omega),df rfl]
 ·show(if n=S then _ else if n=n+1 then _ else if n=n then _ else _)=_
  rw[bL (by omega),bL (by omega),df rfl]
 ·simp[h2,show j≠n+1 by omega,show j≠n by omega]
 ·simp[show j≠S by omega,show j≠n+1 by omega,show j≠n by omega,e j (by omega)]
def jG(h:Hp)(bf:List cq)(e:List Ad):Prop:=e.length=bf.length/\∀(i:Nat)(r:cq) a,bf[i]?=some r->e[i]?=some a->mM.get h a=.list (bR r.k.args)
def fD(bf:List cq)(e:List Ad):List V:=List.zipWith cq.v bf e
theorem UN{bf:List cq}{e:List Ad}(hl:e.length=bf.length){i:Nat}{v:V}(h:bA (fD bf e) i=some v):∃r a,bf[i]?=some r/\e[i]?=some a/\v=r.v a:=by
 rw[pF,fD,List.getElem?_zipWith]at h;cases p:bf[i]? with
 |none=>rw[p]at h;cases h
 |some r=>cases q:e[i]? with|none=>have j:=(lK.mp p).1;have o:=xY.mp q;omega|some a=>rw[p,q]at h;exact⟨r,a,rfl,rfl,(nM h).symm⟩
theorem tl{bf:List cq}{e:List Ad}(hl:e.length=bf.length):(fD bf e).length=bf.length:=by unfold fD;rw[List.length_zipWith];omega
def lT(n m:Nat):List Nat:=(List.range m).map fun j=>n+10*j+1
theorem UO(n m:Nat):lT n (m+1)=lT n m++[n+10*m+1]:=by unfold lT;rw[List.range_succ,lJ];rfl
theorem Dk(n m:Nat):(lT n m).length=m:=by simp[lT]
theorem Xm{n m i a:Nat}(h:(lT n m)[i]?=some a):i<m/\a=n+10*i+1:=by unfold lT at h;rw[sL]at h;cases p:(List.range m)[i]? with|none=>rw[p]at h;cases h|some j=>rw[p]at h;obtain⟨e,o⟩:=lK.mp p;rw[List.length_range]at e;rw[List.getElem_range]at o;cases h;exact⟨e,by rw[o]⟩
structure Np(h:Hp)(n S:Nat)(bf:List cq)(m:Nat)(h':Hp):Prop where
 hp:∃g,h'={h with g:=g}
 st:h'.g S=.list ((lT n m).map cu)
 steps:∀(j:Nat) r,j<m->bf[j]?=some r->qm h'.g (n+10*j+1) (n+10*j) r
 old:∀j,j<n->j≠S->h'.g j=h.g j
 free:∀j,n+10*m<=j->h'.g j=.free
theorem VV(h:Hp)(n k bl S R:Nat)(bf:List cq)(y:List Ad)(Z x1 x2 x3 x4 t x:V)(num e8:V)(hR:h.g R=.list (fD bf y))(af:h.g bl=.inst 1 [(6,num),(7,.ref (.g S)),(8,e8)])(hS:h.g S=.list [])(z:R<n/\S<n/\bl<n)(ag:R≠S)(ah:bl≠S)
  (ha:jG h bf y) (eo:∀a∈y,∀i,a=.g i->i<n/\i≠S) (hl:bf.length<50) (I:∀j,n<=j->h.g j=.free) (hn:n+10*bf.length+50<bu):
  ∃J K O U o p h',eU mM (.li (.g R)) (dE mM Ba (cy mM (bH mM (k+1)) Aj)) (bf.length+1) 0 [Z,x1,x2,x3,x4,.ref (.g bl),.no,.no,.no,.no,.no,.no,t,x] ⟨h,n⟩=some ((.nx,[Z,x1,x2,x3,x4,.ref (.g bl),J,K,O,U,o,p,t,x]),⟨h',n+10*bf.length⟩)/\Np h n S bf bf.length h':=by
 obtain⟨o1,o2,o3⟩:=z;have aa:=tl ha.1;obtain⟨l',s',q,J,K,O,U,o,p,h1,Y,B⟩:=xF (dE mM Ba (cy mM (bH mM (k+1)) Aj)) (.g R) (fD bf y)
  (fun i l s=>∃J K O U o p,l=[Z,x1,x2,x3,x4,.ref (.g bl),J,K,O,U,o,p,t,x]/\s.nx=n+10*i/\Np h n S bf i s.h)
  (fun i l s ⟨_,_,_,_,_,_,_,_,B⟩=>(B.old R o1 ag).trans hR)
  (fun i v l s hv ⟨J,K,O,U,o,p,h1,Y,B⟩=>by
   obtain⟨r,a,hr,ab,rfl⟩:=UN ha.1 hv;obtain⟨sh,sn⟩:=s;simp only at Y B;subst h1;subst Y;have hi:i<bf.length:=(lK.mp hr).1;obtain⟨⟨g,rfl⟩,b2,b3,b4,b5⟩:=B;dsimp only at b2 b3 b4 b5;have ai:mM.get ({h with g:=g}:Hp) a=.list (bR r.k.args):=by
    have:=ha.2 i r a hr ab;cases a with
    |s j=>
     have e:mM.get ({h with g:=g}:Hp) (.s j)=mM.get h (.s j):=by
      show jI _ _=jI _ _
      unfold jI;split<;>first|rfl|(rename_i e;cases e)
     rw[e];exact this
    |g j=>obtain⟨c1,c2⟩:=eo _ (iw ab) j rfl;exact(b4 j c1 c2).trans this
   obtain⟨g',q,w1,w2,w3,w4⟩:=VU {h with g:=g} (n+10*i) k bl S r a Z x1 x2 x3 x4 J K O U o p t x ((lT n i).map cu) num e8 ((b4 bl o3 ah).trans af) b2 (by rw[oK,Dk];omega) (by omega) (by omega) ai b5 (by omega);refine⟨_,_,q,_,_,_,_,_,_,rfl,by show n+10*i+10=_;omega,⟨⟨g',rfl⟩,?_,fun j r' hj W=>?_,fun j hj ae=>(w3 j (by omega) ae).trans (b4 j hj ae),fun j hj=>w4 j (by omega)⟩⟩
   ·rw[UO,lJ];exact w1
   ·by_cases aj:j=i
    ·subst aj;rw[hr]at W;cases W;exact w2
    ·have z:j<i:=by omega
     obtain⟨c1,c2⟩:=b3 j r' z W
     exact⟨(w3 _ (by omega) (by omega)).trans c1,(w3 _ (by omega) (by omega)).trans c2⟩)
  bf.length 0 [Z,x1,x2,x3,x4,.ref (.g bl),.no,.no,.no,.no,.no,.no,t,x] ⟨h,n⟩ (by rw[aa];omega) ⟨_,_,_,_,_,_,rfl,rfl,⟨⟨h.g,rfl⟩,hS,fun j r hj=>by omega,fun _ _ _=>rfl,I⟩⟩
 obtain⟨sh,sn⟩:=s';rw[aa]at Y B;simp only at Y B;subst h1;subst Y;exact⟨J,K,O,U,o,p,sh,q,B⟩
local macro_rules |`(tactic|walk_at "k40")=>`(tactic|simp(disch:=walk_at "k21")only[el,ff,fp,eM,fY,rl,jk,eZ,eF,gz,gj,tR,iJ,nh,uW,ky,ig,eN,eO,rQ,fN,jh,iT,eQ,fe,kT,gQ,oF,bA,bW,fb,eY,fX, *,jV,mL,Ei,cL,yp,uZ,yq,Iw,fld,put,lp,sV,Ae,Iy,qg,iA,oU,sQ,yg,tP,yF,v5,u0,lq,cQ,sJ,HR,vQ,Af,IB,Og,Oh,c1,c2,c3,vy,xt,xu,Iz,IA,Oe,Of,Od,Nh,Ni,Nj,Nk,Nl,Nn,Ep])
theorem VW(h:Hp)(n k:Nat)(p:V)(rest:List S)(e:∀j,n<=j->h.g j=.free)(q:n+50<bu):
  ∃g,cy mM (bH mM (k+1)) (.as 1 (.ck 2 .none [.c (.str 28)])::.aa (.l 1) 10 (.li .none [.c (.int (.l 0)),.c (.int (.l 1)),.c (.int (.l 2))])::.aa (.l 1) 14 (.c (.int (.l 16)))::.aa (.l 1) 15 (.c (.bool true))::
    .aa (.l 1) 12 (.li .none [.tu [.c (.int (.l 8)),.c (.int (.l 4))],.tu [.c (.int (.l 8)),.c (.int (.l 4))]])::rest) [p,.no,.no,.no,.no,.no,.no,.no,.no,.no,.no,.no,.no,.no] ⟨h,n⟩=
   cy mM (bH mM (k+1)) rest [p,.ref (.g n),.no,.no,.no,.no,.no,.no,.no,.no,.no,.no,.no,.no] ⟨{h with g:=g},n+17⟩/\
   g n=t7 (n+11) (n+15) (n+7)/\g (n+11)=.list [.int (.l 0),.int (.l 1),.int (.l 2)]/\g (n+15)=vO/\g (n+7)=.list []/\(∀j,j<n->g j=h.g j)/\(∀j,n+17<=j->g j=.free):=by
 refine⟨fun j=>if j=n then t7 (n+11) (n+15) (n+7)else if j=n+15 then vO else if j=n+11 then .list [.int (.l 0),.int (.l 1),.int (.l 2)]else if j=n+7 then .list []else if j=n+5 then .list []else if j=n+2 then .list []else h.g j,?_,df rfl,?_,?_,?_,fun j o=>?_,fun j o=>?_⟩
 ·walk_at "k40"
 ·simp
 ·simp
 ·simp
 ·simp[show j≠n by omega,show j≠n+15 by omega,show j≠n+11 by omega,show j≠n+7 by omega,show j≠n+5 by omega,show j≠n+2 by omega]
 ·simp[show j≠n by omega,show j≠n+15 by omega,show j≠n+11 by omega,show j≠n+7 by omega,show j≠n+5 by omega,show j≠n+2 by omega,e j (by omega)]
abbrev rS:V:=.tup [.str 27,.ref (.s 9),.int (.l 0)]
def xI:List S:=[.as 5 (.ck 1 .none [.l 2]),.fo Ba (.ex (.l 3)) Aj,
 .aa (.l 5) 8 (.ck 0 .none [.ix (.l 4) (.c (.int (.l 0))),.ng (.c (.int (.l 1))),.cb 1 [.ix (.l 4) (.c (.int (.l 1)))],.ix (.l 4) (.c (.int (.l 2)))]),.ex (.me (.at (.l 1) 13) 0 [.l 5])]
theorem UP(h:Hp)(n F Pm Sl Bk R k:Nat)(bf:List cq)(x:List Ad)(p z B:V)(ht:h.t=pO)(hF:h.g F=t7 Pm Sl Bk)(I:h.g Bk=.list [])(hR:h.g R=.list (fD bf x))(ae:R<n/\F<n/\Bk<n)(ah:Bk≠R)
  (ha:jG h bf x) (eo:∀a∈x,∀i,a=.g i->i<n) (hl:bf.length<50) (o:∀j,n<=j->h.g j=.free) (hn:n+10*bf.length+100<bu):
  ∃g l',cy mM (bH mM (k+1)) xI [p,.ref (.g F),.int (.l 0),.ref (.g R),rS,.no,.no,.no,.no,.no,.no,.no,z,B] ⟨h,n⟩=some ((.nx,[p,.ref (.g F)]++l'),⟨{h with g:=g},n+15+10*bf.length⟩)/\(∃y2 y3 y4 y5 y6 y7 y8 y9 J K,l'=[y2,y3,y4,y5,y6,y7,y8,y9,J,K,z,B])/\
   g n=mQ (.int (.l 0)) (n+2) (n+6+10*bf.length)/\g (n+2)=.list ((lT (n+5) bf.length).map cu)/\g Bk=.list [cu n]/\g (n+6+10*bf.length)=rR (n+5+10*bf.length)/\g (n+5+10*bf.length)=.list (bR [.r 1])/\
   (∀(j:Nat) r,bf[j]?=some r->qm g (n+5+10*j+1) (n+5+10*j) r)/\(∀j,j<n->j≠Bk->g j=h.g j)/\(∀j,n+15+10*bf.length<=j->g j=.free):=by
 obtain⟨o1,o2,o3⟩:=ae;have ag:(100:Nat)<bu:=by decide
 let y:Nat->O:=fun j=>if j=n then .inst 1 [(6,.int (.l 0)),(7,.ref (.g (n+2))),(8,.none)]else if j=n+2 then .list []else h.g j
 have W:y n=.inst 1 [(6,.int (.l 0)),(7,.ref (.g (n+2))),(8,.none)]:=df rfl;have af:y (n+2)=.list []:=(bL (by omega)).trans (df rfl);have t:∀j,j<n->y j=h.g j:=fun j S=>(bL (by omega)).trans (bL (by omega))
 have Y:∀j,n+3<=j->y j=.free:=fun j S=>((bL (by omega)).trans (bL (by omega))).trans (o j (by omega))
 have aa:jG {h with g:=y} bf x:=⟨ha.1,fun i r a hr ab=>by
  have:=ha.2 i r a hr ab;cases a with
  |s j=>
   have e:mM.get ({h with g:=y}:Hp) (.s j)=mM.get h (.s j):=by
    show jI _ _=jI _ _
    unfold jI;split<;>first|rfl|(rename_i e;cases e)
   rw[e];exact this
  |g j=>exact(t j (eo _ (iw ab) j rfl)).trans this⟩
 obtain⟨y6,y7,y8,y9,J,K,h2,q,⟨⟨g2,rfl⟩,b2,b3,U,b5⟩⟩:=VV {h with g:=y} (n+5) k n (n+2) R bf x p (.ref (.g F)) (.int (.l 0)) (.ref (.g R)) rS z B (.int (.l 0)) .none ((t R o1).trans hR) W af ⟨by omega,by omega,by omega⟩ (by omega) (by omega) aa (fun a hm i e=>⟨by have:=eo a hm i e;omega,by have:=eo a hm i e;omega⟩) hl (fun j S=>Y j (by omega)) (by omega);dsimp only at q b2 b3 U b5;have k1:g2 n=.inst 1 [(6,.int (.l 0)),(7,.ref (.g (n+2))),(8,.none)]:=(U n (by omega) (by omega)).trans W;have k2:g2 F=t7 Pm Sl Bk:=(U F (by omega) (by omega)).trans ((t F o2).trans hF);have k3:g2 Bk=.list []:=(U Bk (by omega) (by omega)).trans ((t Bk o3).trans I);have f5:=b5 (n+5+10*bf.length) (ez _);have f6:=b5 (n+5+10*bf.length+1) (by omega);have c1:count mM (.li (.g R)) ({h with g:=y}:Hp)=bf.length:=(ro (xs:=fD bf x) _ ((t R o1).trans hR)).trans (tl ha.1);have ai:F≠Bk:=by rintro rfl;rw[hF]at I;cases I
 refine⟨fun j=>if j=Bk then .list [cu n]else if j=n then mQ (.int (.l 0)) (n+2) (n+6+10*bf.length)else if j=n+6+10*bf.length then rR (n+5+10*bf.length)else if j=n+5+10*bf.length then .list (bR [.r 1])else g2 j,
  [.int (.l 0),.ref (.g R),rS,.ref (.g n),y6,y7,y8,y9,J,K,z,B],?_,⟨_,_,_,_,_,_,_,_,_,_,rfl⟩,?_,?_,df rfl,?_,?_,fun j r hr=>?_,fun j S hb=>?_,fun j S=>?_⟩
 ·have s9:∀g:Nat->O,mM.get ({h with g:=g}:Hp) (.s 9)=.list [rv 1]:=fun g=>by show h.t 9=_;rw[ht];rfl
  have f0:=o n (ez _);have f2:=o (n+2) (by omega);have aj:y R=.list (fD bf x):=(t R o1).trans hR;clear b3 U b5 t Y ha aa eo o hF I ht;unfold xI;walk_at "k40";rw[show n+1+1+1+1+1=n+5 from rfl];rw[show(fun j=>if j=n then O.inst 1 [(6,V.int (Z.l 0)),(7,V.ref (Ad.g (n+1+1))),(8,V.none)]else if j=n+1+1 then O.list []else h.g j)=y from rfl];rw[mK];walk_at "k40";rw[show n+6+10*bf.length=n+5+10*bf.length+1 by omega,show n+15+10*bf.length=n+5+10*bf.length+1+1+1+1+1+1+1+1+1+1 by omega];rfl
 ·simp[show n≠Bk by omega]
 ·simp[show n+2≠Bk by omega,show n+2≠n+6+10*bf.length by omega,show n+2≠n+5+10*bf.length by omega,b2]
 ·simp[show n+6+10*bf.length≠Bk by omega,show n+6+10*bf.length≠n by omega]
 ·simp[show n+5+10*bf.length≠Bk by omega,show n+5+10*bf.length≠n by omega,show n+5+10*bf.length≠n+6+10*bf.length by omega]
 ·have S:j<bf.length:=(lK.mp hr).1;obtain⟨c1,c2⟩:=b3 j r S hr;exact⟨((bL (by omega)).trans ((bL (by omega)).trans ((bL (by omega)).trans (bL (by omega))))).trans c1,((bL (by omega)).trans ((bL (by omega)).trans ((bL (by omega)).trans (bL (by omega))))).trans c2⟩
 ·simp[hb,show j≠n by omega,show j≠n+6+10*bf.length by omega,show j≠n+5+10*bf.length by omega,U j (by omega) (by omega),t j S]
 ·simp[show j≠Bk by omega,show j≠n by omega,show j≠n+6+10*bf.length by omega,show j≠n+5+10*bf.length by omega,b5 j (by omega)]
theorem d11:decide ((([cu 0]:List V).length:Int)=1)=true:=rfl
local macro_rules |`(tactic|walk_at "k41")=>`(tactic|simp(disch:=walk_at "k21")only[el,ff,iH,fp,eM,fY,jk,fS,iI,eZ,eF,gz,gj,fG,iJ,uW,ky,ig,eN,eO,fN,jh,eQ,fC,fA,fe,gw,ij,gQ,jf,bA,bW,fill,fb,eY, *,n31,jV,n4,wU,qA,fld,I9,m50])
theorem ZU{h:Hp}{n k F Pm o Bk bl S E e j:Nat}{As:List Nat}{N M:Ns}(x:make mM (bH mM (k+7)) 4 (some 16) [.ref (.g F)] ⟨h,n⟩=some (bP,⟨hh N,e⟩))(p:FnAt N.g F Pm o Bk bl S E As)
  (y:bH mM (k+7) 40 [bP,.ref (.g bl)] ⟨hh N,e⟩=some (.none,⟨hh M,j⟩)):bH mM (k+8) 45 [.ref (.g F)] ⟨h,n⟩=some (.bool M.ch,⟨hh M,j⟩):=by
 obtain⟨z,B,I,q,J,K⟩:=p;have t:decide (((([cu bl]:List V).length:Nat):Int)=1)=true:=rfl;unfold cu at q t;rw[c45];unfold zj;walk_at "k41"
theorem LH(j:V->L->St Hp->R Hp (Option V))(A:Ad)(fW:List V)(l:L)(I:Nat->List V->St Hp->Prop)(q:∀i acc s,I i acc s->mM.get s.h A=.list fW)(hl:∀i acc s,I i acc s->acc.length<bu)
  (step:∀i v acc s,bA fW i=some v->I i acc s->∃x p,j v l s=some (some x,p)/\I (i+1) (acc++[x]) p):∀(m i:Nat)(acc:List V)(s:St Hp),i+m=fW.length->I i acc s->∃e p,jU mM (.li A) j (m+1) i acc l s=some (e,p)/\I fW.length e p
 |0,i,acc,s,y,o=>by
  have B:bA fW i=none:=by rw[pF,xU (by omega)]
  refine⟨acc,s,?_,by rw[←y];exact o⟩;simp only[jU,hX,q i acc s o,B]
 |m+1,i,acc,s,y,o=>by
  have t:i<fW.length:=by omega
  have z:bA fW i=some fW[i]:=by rw[pF,qZ t]
  obtain⟨x,J,K,O⟩:=step i _ acc s z o;obtain⟨S,U,W,Y⟩:=LH j A fW l I q hl step m (i+1) (acc++[x]) J (by omega) O;refine⟨S,U,?_,Y⟩;rw[jU];simp only[hX,q i acc s o,z,K];rw[lq (hl i acc s o)];exact W
structure fH where
 op:Nat
 d:Int
 l:List Op
def Er(g:Nat->O)(a:Nat)(o:fH):Prop:=∃b more_q firm,g a=da o.op o.d b more_q firm/\g b=.list (bR o.l)
local macro_rules |`(tactic|walk_at "k42")=>`(tactic|simp(disch:=walk_at "k21")only[el,ff,iH,fp,eM,fY,jk,fS,iI,eZ,eF,gz,gj,fG,iJ,uW,ky,ig,eN,eO,fN,jh,eQ,fC,fA,fe,gw,ij,gQ,jf,bA,bW,fill,fb,eY, *,jV,n4,fld,qg,iA,oU,cQ,Ep])
def uL:E:=.tu [.at (.l 13) 0,.at (.l 13) 1,.cb 1 [.at (.l 13) 2]]
theorem Xn(h:Hp)(n k a:Nat)(o:fH)(x y z B I J K O S U e p q t:V)(ha:Er h.g a o)(hf:h.g n=.free)(W:n<bu):
  dE mM (.nm 13) (xQ mM none (b9 mM (bH mM k) uL)) (cu a) [x,y,z,B,I,J,K,O,S,U,e,p,q,t] ⟨h,n⟩=some (some (.tup [.str o.op,.int (.l o.d),cu n]),⟨{h with g:=fun j=>if j=n then .list (bR o.l)else h.g j},n+1⟩):=by
 obtain⟨b,more_q,firm,Y,Z⟩:=ha;unfold dE xQ HC fV uL cu;simp only[bW];walk_at "k42"
def AJ(g:Nat->O)(n:Nat)(e:List fH)(xs:List V):Prop:=xs.length=e.length/\∀(i:Nat)(o:fH),e[i]?=some o->∃c,xs[i]?=some (.tup [.str o.op,.int (.l o.d),cu c])/\g c=.list (bR o.l)/\n<=c
theorem UQ(h:Hp)(n k S:Nat)(ks:List Nat)(e:List fH)(x0 x1 x2 x3 x4 x5 x6 x7 x8 x9 t x y z:V)(hS:h.g S=.list (ks.map cu))(aa:S<n)(W:ks.length=e.length)(hr:∀(i:Nat) a o,ks[i]?=some a->e[i]?=some o->Er h.g a o/\a<n/\(∀b more_q firm,h.g a=da o.op o.d b more_q firm->b<n))
  (hl:ks.length<100) (B:∀j,n<=j->h.g j=.free) (hn:n+200<bu):
  ∃xs g,jU mM (.li (.g S)) (dE mM (.nm 13) (xQ mM none (b9 mM (bH mM k) uL))) (ks.length+1) 0 [] [x0,x1,x2,x3,x4,x5,x6,x7,x8,x9,t,x,y,z] ⟨h,n⟩=some (xs,⟨{h with g:=g},n+ks.length⟩)/\AJ g n e xs/\(∀j,j<n->g j=h.g j)/\(∀j,n+ks.length<=j->g j=.free):=by
 have ae:(200:Nat)<bu:=by decide
 obtain⟨xs,s',q,g,I,O,U,h4,J,Y⟩:=LH (dE mM (.nm 13) (xQ mM none (b9 mM (bH mM k) uL))) (.g S) (ks.map cu) [x0,x1,x2,x3,x4,x5,x6,x7,x8,x9,t,x,y,z]
  (fun i acc s=>∃g,s.h={h with g:=g}/\s.nx=n+i/\acc.length=i/\(∀(j:Nat)(o:fH),j<i->e[j]?=some o->∃c,acc[j]?=some (.tup [.str o.op,.int (.l o.d),cu c])/\g c=.list (bR o.l)/\n<=c/\c<n+i)/\(∀j,j<n->g j=h.g j)/\(∀j,n+i<=j->g j=.free)/\i<=ks.length)
  (fun i acc s ⟨g,I,_,_,_,J,_⟩=>by rw[I];exact(J S aa).trans hS)
  (fun i acc s ⟨g,_,_,U,_,_,_,h7⟩=>by omega)
  (fun i v acc s Z ⟨g,I,O,U,h4,J,Y,h7⟩=>by
   obtain⟨sh,sn⟩:=s;simp only at I O;subst I;subst O;rw[pF,sL]at Z;cases p:ks[i]? with
   |none=>rw[p]at Z;cases Z
   |some a=>
    rw[p]at Z;cases Z;have hi:i<ks.length:=(lK.mp p).1;have ho:e[i]?=some e[i]:=qZ (by omega);obtain⟨⟨b,more_q,firm,r1,r2⟩,r3,r4⟩:=hr i a _ p ho;have hb:=r4 b more_q firm r1;have q:=Xn {h with g:=g} (n+i) k a e[i] x0 x1 x2 x3 x4 x5 x6 x7 x8 x9 t x y z ⟨b,more_q,firm,(J a r3).trans r1,(J b hb).trans r2⟩ (Y (n+i) (ez _)) (by omega);refine⟨_,_,q,_,rfl,by show n+i+1=_;omega,by simp[U],fun j o hj K=>?_,fun j hj=>(bL (by omega)).trans (J j hj),fun j hj=>(bL (by omega)).trans (Y j (by omega)),by omega⟩
    by_cases ab:j=i
    ·subst ab;rw[ho]at K;cases K;exact⟨n+j,by rw[Dp (by omega),U,Nat.sub_self];rfl,df rfl,by omega,by omega⟩
    ·obtain⟨c,c1,c2,c3,c4⟩:=h4 j o (by omega) K
     exact⟨c,by rw[List.getElem?_append_left (by omega)];exact c1,(bL (by omega)).trans c2,c3,by omega⟩)
  ks.length 0 [] ⟨h,n⟩ (by simp) ⟨h.g,rfl,rfl,rfl,fun j o hj=>by omega,fun _ _=>rfl,B,mF _⟩
 obtain⟨sh,sn⟩:=s';rw[oK]at O U h4 Y;simp only at I O;subst I;subst O;exact⟨xs,g,q,⟨by rw[U,W],fun i o ho=>by
  obtain⟨c,c1,c2,c3,_⟩:=h4 i o (by have:=(lK.mp ho).1;omega) ho
  exact⟨c,c1,c2,c3⟩⟩,J,Y.1⟩
theorem Nq(C:CH Hp)(l:L)(h:Hp)(n:Nat)(b:E)(t:Tg)(i:E):b9 mM C (.lc b t i .none) l ⟨h,n⟩=bO (b9 mM C i l ⟨h,n⟩) fun v s=>bO (yb mM v s) fun a s=>bO (jU mM (.li a) (dE mM t (xQ mM none (b9 mM C b))) (count mM (.li a) s.h+1) 0 [] l s) fun xs s=>new mM .none (.list xs) s:=rfl
theorem Pw(h:Hp)(n:Nat)(a:Ad):yb mM (.ref a) ⟨h,n⟩=match mM.get h a with
  |.list _=>some (a,⟨h,n⟩)
  |_=>.none:=rfl
theorem VX(j:V->L->St Hp->R Hp (Option V))(A:Ad)(x y:V)(l:L)(s o:St Hp)(p:mM.get s.h A=.list [x])(e:j x l s=some (some y,o))(q:mM.get o.h A=.list [x]):jU mM (.li A) j (1+1) 0 [] l s=some ([y],o):=by
 simp only[jU,hX,p,bA,e];show jU mM (.li A) j 1 1 [y] l o=_
 simp only[jU,hX,q,bA]
local macro_rules |`(tactic|walk_at "k43")=>`(tactic|simp(disch:=walk_at "k21")only[el,ff,iH,eM,jk,iI,eF,gz,lP,eN,eO,eQ,bA, *,cL,fld,qg,iA,oU,c1,c2,Nq,Pw])
theorem VY(h1:Hp)(n1 k F Pm Sl Bk bl S U E t nE:Nat)(M:Ns)(ch:Bool)(num:V)(ks:List Nat)(z:List fH)(p y2 y3 y4 y5 y6 y7 y8 y9 B I:V)
  (qn:bH mM (k+1) 45 [.ref (.g F)] ⟨h1,n1⟩=some (.bool ch,⟨hh M,t⟩)) (hF:M.g F=t7 Pm Sl Bk) (J:M.g Bk=.list [cu bl]) (W:M.g bl=mQ num U E) (hS:M.g U=.list (ks.map cu)) (aa:F<t/\Bk<t/\bl<t/\U<t) (K:ks.length=z.length)
  (hr:∀(i:Nat) a o,ks[i]?=some a->z[i]?=some o->Er M.g a o/\a<t/\(∀b more_q firm,M.g a=da o.op o.d b more_q firm->b<t)) (hl:ks.length<100) (y:∀j,t<=j->M.g j=.free) (hn:t+300<bu):
  ∃g q q1 xs l',cy mM (bH mM (k+1)) [.ex (.cf 45 [.l 1]),.rt (.lc (.lc uL (.nm 13) (.at (.l 12) 7) .none) (.nm 12) (.at (.l 1) 13) .none)] [p,.ref (.g F),y2,y3,y4,y5,y6,y7,y8,y9,B,I,.no,.no] ⟨h1,n1⟩=some ((.rt (.ref (.g q)),l'),⟨{hh M with g:=g},t+ks.length+2⟩)/\
   g q=.list [cu q1]/\g q1=.list xs/\AJ g t z xs/\(∀j,j<t->g j=M.g j)/\(∀j,t+ks.length+2<=j->g j=.free)/\t<=q/\t<=q1:=by
 obtain⟨o1,o2,o3,o4⟩:=aa;obtain⟨xs,g,q,⟨ab,Y⟩,g1,g2⟩:=UQ (hh M) t (k+1) U ks z p (.ref (.g F)) y2 y3 y4 y5 y6 y7 y8 y9 B I (cu bl) .no hS o4 K hr hl y (by omega);have c1:count mM (.li (.g Bk)) (hh M)=1:=ro (xs:=[cu bl]) _ J;have c2:count mM (.li (.g U)) (hh M)=ks.length:=(ro (xs:=ks.map cu) _ hS).trans (by simp);have f0:=g2 (t+ks.length) (ez _);have f1:=g2 (t+ks.length+1) (by omega);have k1:(hh M).g F=t7 Pm Sl Bk:=hF;have k2:(hh M).g Bk=.list [cu bl]:=J;have k3:(hh M).g bl=mQ num U E:=W;have k4:(hh M).g U=.list (ks.map cu):=hS;have k5:g Bk=.list [cu bl]:=(g1 Bk o2).trans J
 let G:Nat->O:=fun j=>if j=t+ks.length+1 then .list [cu (t+ks.length)]else if j=t+ks.length then .list xs else g j
 refine⟨G,t+ks.length+1,t+ks.length,xs,[p,.ref (.g F),y2,y3,y4,y5,y6,y7,y8,y9,B,I,.no,.no],?_,df rfl,(bL (by omega)).trans (df rfl),⟨ab,fun i o ho=>?_⟩,fun j hj=>((bL (by omega)).trans (bL (by omega))).trans (g1 j hj),fun j hj=>((bL (by omega)).trans (bL (by omega))).trans (g2 j (by omega)),by omega,by omega⟩
 ·have e:dE mM (.nm 12) (xQ mM none (b9 mM (bH mM (k+1)) (.lc uL (.nm 13) (.at (.l 12) 7) .none))) (cu bl) [p,.ref (.g F),y2,y3,y4,y5,y6,y7,y8,y9,B,I,.no,.no] ⟨hh M,t⟩=some (some (cu (t+ks.length)),⟨{hh M with g:=fun j=>if j=t+ks.length then .list xs else g j},t+ks.length+1⟩):=by
   show bO (b9 mM (bH mM (k+1)) (.lc uL (.nm 13) (.at (.l 12) 7) .none) [p,.ref (.g F),y2,y3,y4,y5,y6,y7,y8,y9,B,I,cu bl,.no] ⟨hh M,t⟩) (fun x s=>some (some x,s))=_
   clear g1 hr y Y hF J W hS K;unfold cu at q⊢;walk_at "k43"
  have Z:=VX _ (.g Bk) (cu bl) _ _ ⟨hh M,t⟩ _ k2 e (show(if Bk=t+ks.length then _ else g Bk)=_ by rw[bL (by omega)];exact k5);clear e g1 hr y Y hF J W hS K;unfold cu at k2 k5 c1 Z;walk_at "k43";rfl
 ·obtain⟨c,e1,Z,e3⟩:=Y i o ho;refine⟨c,e1,?_,e3⟩;have h1:c≠t+ks.length+1:=by rintro rfl;rw[f1]at Z;cases Z
  have h2:c≠t+ks.length:=by rintro rfl;rw[f0]at Z;cases Z
  exact((bL h1).trans (bL h2)).trans Z
abbrev Pd:=Nat×Nat×cq
structure Fx where
 k:Nat
 K:Nat
 S:Nat
 f:Nat
 sl:Nat
 bl:Nat
 E:Nat
 be:Nat
 Bk:Nat
 Pm:Nat
 As:List Nat
 n0:Nat
 g0:Nat->O
structure W(X:Fx)(pend:List Pd)(done:List (Nat×fH))(ks:List Nat)(N:Ns)(nx:Nat):Prop where
 kept:N.g X.K=.list (ks.map cu)
 lt:X.K<nx/\X.S<nx/\X.f<nx/\X.sl<nx/\X.bl<nx/\X.E<nx/\X.be<nx/\X.Bk<nx
 ne:X.K≠X.S/\X.K≠X.sl/\X.K≠X.be/\X.K≠X.Bk
 steps:N.g X.S=.list (X.As.map cu)
 fn:N.fn=.ref (.g X.f)
 fo:N.g X.f=t7 X.Pm X.sl X.Bk
 pE:N.g X.sl=vO
 bk:N.g X.Bk=.list [cu X.bl]
 bl:N.g X.bl=mQ (.int (.l 0)) X.S X.E
 en:N.g X.E=rR X.be
 be:N.g X.be=.list (bR [.r 1])
 pd:∀p∈pend,qm N.g p.1 p.2.1 p.2.2/\p.1<nx/\p.2.1<nx/\p.2.1≠X.K/\p.1≠X.E
 dn:∀q∈done,q.1<nx/\q.1≠X.E/\∃b more_q firm,N.g q.1=da q.2.op q.2.d b more_q firm/\N.g b=.list (bR q.2.l)/\b<nx/\b≠X.K
 nodup:(pend.map (·.1)++done.map (·.1)).Nodup
 free:∀j,nx<=j->N.g j=.free
 lo:X.n0<=X.K
 pl:∀p∈pend,X.n0<=p.1
 old:∀j,j<X.n0->N.g j=X.g0 j
theorem W.step{X:Fx}{a b:Nat}{r:cq}{pend:List Pd}{done:List (Nat×fH)}{ks:List Nat}{N NN N3:Ns}{nx cH:Nat}(w:W X ((a,b,r)::pend) done ks N nx){mr:Nat}{l:List Op}(A:kY N NN nx a b r.d r.firm mr l N3 cH)(I:NN.fn=N.fn):
  W X pend (done++[(a,⟨mr,r.d,l⟩)]) ks N3 cH:=by
 obtain⟨⟨ch,g,rfl⟩,⟨b',o,S,U,s3,s4,s5⟩,old,free,lo,hi⟩:=A;have hw:=w.pd _ fB;obtain⟨⟨B,p2⟩,p3,p4,Y,J⟩:=hw;simp only at B p2 p3 p4 Y J S U old free;obtain⟨l1,l2,l3,l4,l5,l6,l7,l8⟩:=w.lt;have t:∀{j:Nat}{xs:List V},N.g j=.list xs->j≠a:=fun{j xs} h e=>by rw[e,B]at h;cases h
 have keep:∀j,j<nx->j≠a->g j=N.g j:=old;have z:=w.nodup;rw[gf,fb,nN]at z;have hf:X.f≠a:=fun e=>by have:=w.fo;rw[e,B]at this;cases this
 have hb:X.bl≠a:=fun e=>by have:=w.bl;rw[e,B]at this;cases this
 refine⟨?_,⟨by omega,by omega,by omega,by omega,by omega,by omega,by omega,by omega⟩,w.ne,?_,I.trans w.fn,?_,?_,?_,?_,?_,?_,fun p hp=>?_,fun q hq=>?_,?_,free,w.lo,fun p hp=>w.pl p (hO _ hp),fun j hj=>(keep _ (by have:=w.lo;omega) (by have:=w.pl _ fB;simp only at this;omega)).trans (w.old j hj)⟩
 ·exact(keep _ l1 (t w.kept)).trans w.kept
 ·exact(keep _ l2 (t w.steps)).trans w.steps
 ·exact(keep _ l3 hf).trans w.fo
 ·exact(keep _ l4 (t w.pE)).trans w.pE
 ·exact(keep _ l8 (t w.bk)).trans w.bk
 ·exact(keep _ l5 hb).trans w.bl
 ·exact(keep _ l6 (kQ J)).trans w.en
 ·exact(keep _ l7 (t w.be)).trans w.be
 ·obtain⟨⟨q1,q2⟩,q3,q4,q5,q6⟩:=w.pd p (hO _ hp);have K:p.1≠a:=fun e=>z.1 (List.mem_append_left _ (kq.mpr ⟨p,hp,e⟩))
  exact⟨⟨(keep _ q3 K).trans q1,(keep _ q4 (t q2)).trans q2⟩,by omega,by omega,q5,q6⟩
 ·rcases pJ.mp hq with hq|hq
  ·obtain⟨q1,q2,c,m,f,q3,q4,q5,q6⟩:=w.dn q hq;have O:q.1≠a:=fun e=>z.1 (List.mem_append_right _ (kq.mpr ⟨q,hq,e⟩))
   exact⟨by omega,q2,c,m,f,(keep _ q1 O).trans q3,(keep _ q5 (t q4)).trans q4,by omega,q6⟩
  ·rw[kP]at hq;subst hq;refine⟨by show a<cH;omega,J,b',o,r.firm,S,U,s3,?_⟩;rcases s5 with rfl|h
   ·exact Y
   ·omega
 ·have e:(List.map (fun x=>x.1) pend++List.map (fun x=>x.1) (done++[(a,(⟨mr,r.d,l⟩:fH))]))=(List.map (fun x=>x.1) pend++List.map (fun x=>x.1) done)++[a]:=by simp
  rw[e];refine List.nodup_append.mpr ⟨z.2,by simp,?_⟩;intro x hx y Z e';rw[kP]at Z;subst Z;subst e';exact z.1 hx
theorem W.note{X:Fx}{pend:List Pd}{done:List (Nat×fH)}{ks:List Nat}{N:Ns}{nx:Nat}(w:W X pend done ks N nx)(a:Nat):W X pend done (ks++[a]) (N.wg fun j=>if j=X.K then .list ((ks++[a]).map cu)else N.g j) (nx+1):=by
 obtain⟨I,J,K,S,U,Y,Z,l8⟩:=w.lt;obtain⟨t,x,y,z⟩:=w.ne;have li:∀{j:Nat}{c:Nat}{fs:List (Nat×V)},N.g j=.inst c fs->j≠X.K:=fun{j c fs} h e=>by rw[e,w.kept]at h;cases h
 have keep:∀j,j≠X.K->(if j=X.K then O.list ((ks++[a]).map cu)else N.g j)=N.g j:=fun j h=>bL h
 refine⟨df rfl,⟨by omega,by omega,by omega,by omega,by omega,by omega,by omega,by omega⟩,w.ne,(keep _ (kQ t)).trans w.steps,w.fn,(keep _ (li w.fo)).trans w.fo,(keep _ (kQ x)).trans w.pE,(keep _ (kQ z)).trans w.bk,(keep _ (li w.bl)).trans w.bl,(keep _ (li w.en)).trans w.en,(keep _ (kQ y)).trans w.be,
  fun p hp=>?_,fun q B=>?_,w.nodup,fun j o=>(keep j (by omega)).trans (w.free j (by omega)),w.lo,w.pl,fun j o=>(keep j (by have:=w.lo;omega)).trans (w.old j o)⟩
 ·obtain⟨⟨q1,q2⟩,q3,q4,q5,q6⟩:=w.pd p hp;exact⟨⟨(keep _ (li q1)).trans q1,(keep _ q5).trans q2⟩,by omega,by omega,q5,q6⟩
 ·obtain⟨q1,q2,c,m,f,q3,q4,q5,q6⟩:=w.dn q B;exact⟨by omega,q2,c,m,f,(keep _ (li q3)).trans q3,(keep _ q6).trans q4,by omega,q6⟩
theorem W.keep{X:Fx}{a b:Nat}{r:cq}{pend:List Pd}{done:List (Nat×fH)}{ks:List Nat}{N NN N3:Ns}{nx cH:Nat}(w:W X ((a,b,r)::pend) done ks N nx){mr:Nat}{l:List Op}(A:kY N NN nx a b r.d r.firm mr l N3 cH)(p:NN.fn=N.fn)
  (t:bH mM (X.k+6) 39 [bP,.ref (.g a)] ⟨hh N,nx⟩=some (.bool true,⟨hh N3,cH⟩)) (x:cH<bu):
  W X pend (done++[(a,⟨mr,r.d,l⟩)]) (ks++[a]) (N3.wg fun j=>if j=X.K then .list ((ks++[a]).map cu)else N3.g j) (cH+1)/\
   ∀{as e:List Nat}{N':Ns}{o:Nat},BL X.k X.K X.S as (N3.wg fun j=>if j=X.K then .list ((ks++[a]).map cu)else N3.g j) (cH+1) (ks++[a]) N' o e->BL X.k X.K X.S (a::as) N nx ks N' o e:=by
 have q:=w.step A p;exact⟨q.note a,fun B=>.keep t q.kept x (q.steps.trans w.steps.symm) w.ne.1 B⟩
theorem W.drop{X:Fx}{a b:Nat}{r:cq}{pend:List Pd}{done:List (Nat×fH)}{ks:List Nat}{N NN N3:Ns}{nx cH:Nat}(w:W X ((a,b,r)::pend) done ks N nx){mr:Nat}{l:List Op}(A:kY N NN nx a b r.d r.firm mr l N3 cH)(o:NN.fn=N.fn)
  (q:bH mM (X.k+6) 39 [bP,.ref (.g a)] ⟨hh N,nx⟩=some (.bool false,⟨hh N3,cH⟩)):
  W X pend (done++[(a,⟨mr,r.d,l⟩)]) ks N3 cH/\∀{as e:List Nat}{N':Ns}{j:Nat},BL X.k X.K X.S as N3 cH ks N' j e->BL X.k X.K X.S (a::as) N nx ks N' j e:=by
 have p:=w.step A o;exact⟨p,fun B=>.drop q (p.steps.trans w.steps.symm) (p.kept.trans w.kept.symm) B⟩
theorem W.fun{X:Fx}{pend:List Pd}{done:List (Nat×fH)}{ks:List Nat}{N:Ns}{nx:Nat}(w:W X pend done ks N nx):mu N X.f X.sl:=⟨w.fn,⟨_,w.fo,rfl⟩,w.pE⟩
structure Tz where
 n:Int
 on:List (Int×Unit)
 st:List (Int×Int)
 pl:List (Int×(Bs×Int))
 fo:List (Int×V)
 ex:List (Ek×Int)
 hd:List (Int×Int)
abbrev Ns.tz(N:Ns):Tz:=⟨N.n,N.on,N.st,N.pl,N.fo,N.ex,N.hd⟩
def Tz.pc(t:Tz)(v:Int):Bs×Int:=match t.pl.lookup v with
 |some p=>p
 |none=>(.va v,0)
def Tz.pe(t:Tz):Ek->Bs×Int
 |.sl i=>(.sl i,0)
 |.na s c=>(.na s,jA c)
 |.ad c u=>((t.pc u).1,jA ((t.pc u).2+c))
 |.wi _ _ _=>(.va 0,0)
structure Inv(t:Tz):Prop where
 hs:∀v r,t.hd.lookup v=some r->t.on.lookup r=some ()/\t.st.lookup r=some v
 sh:∀r v,t.st.lookup r=some v->v<=t.n/\∃h,t.hd.lookup v=some h
 ex:∀e v,t.ex.lookup e=some v->(∃h,t.hd.lookup v=some h)/\((∀s w u,e≠ .wi s w u)->t.pc v=t.pe e)/\∀c u,e=.ad c u->u<=t.n
 pl:∀v p,t.pl.lookup v=some p->v<=t.n
 fo:∀v x,t.fo.lookup v=some x->v<=t.n
 so:∀r v,t.st.lookup r=some v->t.on.lookup r=some ()
 pa:∀r v,r<3->t.st.lookup r=some v->t.hd.lookup v=some r/\t.pl.lookup v=none
structure iM(d:Int)(t t':Tz):Prop where
 on:t'.on=t.on
 n:t.n<=t'.n
 st:∀r v,t.st.lookup r=some v->t'.st.lookup r=some v
 hd:∀v r,t.hd.lookup v=some r->t'.hd.lookup v=some r
 pc:∀v,v<=t.n->t'.pc v=t.pc v
 old:∀r,3<=r->r≠d->t'.st.lookup r=t.st.lookup r
theorem iM.refl(d:Int)(t:Tz):iM d t t:=⟨rfl,vJ _,fun _ _ h=>h,fun _ _ h=>h,fun _ _=>rfl,fun _ _ _=>rfl⟩
theorem iM.trans{d e f:Int}{t o j:Tz}(h:iM d t o)(h':iM e o j)(hd:d=f∨d<3)(p:e=f∨e<3):iM f t j:=⟨h'.on.trans h.on,Int.le_trans h.n h'.n,fun r v q=>h'.st r v (h.st r v q),fun r v q=>h'.hd r v (h.hd r v q),
 fun v q=>(h'.pc v (Int.le_trans q h.n)).trans (h.pc v q),fun r q x=>(h'.old r q (by omega)).trans (h.old r q (by omega))⟩
theorem lH{κ α:Type} [DecidableEq κ]{l:List (κ×α)}{k j:κ}{v x:α}(h:(l++[(k,v)]).lookup j=some x):l.lookup j=some x∨(l.lookup j=none/\j=k/\x=v):=by
 cases e:l.lookup j with
 |some y=>rw[kb e]at h;exact .inl h
 |none=>
  by_cases hk:j=k
  ·subst hk;rw[kN e]at h;cases h;exact .inr ⟨rfl,rfl,rfl⟩
  ·rw[uA hk,e]at h;cases h
theorem Inv.kZ{t:Tz}(i:Inv t):t.hd.lookup (t.n+1)=none:=by cases e:t.hd.lookup (t.n+1)with|none=>rfl|some r=>have:=(i.sh r _ (i.hs _ _ e).2).1;omega
theorem Inv.BJ{t:Tz}(i:Inv t):t.pl.lookup (t.n+1)=none:=by cases e:t.pl.lookup (t.n+1)with|none=>rfl|some r=>have:=i.pl _ _ e;omega
theorem Inv.E4{t:Tz}(i:Inv t):t.fo.lookup (t.n+1)=none:=by cases e:t.fo.lookup (t.n+1)with|none=>rfl|some r=>have:=i.fo _ _ e;omega
theorem Inv.hle{t:Tz}(i:Inv t){v h:Int}(e:t.hd.lookup v=some h):v<=t.n:=(i.sh h _ (i.hs _ _ e).2).1
abbrev Tz.fi(t:Tz)(r:Int):Tz:={t with n:=t.n+1,st:=t.st++[(r,t.n+1)],hd:=t.hd++[(t.n+1,r)]}
abbrev Tz.se(t:Tz)(d w:Int):Tz:={t with st:=t.st++[(d,w)]}
abbrev Tz.nu(t:Tz)(e:Ek)(d:Int):Tz:={t with n:=t.n+1,st:=t.st++[(d,t.n+1)],pl:=t.pl++[(t.n+1,t.pe e)],fo:=t.fo++[(t.n+1,e.v)],ex:=t.ex++[(e,t.n+1)],hd:=t.hd++[(t.n+1,d)]}
theorem LI{t j:Tz}(e:Ek)(hp:∀v,v<=t.n->j.pc v=t.pc v)(h:∀c u,e=.ad c u->u<=t.n):j.pe e=t.pe e:=by cases e with|sl i=>rfl|na s c=>rfl|ad c u=>show((j.pc u).1,_)=((t.pc u).1,_);rw[hp u (h c u rfl)]|wi s t u=>rfl
theorem Inv.fi{t:Tz}(i:Inv t){r:Int}(hs:t.st.lookup r=none)(ho:t.on.lookup r=some ()):Inv (t.fi r)/\iM r t (t.fi r):=by
 have kZ:=i.kZ;have x:iM r t (t.fi r):=⟨rfl,by show t.n<=t.n+1;omega,fun r v q=>kb q,fun r v q=>kb q,fun v q=>rfl,fun q _ h=>uA h⟩
 refine⟨⟨fun v q h=>?_,fun q v h=>?_,fun e v h=>?_,fun v p h=>?_,fun v p h=>?_,fun q v h=>?_,fun q v j h=>?_⟩,x⟩
 ·rcases lH h with h|⟨_,rfl,rfl⟩
  ·exact⟨(i.hs _ _ h).1,kb (i.hs _ _ h).2⟩
  ·exact⟨ho,kN hs⟩
 ·rcases lH h with h|⟨_,rfl,rfl⟩
  ·obtain⟨a,b,c⟩:=i.sh _ _ h;exact⟨by show v<=t.n+1;omega,b,kb c⟩
  ·exact⟨by show t.n+1<=t.n+1;omega,q,kN kZ⟩
 ·obtain⟨⟨a,b⟩,c,d⟩:=i.ex _ _ h;exact⟨⟨a,kb b⟩,c,fun c u h=>by have:=d c u h;show u<=t.n+1;omega⟩
 ·have:=i.pl _ _ h;show v<=t.n+1;omega
 ·have:=i.fo _ _ h;show v<=t.n+1;omega
 ·rcases lH h with h|⟨_,rfl,rfl⟩
  ·exact i.so _ _ h
  ·exact ho
 ·rcases lH h with h|⟨_,rfl,rfl⟩
  ·exact⟨kb (i.pa _ _ j h).1,(i.pa _ _ j h).2⟩
  ·exact⟨kN kZ,i.BJ⟩
theorem Inv.se{t:Tz}(i:Inv t){d w h:Int}(hs:t.st.lookup d=none)(ho:t.on.lookup d=some ())(hd:3<=d)(e:t.hd.lookup w=some h):Inv (t.se d w)/\iM d t (t.se d w):=by
 refine⟨⟨fun v q h=>⟨(i.hs _ _ h).1,kb (i.hs _ _ h).2⟩,fun q v h=>?_,i.ex,i.pl,i.fo,fun q v h=>?_,fun q v j h=>?_⟩,⟨rfl,vJ _,fun r v q=>kb q,fun _ _ h=>h,fun _ _=>rfl,fun q _ h=>uA h⟩⟩
 ·rcases lH h with h|⟨_,rfl,rfl⟩
  ·exact i.sh _ _ h
  ·exact⟨i.hle e,_,e⟩
 ·rcases lH h with h|⟨_,rfl,rfl⟩
  ·exact i.so _ _ h
  ·exact ho
 ·rcases lH h with h|⟨_,rfl,rfl⟩
  ·exact i.pa _ _ j h
  ·omega
theorem Inv.nu{t:Tz}(i:Inv t){e:Ek}{d:Int}(hs:t.st.lookup d=none)(ho:t.on.lookup d=some ())(hd:3<=d)(J:t.ex.lookup e=none)(j:∀c u,e=.ad c u->u<=t.n)(K:∀s w u,e≠ .wi s w u):
  Inv (t.nu e d)/\iM d t (t.nu e d)/\(t.nu e d).pc (t.n+1)=t.pe e:=by
 have kZ:=i.kZ;have hp:∀v,v<=t.n->(t.nu e d).pc v=t.pc v:=fun v h=>by unfold Tz.pc;rw[uA (by omega:v≠t.n+1)]
 have x:iM d t (t.nu e d):=⟨rfl,by show t.n<=t.n+1;omega,fun r v q=>kb q,fun r v q=>kb q,hp,fun q _ h=>uA h⟩
 have o:(t.nu e d).pc (t.n+1)=t.pe e:=by unfold Tz.pc;rw[kN i.BJ]
 refine⟨⟨fun v q h=>?_,fun q v h=>?_,fun y v h=>?_,fun v p h=>?_,fun v p h=>?_,fun q v h=>?_,fun q v I h=>?_⟩,x,o⟩
 ·rcases lH h with h|⟨_,rfl,rfl⟩
  ·exact⟨(i.hs _ _ h).1,kb (i.hs _ _ h).2⟩
  ·exact⟨ho,kN hs⟩
 ·rcases lH h with h|⟨_,rfl,rfl⟩
  ·obtain⟨a,b,c⟩:=i.sh _ _ h;exact⟨by show v<=t.n+1;omega,b,kb c⟩
  ·exact⟨by show t.n+1<=t.n+1;omega,q,kN kZ⟩
 ·rcases lH h with h|⟨_,rfl,rfl⟩
  ·obtain⟨⟨a,b⟩,c,z⟩:=i.ex _ _ h;refine⟨⟨a,kb b⟩,fun nw=>?_,fun c u h=>by have:=z c u h;show u<=t.n+1;omega⟩;rw[hp v (i.hle b),LI y hp z,c nw]
  ·refine⟨⟨d,kN kZ⟩,fun _=>?_,fun c u h=>by have:=j c u h;show u<=t.n+1;omega⟩;rw[o,LI y hp j]
 ·rcases lH h with h|⟨_,rfl,rfl⟩
  ·have:=i.pl _ _ h;show v<=t.n+1;omega
  ·show t.n+1<=t.n+1;omega
 ·rcases lH h with h|⟨_,rfl,rfl⟩
  ·have:=i.fo _ _ h;show v<=t.n+1;omega
  ·show t.n+1<=t.n+1;omega
 ·rcases lH h with h|⟨_,rfl,rfl⟩
  ·exact i.so _ _ h
  ·exact ho
 ·rcases lH h with h|⟨_,rfl,rfl⟩
  ·have B:=i.pa _ _ I h;exact⟨kb B.1,by rw[uA (by have:=(i.sh _ _ h).1;omega)];exact B.2⟩
  ·omega
abbrev Tz.wd(t:Tz)(e:Ek)(d:Int):Tz:={t with n:=t.n+1,st:=t.st++[(d,t.n+1)],fo:=t.fo++[(t.n+1,e.v)],ex:=t.ex++[(e,t.n+1)],hd:=t.hd++[(t.n+1,d)]}
theorem Inv.wd{t:Tz}(i:Inv t){s w:Bool}{u d:Int}(hs:t.st.lookup d=none)(ho:t.on.lookup d=some ())(hd:3<=d):Inv (t.wd (.wi s w u) d)/\iM d t (t.wd (.wi s w u) d):=by
 have kZ:=i.kZ;have x:iM d t (t.wd (.wi s w u) d):=⟨rfl,by show t.n<=t.n+1;omega,fun r v q=>kb q,fun r v q=>kb q,fun _ _=>rfl,fun q _ h=>uA h⟩
 refine⟨⟨fun v q h=>?_,fun q v h=>?_,fun y v h=>?_,fun v p h=>?_,fun v p h=>?_,fun q v h=>?_,fun q v j h=>?_⟩,x⟩
 ·rcases lH h with h|⟨_,rfl,rfl⟩
  ·exact⟨(i.hs _ _ h).1,kb (i.hs _ _ h).2⟩
  ·exact⟨ho,kN hs⟩
 ·rcases lH h with h|⟨_,rfl,rfl⟩
  ·obtain⟨a,b,c⟩:=i.sh _ _ h;exact⟨by show v<=t.n+1;omega,b,kb c⟩
  ·exact⟨by show t.n+1<=t.n+1;omega,q,kN kZ⟩
 ·rcases lH h with h|⟨_,rfl,rfl⟩
  ·obtain⟨⟨a,b⟩,c,o⟩:=i.ex _ _ h;exact⟨⟨a,kb b⟩,c,fun c u h=>by have:=o c u h;show u<=t.n+1;omega⟩
  ·exact⟨⟨d,kN kZ⟩,fun nw=>absurd rfl (nw _ _ _),fun c u h=>by cases h⟩
 ·have:=i.pl _ _ h;show v<=t.n+1;omega
 ·rcases lH h with h|⟨_,rfl,rfl⟩
  ·have:=i.fo _ _ h;show v<=t.n+1;omega
  ·show t.n+1<=t.n+1;omega
 ·rcases lH h with h|⟨_,rfl,rfl⟩
  ·exact i.so _ _ h
  ·exact ho
 ·rcases lH h with h|⟨_,rfl,rfl⟩
  ·have e:=i.pa _ _ j h;exact⟨kb e.1,e.2⟩
  ·omega
def qB(t:Tz):Prop:=∀s w u,t.ex.lookup (.wi s w u)=none
theorem qB.nu{t:Tz}(h:qB t){e:Ek}(d:Int)(j:∀s w u,e≠ .wi s w u):qB (t.nu e d):=fun s w u=>by
 show(t.ex++[(e,t.n+1)]).lookup _=none
 rw[uA (kQ (j s w u))];exact h s w u
theorem Hs{N:Ns}(i:Inv N.tz){r:Int}(ho:N.on.lookup r=some ())(hk:3<=r->∃v,N.st.lookup r=some v):
  ∃N' v h,Tk N (rv r) N' (vv v) (rv h)/\Inv N'.tz/\iM (-1) N.tz N'.tz/\N'.st.lookup r=some v/\N'.hd.lookup v=some h/\N'.ce=N.ce/\N'.fn=N.fn/\N'.pr=N.pr/\(r<3->h=r)/\N'.ex=N.ex:=by
 cases e:N.st.lookup r with
 |some v=>obtain⟨_,h,hh⟩:=i.sh r v e;obtain⟨a,b⟩:=i.hs v h hh;refine⟨N,v,h,.known r v h ho e hh a b,i,iM.refl _ _,e,hh,rfl,rfl,rfl,fun q=>?_,rfl⟩;have:=(i.pa r v q e).1;exact nM ((show some h=some r from hh.symm.trans this))
 |none=>
  have j:r<3:=by
   by_cases h:3<=r
   ·obtain⟨v,q⟩:=hk h;rw[e]at q;cases q
   ·omega
  obtain⟨a,b⟩:=i.fi (r:=r) e ho;exact⟨(N.first r).wR (N.n+1) r,N.n+1,r,.new r ho e i.kZ,a,b.trans (iM.refl (-1) _) (.inr j) (.inl rfl),kN e,kN i.kZ,rfl,rfl,rfl,fun _=>rfl,rfl⟩
structure eV where
 k:Ck
 r:Int
 h:Nat
inductive CO(g:Nat->O)(hd:List (Int×Int))(nx:Nat):List (Ck×Nat)->List eV->Prop
 |nil:CO g hd nx [] []
 |cons {k:Ck} {a:Nat} {u:Int} {r:Int} {h:Nat} {l:List (Ck×Nat)} {cs:List eV}:a<nx->g a=.inst 3 [(16,vv u),(17,.str h)]->hd.lookup u=some r->CO g hd nx l cs->CO g hd nx ((k,a)::l) (⟨k,r,h⟩::cs)
theorem CO.mono{g g':Nat->O}{hd e:List (Int×Int)}{nx j:Nat}(o:∀a u h,a<nx->g a=.inst 3 [(16,vv u),(17,.str h)]->g' a=g a)(hh:∀v r,hd.lookup v=some r->e.lookup v=some r)(q:nx<=j):∀{l:List (Ck×Nat)}{cs:List eV},CO g hd nx l cs->CO g' e j l cs
 |_,_,.nil=>.nil
 |_,_,.cons t p x y=>.cons (by omega) ((o _ _ _ t p).trans p) (hh _ _ x) (CO.mono o hh q y)
theorem CO.filter{g:Nat->O}{hd:List (Int×Int)}{nx:Nat}(f:Ck->Bool):∀{l:List (Ck×Nat)}{cs:List eV},CO g hd nx l cs->CO g hd nx (l.filter fun p=>f p.1) (cs.filter fun q=>f q.k)
 |_,_,.nil=>.nil
 |_,_,.cons (k:=k) (a:=a) (r:=r) (h:=h) o t x j=>by cases e:f k with|true=>rw[List.filter_cons_of_pos (by exact e),List.filter_cons_of_pos (by exact e)];exact .cons o t x (CO.filter f j)|false=>rw[List.filter_cons_of_neg (by simp[e]),List.filter_cons_of_neg (by simp[e])];exact CO.filter f j
theorem CO.snoc{g:Nat->O}{hd:List (Int×Int)}{nx:Nat}{k:Ck}{a:Nat}{u r:Int}{h:Nat}(e:a<nx)(j:g a=.inst 3 [(16,vv u),(17,.str h)])(o:hd.lookup u=some r):∀{l:List (Ck×Nat)}{cs:List eV},CO g hd nx l cs->CO g hd nx (l++[(k,a)]) (cs++[⟨k,r,h⟩])
 |_,_,.nil=>.cons e j o .nil
 |_,_,.cons a1 p a3 a4=>.cons a1 p a3 (CO.snoc e j o a4)
theorem CO.keys{g:Nat->O}{hd:List (Int×Int)}{nx:Nat}:∀{l:List (Ck×Nat)}{cs:List eV},CO g hd nx l cs->l.map (·.1)=cs.map (·.k)
 |_,_,.nil=>rfl
 |_,_,.cons _ _ _ a4=>by rw[gf,gf,CO.keys a4]
theorem CO.len{g:Nat->O}{hd:List (Int×Int)}{nx:Nat}{l:List (Ck×Nat)}{cs:List eV}(h:CO g hd nx l cs):l.length=cs.length:=by have:=lu List.length h.keys;simpa using this
def fj(cs:List eV)(k:Ck):Option eV:=cs.find? fun q=>decide (q.k=k)
theorem CO.none{g:Nat->O}{hd:List (Int×Int)}{nx:Nat}{k:Ck}:∀{l:List (Ck×Nat)}{cs:List eV},CO g hd nx l cs->fj cs k=none->l.lookup k=none
 |_,_,.nil,_=>rfl
 |_,_,.cons (k:=j) _ _ _ a4,h=>by
  unfold fj at h;rw[List.find?_cons]at h
  by_cases e:j=k
  ·simp[e]at h
  ·simp only[e,lL]at h;rw[jT,show(k==j)=false from km.mpr fun q=>e q.symm];exact CO.none a4 h
theorem CO.some{g:Nat->O}{hd:List (Int×Int)}{nx:Nat}{k:Ck}{q:eV}:∀{l:List (Ck×Nat)}{cs:List eV},CO g hd nx l cs->fj cs k=.some q->∃a u,l.lookup k=.some a/\a<nx/\g a=.inst 3 [(16,vv u),(17,.str q.h)]/\hd.lookup u=.some q.r
 |_,_,.nil,h=>by cases h
 |_,_,.cons (k:=j) (a:=a) (u:=u) o p t a4,h=>by
  unfold fj at h;rw[List.find?_cons]at h
  by_cases e:j=k
  ·simp only[e,jS]at h;cases h;exact⟨a,u,by rw[jT,show(k==j)=true from dM.mpr e.symm],o,p,t⟩
  ·simp only[e,lL]at h;rw[jT,show(k==j)=false from km.mpr fun q=>e q.symm];exact CO.some a4 h
structure TT(X:Fx)(pend:List Pd)(done:List (Nat×fH))(cs:List eV)(N:Ns)(nx m:Nat):Prop where
 w:W X pend done (done.map (·.1)) N nx
 i:Inv N.tz
 rm:cF N nx m
 co:CO N.g N.hd nx N.ce cs
 nd:(cs.map (·.k)).Nodup
 ok:∀q∈cs,ik q.k.b
 le:cs.length<=3
 us:∀p∈pend,0<=p.2.2.d->3<=p.2.2.d/\N.on.lookup p.2.2.d=some ()/\N.st.lookup p.2.2.d=none
 ds:pend.Pairwise fun p q=>0<=p.2.2.d->p.2.2.d≠q.2.2.d
def Go(X:Fx)(p:List Pd)(d:List (Nat×fH))(N:Ns)(nx:Nat)(t:List Pd)(x:List (Nat×fH))(N':Ns)(o:Nat):Prop:=
 ∀{q:Ns}{e:Nat}{j:List Nat},BL X.k X.K X.S (t.map (·.1)) N' o (x.map (·.1)) q e j->BL X.k X.K X.S (p.map (·.1)) N nx (d.map (·.1)) q e j
theorem Go.refl(X:Fx)(p:List Pd)(d:List (Nat×fH))(N:Ns)(nx:Nat):Go X p d N nx p d N nx:=fun h=>h
theorem Go.trans{X:Fx}{p y j:List Pd}{d z o:List (Nat×fH)}{N N' t:Ns}{nx x e:Nat}(h:Go X p d N nx y z N' x)(h':Go X y z N' x j o t e):Go X p d N nx j o t e:=fun q=>h (h' q)
structure Jd(N NN:Ns):Prop where
 st:NN.st.length<=N.st.length+20
 ce:NN.ce.length<=N.ce.length+20
 pl:NN.pl.length<=N.pl.length+20
 fo:NN.fo.length<=N.fo.length+20
 ex:NN.ex.length<=N.ex.length+20
 hd:NN.hd.length<=N.hd.length+20
 lg:NN.lg.length<=N.lg.length+20
section
variable{X:Fx}{pend:List Pd}{done:List (Nat×fH)}{cs lA:List eV}{N NN N3:Ns}{nx cH m a b:Nat}{r:cq}{mr:Nat}{l:List Op}
theorem TT.cells(t:TT X ((a,b,r)::pend) done cs N nx (m+300))(A:kY N NN nx a b r.d r.firm mr l N3 cH)(o:iM r.d N.tz NN.tz):CO N3.g NN.hd cH N.ce cs:=by have hp:=(t.w.pd _ fB).1.1;refine t.co.mono (fun j u h p e=>A.old j p fun q=>?_) o.hd A.lo;subst q;rw[hp]at e;injection e with x y;cases x
theorem TT.unset(t:TT X ((a,b,r)::pend) done cs N nx m)(j:iM r.d N.tz NN.tz):(∀p∈pend,0<=p.2.2.d->3<=p.2.2.d/\NN.on.lookup p.2.2.d=some ()/\NN.st.lookup p.2.2.d=none):=fun p hp o=>by
 obtain⟨q,x,y⟩:=t.us p (hO _ hp) o;have hd:=(List.pairwise_cons.mp t.ds).1 p hp;have ho:NN.on=N.on:=j.on;have hs:NN.st.lookup p.2.2.d=N.st.lookup p.2.2.d:=j.old _ q fun e=>hd (by rw[←e];exact o) e.symm
 exact⟨q,by rw[ho];exact x,hs.trans y⟩
theorem TT.room(t:TT X ((a,b,r)::pend) done cs N nx (m+300))(A:kY N NN nx a b r.d r.firm mr l N3 cH)(f:Jd N NN):cF N3 cH (m+100):=by obtain⟨⟨ch,g,rfl⟩,s,old,free,lo,hi⟩:=A;obtain⟨e,j,o,p,q,x,y⟩:=f;obtain⟨r1,z,B,I,J,K,O,S⟩:=t.rm;exact⟨by omega,by show NN.st.length+_<_;omega,by show NN.ce.length+_<_;omega,by show NN.pl.length+_<_;omega,by show NN.fo.length+_<_;omega,by show NN.ex.length+_<_;omega,by show NN.hd.length+_<_;omega,by show NN.lg.length+_<_;omega⟩
theorem TT.keep(t:TT X ((a,b,r)::pend) done cs N nx (m+300))(A:kY N NN nx a b r.d r.firm mr l N3 cH)(z:bH mM (X.k+6) 39 [bP,.ref (.g a)] ⟨hh N,nx⟩=some (.bool true,⟨hh N3,cH⟩))(o:NN.fn=N.fn)(hi:Inv NN.tz)(B:iM r.d N.tz NN.tz)
  (x:CO N3.g NN.hd cH NN.ce lA) (y:(lA.map (·.k)).Nodup) (dG:∀q∈lA,ik q.k.b) (hle:lA.length<=3) (f:Jd N NN):
  ∃N' p,TT X pend (done++[(a,⟨mr,r.d,l⟩)]) lA N' p m/\Go X ((a,b,r)::pend) done N nx pend (done++[(a,⟨mr,r.d,l⟩)]) N' p/\N'.tz=NN.tz/\N'.pr=NN.pr:=by
 have rm:=t.room A f;have us:=t.unset (NN:=NN) B;have I:cH<bu:=by have:=rm.nx;omega
 obtain⟨J,go⟩:=t.w.keep A o z I;have K:=(t.w.step A o).kept;obtain⟨⟨ch,g,rfl⟩,s,old,free,lo,O⟩:=A;have e:(done++[(a,(⟨mr,r.d,l⟩:fH))]).map (·.1)=done.map (·.1)++[a]:=by simp
 refine⟨({NN with ch:=ch,g:=g}:Ns).wg fun j=>if j=X.K then .list ((done.map (·.1)++[a]).map cu)else g j,cH+1,⟨by rw[e];exact J,hi,?_,?_,y,dG,hle,us,(List.pairwise_cons.mp t.ds).2⟩,fun{W S U} q=>?_,rfl,rfl⟩
 ·exact(rm.less (by omega) (by omega):cF _ (cH+1) m).wg
 ·refine CO.mono (fun j u h Y e=>?_) (fun _ _ h=>h) (Nat.le_succ _) x;refine bL fun q=>?_
  subst q;rw[K]at e;cases e
 ·rw[e]at q;exact go q
theorem TT.drop(t:TT X ((a,b,r)::pend) done cs N nx (m+300))(A:kY N NN nx a b r.d r.firm mr l N3 cH)(x:bH mM (X.k+6) 39 [bP,.ref (.g a)] ⟨hh N,nx⟩=some (.bool false,⟨hh N3,cH⟩))(j:NN.fn=N.fn)(hi:Inv NN.tz)(y:iM r.d N.tz NN.tz)
  (o:CO N3.g NN.hd cH NN.ce lA) (p:(lA.map (·.k)).Nodup) (dG:∀q∈lA,ik q.k.b) (hle:lA.length<=3) (f:Jd N NN):
  TT X pend done lA N3 cH m/\Go X ((a,b,r)::pend) done N nx pend done N3 cH/\N3.tz=NN.tz/\N3.pr=NN.pr:=by
 have rm:=t.room A f;have us:=t.unset (NN:=NN) y;obtain⟨e,go⟩:=t.w.drop A j x;obtain⟨⟨ch,g,rfl⟩,s,old,free,lo,z⟩:=A;refine⟨⟨⟨e.kept,e.lt,e.ne,e.steps,e.fn,e.fo,e.pE,e.bk,e.bl,e.en,e.be,e.pd,fun q h=>e.dn q (List.mem_append_left _ h),?_,e.free,e.lo,e.pl,e.old⟩,hi,rm.less (by omega) (by omega),o,p,dG,hle,us,(List.pairwise_cons.mp t.ds).2⟩,fun{J B I} q=>go q,rfl,rfl⟩;refine List.Nodup.sublist ?_ e.nodup;rw[lJ,←List.append_assoc];exact List.sublist_append_left _ _
end
section
variable{X:Fx}{pend:List Pd}{done:List (Nat×fH)}{cs:List eV}{N:Ns}{nx m a b:Nat}{d:Int}{firm:Bool}
theorem TT.qk{r:cq}(t:TT X ((a,b,r)::pend) done cs N nx m):N.g a=da r.k.op r.d b r.k.more_q r.firm/\N.g b=.list (bR r.k.args)/\a<nx/\b<nx/\b≠a:=by obtain⟨⟨o,j⟩,p,q,x,y⟩:=t.w.pd _ fB;exact⟨o,j,p,q,fun e=>by simp only at o j e;rw[e,o]at j;cases j⟩
theorem Ht{N N':Ns}{op val fj:V}(T:Tk N op N' val fj):N'.st.length<=N.st.length+1/\N'.ce.length<=N.ce.length/\N'.pl.length<=N.pl.length/\N'.fo.length<=N.fo.length/\N'.ex.length<=N.ex.length/\N'.hd.length<=N.hd.length+1/\N'.lg.length<=N.lg.length+1:=by cases T<;>simp
structure Told(X:Fx)(pend:List Pd)(a b:Nat)(r:cq)(done:List (Nat×fH))(cs:List eV)(N:Ns)(nx m:Nat)(P:Ns->Int->Prop)(N':Ns)(mv:Nat)(o:fH)(v:Int):Prop where
 t:TT X pend (done++[(a,o)]) cs N' mv m
 go:Go X ((a,b,r)::pend) done N nx pend (done++[(a,o)]) N' mv
 x:iM r.d N.tz N'.tz
 pr:N'.pr=N.pr
 st:N'.st.lookup r.d=some v
 p:P N' v
 nw:qB N.tz->qB N'.tz
theorem TT.sl{i:Int}(t:TT X ((a,b,⟨.sl i,d,firm⟩)::pend) done cs N nx (m+300))(W:3<=d):
  ∃N' j o v,Told X pend a b ⟨.sl i,d,firm⟩ done cs N nx m (fun N' v=>N'.tz.pc v=(.sl i,0)) N' j o v:=by
 obtain⟨Y,Z,l1,l2,ne⟩:=t.qk;obtain⟨u1,z,x⟩:=t.us _ fB (by show 0<=d;omega);simp only at u1 z x;have rm:cF N nx 200:=t.rm.less (by omega) (by omega);have B:∀j,j<=nx+30->cF N j 100:=fun j h=>t.rm.less (by omega) (by omega)
 cases e:N.ex.lookup (.sl i)with|none=>obtain⟨N3,cH,q,A⟩:=Tv (k:=X.k) i (fnds:=[]) (Tks.nil N) nx a b d firm Y Z l1 l2 ne t.w.free rm B z x e t.i.E4 t.i.BJ t.i.kZ;obtain⟨J,y,i3⟩:=t.i.nu (e:=.sl i) x z W e (fun c u h=>by cases h) (fun _ _ _ h=>by cases h);obtain⟨N',j,K,O,p,S⟩:=t.keep A q rfl J y (t.cells A y) t.nd t.ok t.le ⟨by simp,by simp,by simp,by simp,by simp,by simp,by simp⟩;have I:N'.st=_:=lu Tz.st p;exact⟨N',j,_,N.n+1,K,O,by rw[p];exact y,S,by rw[I];exact kN x,by show N'.tz.pc _=_;rw[p];exact i3,fun nw=>by rw[p];exact nw.nu d (fun _ _ _ h=>by cases h)⟩|some w=>obtain⟨⟨h,I⟩,U,_⟩:=t.i.ex _ _ e;have U:=U (fun _ _ _ h=>by cases h);obtain⟨h1,h2⟩:=t.i.hs _ _ I;obtain⟨N3,cH,q,A⟩:=TA (k:=X.k) i (fnds:=[]) (Tks.nil N) nx a b d w h firm Y Z l1 l2 ne t.w.free rm B z x e I h1 h2;obtain⟨J,y⟩:=t.i.se x z W I;obtain⟨N',j,K,O,p,S⟩:=t.keep A q rfl J y (t.cells A y) t.nd t.ok t.le ⟨by simp,by simp,by simp,by simp,by simp,by simp,by simp⟩;have e4:N'.st=_:=lu Tz.st p;exact⟨N',j,_,w,K,O,by rw[p];exact y,S,by rw[e4];exact kN x,by show N'.tz.pc _=_;rw[p];exact U,fun nw=>by rw[p];exact nw⟩
theorem TT.na{s:Bool}{c:Int}(t:TT X ((a,b,⟨.na s c,d,firm⟩)::pend) done cs N nx (m+300))(W:3<=d):
  ∃N' j o v,Told X pend a b ⟨.na s c,d,firm⟩ done cs N nx m (fun N' v=>N'.tz.pc v=(.na s,jA c)) N' j o v:=by
 obtain⟨Y,Z,l1,l2,ne⟩:=t.qk;obtain⟨u1,z,x⟩:=t.us _ fB (by show 0<=d;omega);simp only at u1 z x;have rm:cF N nx 200:=t.rm.less (by omega) (by omega);have B:∀j,j<=nx+30->cF N j 100:=fun j h=>t.rm.less (by omega) (by omega)
 cases e:N.ex.lookup (.na s c)with|none=>obtain⟨N3,cH,q,A⟩:=Tt (k:=X.k) s c (fnds:=[]) (Tks.nil N) nx a b d firm Y Z l1 l2 ne t.w.free rm B z x e t.i.E4 t.i.BJ t.i.kZ;obtain⟨J,y,i3⟩:=t.i.nu (e:=.na s c) x z W e (fun c u h=>by cases h) (fun _ _ _ h=>by cases h);obtain⟨N',j,K,O,p,S⟩:=t.keep A q rfl J y (t.cells A y) t.nd t.ok t.le ⟨by simp,by simp,by simp,by simp,by simp,by simp,by simp⟩;have I:N'.st=_:=lu Tz.st p;exact⟨N',j,_,N.n+1,K,O,by rw[p];exact y,S,by rw[I];exact kN x,by show N'.tz.pc _=_;rw[p];exact i3,fun nw=>by rw[p];exact nw.nu d (fun _ _ _ h=>by cases h)⟩|some w=>obtain⟨⟨h,I⟩,U,_⟩:=t.i.ex _ _ e;have U:=U (fun _ _ _ h=>by cases h);obtain⟨h1,h2⟩:=t.i.hs _ _ I;obtain⟨N3,cH,q,A⟩:=Tu (k:=X.k) s c (fnds:=[]) (Tks.nil N) nx a b d w h firm Y Z l1 l2 ne t.w.free rm B z x e I h1 h2;obtain⟨J,y⟩:=t.i.se x z W I;obtain⟨N',j,K,O,p,S⟩:=t.keep A q rfl J y (t.cells A y) t.nd t.ok t.le ⟨by simp,by simp,by simp,by simp,by simp,by simp,by simp⟩;have e4:N'.st=_:=lu Tz.st p;exact⟨N',j,_,w,K,O,by rw[p];exact y,S,by rw[e4];exact kN x,by show N'.tz.pc _=_;rw[p];exact U,fun nw=>by rw[p];exact nw⟩
theorem iM.Px{t j e:Tz}(h:iM (-1) t j)(h':iM d j e):iM d t e:=h.trans h' (.inr (by omega)) (.inl rfl)
theorem TT.ad{x c:Int}(t:TT X ((a,b,⟨.ad x c,d,firm⟩)::pend) done cs N nx (m+300))(Z:3<=d)(ho:N.on.lookup x=some ())(hx:3<=x->∃v,N.st.lookup x=some v):
  ∃N' j o v,Told X pend a b ⟨.ad x c,d,firm⟩ done cs N nx m (fun N' v=>∃u,N'.st.lookup x=some u/\N'.tz.pc v=((N'.tz.pc u).1,jA ((N'.tz.pc u).2+c))) N' j o v:=by
 obtain⟨g1,g2,l1,l2,ne⟩:=t.qk;obtain⟨u1,u2,u3⟩:=t.us _ fB (by show 0<=d;omega);simp only at u1 u2 u3;obtain⟨p,u,h,T,I,W,j3,j4,j5,j6,j7,j8,j9⟩:=Hs t.i ho hx;have T2:Tks N (bR [.r x,.k c]) p [vv u,kv c] (bR [.r h,.k c]):=.cons T (.cons (.k c) (.nil p));have f1:=Ht T;have rm:cF N nx 200:=t.rm.less (by omega) (by omega);have O:∀j,j<=nx+30->cF p j 100:=fun j h=>T.room (nx:=nx+30) (t.rm.less (by omega) (by omega)) (by omega)
 have z:p.on.lookup d=some ():=by have:p.on=N.on:=W.on;rw[this];exact u2
 have y:p.st.lookup d=none:=(W.old d Z (by omega)).trans u3;have S:u<=p.n:=(I.sh _ _ j3).1;cases e:p.ex.lookup (.ad c u)with
 |none=>
  obtain⟨N3,cH,q,A⟩:=TB (k:=X.k) x u c T2 nx a b d firm g1 g2 l1 l2 ne t.w.free rm O z y e I.E4 I.BJ I.kZ;obtain⟨i1,Y,i3⟩:=I.nu (e:=.ad c u) y z Z e (fun c u h=>by cases h;exact S) (fun _ _ _ h=>by cases h);have J:=W.Px Y;have U:=t.cells A J;rw[←j5]at U;obtain⟨N',j,s1,s2,B,s4⟩:=t.keep A q j6 i1 J U t.nd t.ok t.le ⟨by simp;omega,by simp;omega,by simp;omega,by simp;omega,by simp;omega,by simp;omega,by simp;omega⟩;have K:N'.st=_:=lu Tz.st B;refine⟨N',j,_,p.n+1,s1,s2,by rw[B];exact J,s4.trans j7,by rw[K];exact kN y,⟨u,by rw[K];exact kb j3,?_⟩,fun nw=>by rw[B];exact qB.nu (t:=p.tz) (fun s w u=>by show p.ex.lookup _=none;rw[j9];exact nw s w u) d (fun _ _ _ h=>by cases h)⟩;show N'.tz.pc _=_
  rw[B];show(p.tz.nu (.ad c u) d).pc (p.n+1)=(((p.tz.nu (.ad c u) d).pc u).1,jA (((p.tz.nu (.ad c u) d).pc u).2+c))
  rw[Y.pc u S];exact i3
 |some w=>
  obtain⟨⟨h',K⟩,e2,_⟩:=I.ex _ _ e;have e2:=e2 (fun _ _ _ h=>by cases h);obtain⟨h1,h2⟩:=I.hs _ _ K;obtain⟨N3,cH,q,A⟩:=TC (k:=X.k) x u c T2 nx a b d w h' firm g1 g2 l1 l2 ne t.w.free rm O z y e K h1 h2;obtain⟨i1,Y⟩:=I.se y z Z K;have J:=W.Px Y;have U:=t.cells A J;rw[←j5]at U;obtain⟨N',j,s1,s2,B,s4⟩:=t.keep A q j6 i1 J U t.nd t.ok t.le ⟨by simp;omega,by simp;omega,by simp;omega,by simp;omega,by simp;omega,by simp;omega,by simp;omega⟩;have e4:N'.st=_:=lu Tz.st B;refine⟨N',j,_,w,s1,s2,by rw[B];exact J,s4.trans j7,by rw[e4];exact kN y,⟨u,by rw[e4];exact kb j3,?_⟩,fun nw=>by rw[B];exact fun s w u=>by show p.ex.lookup _=none;rw[j9];exact nw s w u⟩;show N'.tz.pc _=_
  rw[B];exact e2
end
structure Mem(X:Fx)(pend:List Pd)(a b:Nat)(r:cq)(done:List (Nat×fH))(N:Ns)(nx m:Nat)(lA:List eV)(N':Ns)(mv:Nat)(o:fH):Prop where
 t:TT X pend (done++[(a,o)]) lA N' mv m
 go:Go X ((a,b,r)::pend) done N nx pend (done++[(a,o)]) N' mv
 x:iM r.d N.tz N'.tz
 pr:N'.pr=N.pr
structure tT(X:Fx)(pend:List Pd)(a b:Nat)(r:cq)(done:List (Nat×fH))(N:Ns)(nx m:Nat)(lA:List eV)(N':Ns)(mv:Nat)(o:fH):Prop where
 m:Mem X pend a b r done N nx m lA N' mv o
 nw:qB N.tz->qB N'.tz
section
variable{X:Fx}{pend:List Pd}{done:List (Nat×fH)}{cs:List eV}{N:Ns}{nx m a b:Nat}{d:Int}{firm:Bool}
theorem TT.E5{p:List Pd}(t:TT X p done cs N nx m){x v:Int}(e:N.st.lookup x=some v):∃h,Tks N (bR [.r x]) N [vv v] (bR [.r h]):=by obtain⟨_,h,hh⟩:=t.i.sh _ _ e;obtain⟨j,o⟩:=t.i.hs _ _ hh;exact⟨h,.cons (.known x v h (t.i.so _ _ e) e hh j o) (.nil N)⟩
theorem TT.E6{p:List Pd}(t:TT X p done cs N nx (m+300)){x v y:Int}(q:N.st.lookup x=some v)(ho:N.on.lookup y=some ())(hk:3<=y->∃v,N.st.lookup y=some v):
  ∃e u h o,Tks N (bR [.r x,.r y]) e [vv v,vv u] (bR [.r h,.r o])/\Inv e.tz/\iM (-1) N.tz e.tz/\e.st.lookup y=some u/\e.hd.lookup u=some o/\e.ce=N.ce/\e.fn=N.fn/\e.pr=N.pr/\(y<3->o=y)/\e.ex=N.ex/\dc e v=N.tz.pc v/\(∀j,j<=nx+30->cF e j 100)/\
   e.st.length<=N.st.length+1/\e.ce.length<=N.ce.length/\e.pl.length<=N.pl.length/\e.fo.length<=N.fo.length/\e.ex.length<=N.ex.length/\e.hd.length<=N.hd.length+1/\e.lg.length<=N.lg.length+1:=by
 obtain⟨B,h,hh⟩:=t.i.sh _ _ q;obtain⟨I,J⟩:=t.i.hs _ _ hh;obtain⟨e,u,o,T,K,z,O,S,U,W,Y,Z,j9⟩:=Hs t.i ho hk;exact⟨e,u,h,o,.cons (.known x v h (t.i.so _ _ q) q hh I J) (.cons T (.nil e)),K,z,O,S,U,W,Y,Z,j9,z.pc v B,fun j h=>T.room (nx:=nx+30) (t.rm.less (by omega) (by omega)) (by omega),Ht T⟩
theorem TT.rooms{p:List Pd}(t:TT X p done cs N nx (m+300)):cF N nx 200/\∀e,e<=nx+30->cF N e 100:=⟨t.rm.less (by omega) (by omega),fun e h=>t.rm.less (by omega) (by omega)⟩
theorem TT.Hu{x w v:Int}{sg:Bool}(t:TT X ((a,b,⟨.lo x w sg,d,true⟩)::pend) done cs N nx (m+300))(h3:3<=d)(B:N.st.lookup x=some v):
  ∃N' e h,tT X pend a b ⟨.lo x w sg,d,true⟩ done N nx m cs N' e ⟨8,d,[.r h]⟩:=by
 obtain⟨I,J,K,O,ne⟩:=t.qk;obtain⟨S,j,o⟩:=t.us _ fB (by show 0<=d;omega);simp only at S j o;obtain⟨rm,p⟩:=t.rooms;obtain⟨h,T⟩:=t.E5 B;obtain⟨N3,cH,q,A⟩:=RQ (k:=X.k) T nx a b d K O ne t.w.free rm p I J j o t.i.kZ;obtain⟨U,y⟩:=t.i.fi o j;obtain⟨N',e,W,Y,z,Z⟩:=t.keep A q rfl U y (t.cells A y) t.nd t.ok t.le ⟨by simp,by simp,by simp,by simp,by simp,by simp,by simp⟩;exact⟨N',e,h,⟨W,Y,by rw[z];exact y,Z⟩,fun nw=>by rw[z];exact nw⟩
theorem TT.MG{x w v:Int}{sg:Bool}(t:TT X ((a,b,⟨.lo x w sg,d,false⟩)::pend) done cs N nx (m+300))(h3:3<=d)(Y:N.st.lookup x=some v)(Z:w=4∨w=1∨w=2){B:Bs}{o:Int}(hp:N.tz.pc v=(B,o))(hB:ik B)(U:fj cs ⟨B,o,w⟩=none)(hl:cs.length<=2):
  ∃N' z h,tT X pend a b ⟨.lo x w sg,d,false⟩ done N nx m (cs++[⟨⟨B,o,w⟩,d,kA w sg⟩]) N' z ⟨8,d,[.r h]⟩:=by
 obtain⟨g1,g2,l1,l2,ne⟩:=t.qk;obtain⟨u1,I,J⟩:=t.us _ fB (by show 0<=d;omega);simp only at u1 I J;obtain⟨rm,K⟩:=t.rooms;obtain⟨h,T⟩:=t.E5 Y;have j:dc N v=(B,o):=hp;have O:=t.co.none U;obtain⟨N3,cH,c,q,A,z1,z2,z3⟩:=RS (k:=X.k) T nx a b d l1 l2 ne t.w.free rm K g1 g2 Z I J t.i.kZ (by rw[j];exact O);obtain⟨i1,S⟩:=t.i.fi J I;rw[j]at A;have cc:=CO.snoc (k:=⟨B,o,w⟩) z2 z1 (kN (v:=d) t.i.kZ) (t.cells A S);have hk:∀q∈cs,q.k≠⟨B,o,w⟩:=fun q j e=>by have:=List.find?_eq_none.mp U q j;simp[e]at this
 obtain⟨N',z,s1,s2,W,s4⟩:=t.keep A q rfl i1 S cc (by
   rw[lJ];refine List.nodup_append.mpr ⟨t.nd,by simp,fun p hp q j e=>?_⟩;rw[gf,m8,kP]at j;obtain⟨y,y1,y2⟩:=kq.mp hp;exact hk y y1 (by rw[y2,e,j])) (fun q j=>by
   rcases pJ.mp j with h|h
   ·exact t.ok q h
   ·rw[kP]at h;subst h;exact hB) (by simp;omega) ⟨by simp,by simp,by simp,by simp,by simp,by simp,by simp⟩
 exact⟨N',z,h,⟨s1,s2,by rw[W];exact S,s4⟩,fun nw=>by rw[W];exact nw⟩
theorem TT.Xo{x w v:Int}{sg:Bool}(t:TT X ((a,b,⟨.lo x w sg,d,false⟩)::pend) done cs N nx (m+300))(S:3<=d)(U:N.st.lookup x=some v)(W:w=4∨w=1∨w=2){B:Bs}{o:Int}(hp:N.tz.pc v=(B,o)){q:eV}(Y:fj cs ⟨B,o,w⟩=some q)(hh:q.h=kA w sg):
  ∃N' j,tT X pend a b ⟨.lo x w sg,d,false⟩ done N nx m cs N' j ⟨6,d,[.r q.r]⟩:=by
 obtain⟨K,Z,l1,l2,ne⟩:=t.qk;obtain⟨u1,p,y⟩:=t.us _ fB (by show 0<=d;omega);simp only at u1 p y;obtain⟨rm,z⟩:=t.rooms;obtain⟨h,T⟩:=t.E5 U;have hq:dc N v=(B,o):=hp;obtain⟨c,u,c1,c2,c3,c4⟩:=t.co.some Y;obtain⟨h1,h2⟩:=t.i.hs _ _ c4;have I:c≠a:=fun e=>by rw[e,K]at c3;injection c3 with c3;cases c3
 rw[hh]at c3;obtain⟨N3,cH,q',A⟩:=RT (k:=X.k) T nx a b d l1 l2 ne t.w.free rm z K Z W p y (by rw[hq];exact c1) I c2 c3 c4 h1 h2;obtain⟨i1,J⟩:=t.i.se y p S c4;obtain⟨N',j,s1,s2,O,s4⟩:=t.keep A q' rfl i1 J (t.cells A J) t.nd t.ok t.le ⟨by simp,by simp,by simp,by simp,by simp,by simp,by simp⟩;exact⟨N',j,⟨s1,s2,by rw[O];exact J,s4⟩,fun nw=>by rw[O];exact nw⟩
theorem TT.ZV{x w v:Int}{sg:Bool}(t:TT X ((a,b,⟨.lo x w sg,d,false⟩)::pend) done cs N nx (m+300))(S:3<=d)(U:N.st.lookup x=some v)(W:w=1∨w=2){B:Bs}{o:Int}(hp:N.tz.pc v=(B,o)){q:eV}(Y:fj cs ⟨B,o,w⟩=some q)(hh:(q.h==kA w sg)=false)(j:q.h<1000)(nw:qB N.tz):
  ∃N' p,Mem X pend a b ⟨.lo x w sg,d,false⟩ done N nx m cs N' p ⟨mO sg (decide (w=2)),d,[.r q.r]⟩:=by
 obtain⟨O,Z,l1,l2,ne⟩:=t.qk;obtain⟨u1,y,z⟩:=t.us _ fB (by show 0<=d;omega);simp only at u1 y z;obtain⟨rm,I⟩:=t.rooms;obtain⟨h,T⟩:=t.E5 U;have hq:dc N v=(B,o):=hp;obtain⟨c,u,c1,c2,c3,c4⟩:=t.co.some Y;obtain⟨h1,h2⟩:=t.i.hs _ _ c4;have J:c≠a:=fun e=>by rw[e,O]at c3;injection c3 with c3;cases c3
 obtain⟨N3,cH,q',A⟩:=R9 (k:=X.k) T nx a b d l1 l2 ne t.w.free rm I O Z W y z (by rw[hq];exact c1) J c2 c3 j hh c4 h1 h2 t.i.kZ (nw _ _ _) t.i.E4;obtain⟨i1,K⟩:=t.i.wd (s:=sg) (w:=decide (w=2)) (u:=u) z y S;obtain⟨N',p,s1,s2,s3,s4⟩:=t.keep A q' rfl i1 K (t.cells A K) t.nd t.ok t.le ⟨by simp,by simp,by simp,by simp,by simp,by simp,by simp⟩;exact⟨N',p,⟨s1,s2,by rw[s3];exact K,s4⟩⟩
end
section
variable{X:Fx}{pend:List Pd}{done:List (Nat×fH)}{cs:List eV}{N:Ns}{nx m a b:Nat}{d:Int}{firm:Bool}
theorem CV{cs:List eV}(f:eV->Bool)(h:(cs.map (·.k)).Nodup):((cs.filter f).map (·.k)).Nodup:=h.sublist (List.filter_sublist.map _)
theorem TT.E7{p:List Pd}(t:TT X p done cs N nx m){j:Ns}(e:j.ce=N.ce):j.ce.length<=3/\(∀q∈j.ce,ik q.1.b)/\(j.ce.map (·.1)).Nodup:=by rw[e];refine⟨by rw[t.co.len];exact t.le,fun q o=>?_,by rw[t.co.keys];exact t.nd⟩;have:q.1∈N.ce.map (·.1):=List.mem_map_of_mem o;rw[t.co.keys]at this;obtain⟨y,x,z⟩:=kq.mp this;rw[←z];exact t.ok y x
theorem TT.E8{r:cq}(t:TT X ((a,b,r)::pend) done cs N nx m):X.sl≠a:=fun e=>by have:=t.w.pE;rw[e,t.qk.1]at this;cases this
abbrev o9(e:Ck->Bool)(cs:List eV):List eV:=cs.filter fun q=>!e q.k
theorem TT.Je{x y w v:Int}(t:TT X ((a,b,⟨.st x y w,-1,true⟩)::pend) done cs N nx (m+300))(Z:N.st.lookup x=some v)(hy:N.on.lookup y=some ())(hk:3<=y->∃v,N.st.lookup y=some v)(hw:0<w){B:Bs}{o:Int}(hp:N.tz.pc v=(B,o))(hB:ik B):
  ∃N' j l,tT X pend a b ⟨.st x y w,-1,true⟩ done N nx m (o9 (fun k=>hH N.pr k ⟨B,o,w⟩) cs) N' j ⟨9,-1,l⟩:=by
 obtain⟨g1,g2,l1,l2,ne⟩:=t.qk;obtain⟨rm,_⟩:=t.rooms;obtain⟨O,u,h,h',T,j1,J,j3,j4,S,U,W,j8,j9,z,K,f1,f2,f3,f4,f5,f6,f7⟩:=t.E6 Z hy hk;obtain⟨k1,k2,k3⟩:=t.E7 S;obtain⟨q1,q2,q3,q4,_⟩:=t.w.lt;rw[hp]at z;obtain⟨N3,cH,e,lg,q,aa,A⟩:=RG (k:=X.k) T nx a b (-1) l1 l2 ne t.w.free rm K t.w.fun q3 q4 U t.E8 (by omega) k2 k3 hw g1 g2 (by rw[z];exact hB);rw[z,W]at A;have I:=t.cells A J;rw[←S]at I;have I:=CO.filter (fun k=>!hH N.pr k ⟨B,o,w⟩) I;have hf:=qU (fun p:Ck×Nat=>!hH N.pr p.1 ⟨B,o,w⟩) O.ce;have ab:=qU (fun q:eV=>!hH N.pr q.k ⟨B,o,w⟩) cs;obtain⟨N',j,s1,s2,Y,s4⟩:=t.keep A q U j1 J I (CV _ t.nd) (fun q hq=>t.ok q (vT.mp hq).1) (by have:=t.le;omega) ⟨by simp;omega,by simp only;omega,by simp;omega,by simp;omega,by simp;omega,by simp;omega,by simp only;omega⟩;exact⟨N',j,_,⟨s1,s2,by rw[Y];exact J,s4.trans W⟩,fun nw=>by rw[Y];exact fun s w u=>by show O.ex.lookup _=none;rw[j9];exact nw s w u⟩
theorem TT.E9{x y w v:Int}(t:TT X ((a,b,⟨.st x y w,-1,false⟩)::pend) done cs N nx (m+300))(hv:N.st.lookup x=some v)(hy:N.on.lookup y=some ())(hk:y<3)(hw:0<w){B:Bs}{o:Int}(hp:N.tz.pc v=(B,o))(hB:ik B)(hc:∀q,fj cs ⟨B,o,w⟩=some q->q.r≠y)(hl:cs.length<=2):
  ∃N' z l,tT X pend a b ⟨.st x y w,-1,false⟩ done N nx m (o9 (fun k=>hH N.pr k ⟨B,o,w⟩) cs++[⟨⟨B,o,w⟩,y,13⟩]) N' z ⟨9,-1,l⟩:=by
 obtain⟨g1,g2,l1,l2,ne⟩:=t.qk;obtain⟨rm,_⟩:=t.rooms;obtain⟨I,u,h,h',T,j1,J,j3,j4,U,j6,j7,j8,j9,j,W,f1,f2,f3,f4,f5,f6,f7⟩:=t.E6 hv hy (fun h=>by omega);obtain⟨k1,k2,k3⟩:=t.E7 U;obtain⟨q1,q2,q3,q4,_⟩:=t.w.lt;rw[hp]at j;have e8:=j8 hk;subst e8;have Y:I.ce.lookup ⟨B,o,w⟩=none∨∃c K h,I.ce.lookup ⟨B,o,w⟩=some c/\c≠a/\c<nx/\N.g c=.inst 3 [(16,vv K),(17,.str h)]/\K≠u:=by
  rw[U];cases e:fj cs ⟨B,o,w⟩with
  |none=>exact .inl (t.co.none e)
  |some p=>
   obtain⟨c,K,c1,c2,c3,c4⟩:=t.co.some e;have Z:c≠a:=fun e=>by rw[e,g1]at c3;injection c3 with c3;cases c3
   refine .inr ⟨c,K,p.h,c1,Z,c2,c3,fun e'=>?_⟩;have:=J.hd _ _ c4;rw[e',show I.tz.hd.lookup u=I.hd.lookup u from rfl,j4]at this;exact hc p e (nM this).symm
 obtain⟨N3,cH,e,lg,c,q,aa,A,z1,z2,z3⟩:=Rx (k:=X.k) T nx a b (-1) l1 l2 ne t.w.free rm W t.w.fun q3 q4 j6 t.E8 (by omega) k2 k3 hw g1 g2 (by rw[j];exact hB) (by rw[j];exact Y);rw[j,j7]at A;have O:=t.cells A J;rw[←U]at O;have O:=CO.snoc (k:=⟨B,o,w⟩) z2 z1 j4 (CO.filter (fun k=>!hH N.pr k ⟨B,o,w⟩) O);have hf:=qU (fun p:Ck×Nat=>!hH N.pr p.1 ⟨B,o,w⟩) I.ce;have ab:=qU (fun q:eV=>!hH N.pr q.k ⟨B,o,w⟩) cs;obtain⟨N',z,s1,s2,s3,s4⟩:=t.keep A q j6 j1 J O (by
   rw[lJ];refine List.nodup_append.mpr ⟨CV _ t.nd,by simp,fun p hp q S e=>?_⟩;rw[gf,m8,kP]at S;obtain⟨y,y1,y2⟩:=kq.mp hp;have y3:=(vT.mp y1).2;rw[y2,e,S,Lb _ _ hw]at y3;cases y3) (fun q S=>by
   rcases pJ.mp S with h|h
   ·exact t.ok q (vT.mp h).1
   ·rw[kP]at h;subst h;exact hB) (by rw[cU];simp only[cT,cQ];omega) ⟨by simp;omega,by simp only[cU,cT,cQ];omega,by simp;omega,by simp;omega,by simp;omega,by simp;omega,by simp only[cU,cT,cQ];omega⟩
 exact⟨N',z,_,⟨s1,s2,by rw[s3];exact J,s4.trans j7⟩,fun nw=>by rw[s3];exact fun s w u=>by show I.ex.lookup _=none;rw[j9];exact nw s w u⟩
theorem TT.std{x y w v:Int}(t:TT X ((a,b,⟨.st x y w,-1,false⟩)::pend) done cs N nx (m+300))(U:N.st.lookup x=some v)(W:N.on.lookup y=some ())(hk:y<3){B:Bs}{o:Int}(hp:N.tz.pc v=(B,o)){q:eV}(Y:fj cs ⟨B,o,w⟩=some q)(Z:q.r=y):
  ∃N' j,TT X pend done cs N' j m/\Go X ((a,b,⟨.st x y w,-1,false⟩)::pend) done N nx pend done N' j/\iM (-1) N.tz N'.tz/\N'.pr=N.pr:=by
 obtain⟨K,g2,l1,l2,ne⟩:=t.qk;obtain⟨rm,_⟩:=t.rooms;obtain⟨N1,u,h,h',T,j1,z,j3,j4,O,j6,j7,j8,j9,p,I,f1,f2,f3,f4,f5,f6,f7⟩:=t.E6 U W (fun h=>by omega);rw[hp]at p;obtain⟨c,u',c1,c2,c3,c4⟩:=t.co.some Y;have c5:N1.st.lookup q.r=some u':=z.st _ _ (t.i.hs _ _ c4).2;rw[Z,j3]at c5;cases c5;have J:c≠a:=fun e=>by rw[e,K]at c3;injection c3 with c3;cases c3
 obtain⟨N3,cH,q',A⟩:=RF (k:=X.k) T nx a b (-1) l1 l2 ne t.w.free rm I K g2 (by rw[p,O];exact c1) J c2 c3;have S:=t.cells A z;rw[←O]at S;obtain⟨s1,s2,s3,s4⟩:=t.drop A q' j6 j1 z S t.nd t.ok t.le ⟨by omega,by omega,by omega,by omega,by omega,by omega,by omega⟩;exact⟨N3,cH,s1,s2,by rw[s3];exact z,s4.trans j7⟩
theorem TT.mo{x y w v:Int}(t:TT X ((a,b,⟨.mo x y w,-1,firm⟩)::pend) done cs N nx (m+300))(Z:N.st.lookup x=some v)(hy:N.on.lookup y=some ())(hk:3<=y->∃v,N.st.lookup y=some v){B:Bs}{o:Int}(hp:N.tz.pc v=(B,o))(hB:ik B):
  ∃N' j l,tT X pend a b ⟨.mo x y w,-1,firm⟩ done N nx m (o9 (fun k=>hH N.pr k ⟨B,o,w⟩) cs) N' j ⟨10,-1,l⟩:=by
 obtain⟨g1,g2,l1,l2,ne⟩:=t.qk;obtain⟨rm,_⟩:=t.rooms;obtain⟨O,u,h,h',T,j1,J,j3,j4,S,U,W,j8,j9,z,K,f1,f2,f3,f4,f5,f6,f7⟩:=t.E6 Z hy hk;obtain⟨k1,k2,k3⟩:=t.E7 S;obtain⟨q1,q2,q3,q4,_⟩:=t.w.lt;rw[hp]at z;obtain⟨N3,cH,e,lg,q,aa,A⟩:=VH (k:=X.k) T nx a b (-1) l1 l2 ne t.w.free rm K firm t.w.fun q3 q4 U t.E8 (by omega) k2 k3 g1 g2 (by rw[z];exact hB);rw[z,W]at A;have I:=t.cells A J;rw[←S]at I;have I:=CO.filter (fun k=>!hH N.pr k ⟨B,o,w⟩) I;have hf:=qU (fun p:Ck×Nat=>!hH N.pr p.1 ⟨B,o,w⟩) O.ce;have ab:=qU (fun q:eV=>!hH N.pr q.k ⟨B,o,w⟩) cs;obtain⟨N',j,s1,s2,Y,s4⟩:=t.keep A q U j1 J I (CV _ t.nd) (fun q hq=>t.ok q (vT.mp hq).1) (by have:=t.le;omega) ⟨by simp;omega,by simp only;omega,by simp;omega,by simp;omega,by simp;omega,by simp;omega,by simp only;omega⟩;exact⟨N',j,_,⟨s1,s2,by rw[Y];exact J,s4.trans W⟩,fun nw=>by rw[Y];exact fun s w u=>by show O.ex.lookup _=none;rw[j9];exact nw s w u⟩
theorem TT.ca{x:Int}(t:TT X ((a,b,⟨.ca x,-1,firm⟩)::pend) done cs N nx (m+300))(S:N.on.lookup x=some ())(hk:3<=x->∃v,N.st.lookup x=some v):
  ∃N' j l,tT X pend a b ⟨.ca x,-1,firm⟩ done N nx m (o9 (fun k=>!(kz N.pr k.b&&jK k)) cs) N' j ⟨25,-1,l⟩:=by
 obtain⟨U,W,Y,Z,ne⟩:=t.qk;obtain⟨rm,_⟩:=t.rooms;obtain⟨o,u,h',T,j1,z,j3,j4,I,J,K,j8,j9⟩:=Hs t.i S hk;have B:∀j,j<=nx+30->cF o j 100:=fun j h=>T.room (nx:=nx+30) (t.rm.less (by omega) (by omega)) (by omega)
 obtain⟨f1,f2,f3,f4,f5,f6,f7⟩:=Ht T;have T2:Tks N (bR [.r x]) o [vv u] (bR [.r h']):=.cons T (.nil o);obtain⟨k1,k2,k3⟩:=t.E7 I;obtain⟨q1,q2,q3,q4,_⟩:=t.w.lt;obtain⟨N3,cH,e,lg,q,aa,A⟩:=VI (k:=X.k) T2 nx a b Y Z ne t.w.free rm B firm t.w.fun q3 q4 J t.E8 (by omega) k2 k3 U W;rw[K]at A;have y:=t.cells A z;rw[←I]at y;have y:=CO.filter (fun k=>!!(kz N.pr k.b&&jK k)) y;have hf:=qU (fun p:Ck×Nat=>!!(kz N.pr p.1.b&&jK p.1)) o.ce;have ab:=qU (fun q:eV=>!!(kz N.pr q.k.b&&jK q.k)) cs;obtain⟨N',j,s1,s2,O,s4⟩:=t.keep A q J j1 z y (CV _ t.nd) (fun q hq=>t.ok q (vT.mp hq).1) (by have:=t.le;omega) ⟨by simp;omega,by simp only;omega,by simp;omega,by simp;omega,by simp;omega,by simp;omega,by simp only;omega⟩;exact⟨N',j,_,⟨s1,s2,by rw[O];exact z,s4.trans K⟩,fun nw=>by rw[O];exact fun s w u=>by show o.ex.lookup _=none;rw[j9];exact nw s w u⟩
end
def rb(base_q:Int):Int:=if base_q=0 then 3 else if base_q=1 then 4 else if base_q=2 then 5 else if base_q=3 then 6 else 0
def hU(goal base_q off_q way:Int):List cq:=
 bif(decide (base_q=2)||decide (base_q=3))&&decide (Int.fmod way 4=2)then[⟨.na (decide (base_q=3)) off_q,goal,false⟩]
 else bif decide (Int.fmod way 2=0)then[⟨.ad (rb base_q) off_q,goal,false⟩]
 else[⟨.ad (rb base_q) (Int.fmod (off_q+way) 4294967296),goal+1,false⟩,⟨.ad (goal+1) (Int.fmod (-way) 4294967296),goal,false⟩]
def ji:List cq:=[⟨.sl 0,3,false⟩,⟨.sl 1,4,false⟩,⟨.na false 0,5,false⟩,⟨.na true 0,6,false⟩]
def ip(n:Nat):List cq->List Pd
 |[]=>[]
 |r::e=>(n+1,n,r)::ip (n+10) e
structure n5(t t':Tz):Prop where
 on:t'.on=t.on
 n:t.n<=t'.n
 st:∀r v,t.st.lookup r=some v->t'.st.lookup r=some v
 hd:∀v r,t.hd.lookup v=some r->t'.hd.lookup v=some r
 pc:∀v,v<=t.n->t'.pc v=t.pc v
theorem n5.trans{t j e:Tz}(h:n5 t j)(h':n5 j e):n5 t e:=⟨h'.on.trans h.on,Int.le_trans h.n h'.n,fun r v q=>h'.st r v (h.st r v q),fun r v q=>h'.hd r v (h.hd r v q),fun v q=>(h'.pc v (Int.le_trans q h.n)).trans (h.pc v q)⟩
theorem iM.grow{d:Int}{t e:Tz}(h:iM d t e):n5 t e:=⟨h.on,h.n,h.st,h.hd,h.pc⟩
theorem n5.refl(t:Tz):n5 t t:=(iM.refl 0 t).grow
def At(N:Ns)(x:Int)(p:Bs×Int):Prop:=∃v,N.st.lookup x=some v/\N.tz.pc v=p
theorem At.grow{N N':Ns}{x:Int}{p:Bs×Int}(h:At N x p)(i:Inv N.tz)(g:n5 N.tz N'.tz):At N' x p:=by obtain⟨v,e,j⟩:=h;exact⟨v,g.st _ _ e,(g.pc v (i.sh _ _ e).1).trans j⟩
def oV(N:Ns)(base_q:Int)(B:Bs):Prop:=(base_q=0/\B=.sl 0)∨(base_q=1/\B=.sl 1)∨(base_q=2/\B=.na false)∨(base_q=3/\B=.na true)∨(base_q=4/\∃u,N.st.lookup 0=some u/\B=.va u)
theorem oV.grow{N N':Ns}{x:Int}{p:Bs}(h:oV N x p)(g:n5 N.tz N'.tz):oV N' x p:=by
 rcases h with h|h|h|h|⟨h,u,e,j⟩
 ·exact .inl h
 ·exact .inr (.inl h)
 ·exact .inr (.inr (.inl h))
 ·exact .inr (.inr (.inr (.inl h)))
 ·exact .inr (.inr (.inr (.inr ⟨h,u,g.st _ _ e,j⟩)))
structure Ph(X:Fx)(p:List Pd)(done:List (Nat×fH))(N:Ns)(nx:Nat)(p':List Pd)(ZW:List (Nat×fH))(N':Ns)(mv:Nat):Prop where
 go:Go X p done N nx p' ZW N' mv
 gr:n5 N.tz N'.tz
 pr:N'.pr=N.pr
 nw:qB N.tz->qB N'.tz
theorem Ph.trans{X:Fx}{p y j:List Pd}{d z o:List (Nat×fH)}{N N' t:Ns}{nx x e:Nat}(h:Ph X p d N nx y z N' x)(h':Ph X y z N' x j o t e):Ph X p d N nx j o t e:=⟨fun{_ _ _} q=>h.go (h'.go q),h.gr.trans h'.gr,h'.pr.trans h.pr,fun q=>h'.nw (h.nw q)⟩
theorem Ph.refl(X:Fx)(p:List Pd)(d:List (Nat×fH))(N:Ns)(nx:Nat):Ph X p d N nx p d N nx:=⟨Go.refl _ _ _ _ _,n5.refl _,rfl,fun h=>h⟩
theorem Told.ph{X:Fx}{pend:List Pd}{a b:Nat}{r:cq}{done:List (Nat×fH)}{cs:List eV}{N:Ns}{nx m:Nat}{P:Ns->Int->Prop}{N':Ns}{e:Nat}{o:fH}{v:Int}(h:Told X pend a b r done cs N nx m P N' e o v):Ph X ((a,b,r)::pend) done N nx pend (done++[(a,o)]) N' e:=⟨h.go,h.x.grow,h.pr,h.nw⟩
theorem tT.ph{X:Fx}{pend:List Pd}{a b:Nat}{r:cq}{done:List (Nat×fH)}{cs:List eV}{N:Ns}{nx m:Nat}{N':Ns}{e:Nat}{o:fH}(h:tT X pend a b r done N nx m cs N' e o):Ph X ((a,b,r)::pend) done N nx pend (done++[(a,o)]) N' e:=⟨h.m.go,h.m.x.grow,h.m.pr,h.nw⟩
theorem TT.less{X:Fx}{p:List Pd}{done:List (Nat×fH)}{cs:List eV}{N:Ns}{nx m e:Nat}(t:TT X p done cs N nx e)(h:m<=e):TT X p done cs N nx m:=⟨t.w,t.i,t.rm.less (by omega) h,t.co,t.nd,t.ok,t.le,t.us,t.ds⟩
structure rT(N:Ns):Prop where
 a3:At N 3 (.sl 0,0)
 a4:At N 4 (.sl 1,0)
 a5:At N 5 (.na false,0)
 a6:At N 6 (.na true,0)
 o0:N.on.lookup 0=some ()
 o1:N.on.lookup 1=some ()
 o2:N.on.lookup 2=some ()
theorem rT.grow{N N':Ns}(h:rT N)(i:Inv N.tz)(g:n5 N.tz N'.tz):rT N':=by have e:N'.on=N.on:=g.on;exact⟨h.a3.grow i g,h.a4.grow i g,h.a5.grow i g,h.a6.grow i g,by rw[e];exact h.o0,by rw[e];exact h.o1,by rw[e];exact h.o2⟩
theorem CW{c:Int}(e:0<=c)(j:c<2147483648):jA c=c:=by unfold jA;rw[uB _ (by omega),Int.emod_eq_of_lt e (by omega)];simp[j]
theorem UR{o w:Int}(e:0<=o)(j:o<100)(p:0<=w)(q:w<100):jA (jA (0+Int.fmod (o+w) 4294967296)+Int.fmod (-w) 4294967296)=o:=by
 rw[uB _ (by omega),uB _ (by omega),CW (c:=0+(o+w)%4294967296) (by omega) (by omega)];unfold jA;rw[uB _ (by omega),show(0+(o+w)%4294967296+ -w%4294967296)%4294967296=o by omega];have:o<2147483648:=by omega
 simp[this]
section
variable{X:Fx}{pend:List Pd}{done:List (Nat×fH)}{cs:List eV}{N:Ns}{nx m a b:Nat}
theorem ZX{base_q:Int}(j:0<=base_q)(o:base_q<5)(H:rT N)(i:Inv N.tz):(base_q=4/\rb base_q=0/\N.on.lookup (rb base_q)=some ())∨(base_q≠4/\N.on.lookup (rb base_q)=some ()/\∃B,oV N base_q B/\At N (rb base_q) (B,0)):=by
 have f:∀x p,At N x p->N.on.lookup x=some ():=fun x p h=>by obtain⟨v,e,_⟩:=h;exact i.so _ _ e
 have:base_q=0∨base_q=1∨base_q=2∨base_q=3∨base_q=4:=by omega
 rcases this with rfl|rfl|rfl|rfl|rfl
 ·exact .inr ⟨by omega,f _ _ H.a3,_,.inl ⟨rfl,rfl⟩,H.a3⟩
 ·exact .inr ⟨by omega,f _ _ H.a4,_,.inr (.inl ⟨rfl,rfl⟩),H.a4⟩
 ·exact .inr ⟨by omega,f _ _ H.a5,_,.inr (.inr (.inl ⟨rfl,rfl⟩)),H.a5⟩
 ·exact .inr ⟨by omega,f _ _ H.a6,_,.inr (.inr (.inr (.inl ⟨rfl,rfl⟩))),H.a6⟩
 ·exact .inl ⟨rfl,rfl,H.o0⟩
theorem HS{base_q c d:Int}(z:0<=base_q)(I:base_q<5)(y:3<=d)(H:rT N)(t:TT X ((a,b,⟨.ad (rb base_q) c,d,false⟩)::pend) done cs N nx (m+300)):
  ∃N' j o B,TT X pend (done++[(a,o)]) cs N' j m/\Ph X ((a,b,⟨.ad (rb base_q) c,d,false⟩)::pend) done N nx pend (done++[(a,o)]) N' j/\oV N' base_q B/\At N' d (B,jA (0+c)):=by
 rcases ZX z I H t.i with⟨rfl,e,ho⟩|⟨ne,ho,B,J,v,x,hp⟩
 ·obtain⟨N',j,o,v,T⟩:=t.ad y ho (fun h=>by rw[e]at h;omega);obtain⟨u,p,q⟩:=T.p;rw[e]at p;have K:N'.tz.pc u=(.va u,0):=by
   unfold Tz.pc;rw[(T.t.i.pa 0 u (by omega) p).2]
  rw[K]at q;exact⟨N',j,o,.va u,T.t,T.ph,.inr (.inr (.inr (.inr ⟨rfl,u,p,rfl⟩))),v,T.st,q⟩
 ·obtain⟨N',j,o,w,T⟩:=t.ad y ho (fun _=>⟨v,x⟩);obtain⟨u,p,q⟩:=T.p;have O:u=v:=nM (p.symm.trans (T.x.st _ _ x));subst O;rw[T.x.pc u (t.i.sh _ _ x).1,hp]at q;exact⟨N',j,o,B,T.t,T.ph,J.grow T.x.grow,w,T.st,q⟩
theorem MH{goal base_q off_q way:Int}{n:Nat}{rest:List cq}(z:0<=base_q)(I:base_q<5)(ho:0<=off_q)(S:off_q<5)(U:0<=way)(W:way<9)(q:3<=goal)(H:rT N)(t:TT X (ip n (hU goal base_q off_q way++rest)) done cs N nx (m+600)):
  ∃n' N' e dn B,TT X (ip n' rest) (done++dn) cs N' e m/\Ph X (ip n (hU goal base_q off_q way++rest)) done N nx (ip n' rest) (done++dn) N' e/\dn.length=(hU goal base_q off_q way).length/\oV N' base_q B/\At N' goal (B,off_q):=by
 unfold hU at t⊢;cases j:(decide (base_q=2)||decide (base_q=3))&&decide (Int.fmod way 4=2)with
 |true=>
  rw[j]at t;simp only[gG,jg,fb,eY,ip]at t⊢;obtain⟨N',e,o,v,T⟩:=TT.na (m:=m+300) t q;have hp:N'.tz.pc v=(.na (decide (base_q=3)),jA off_q):=T.p;rw[CW ho (by omega)]at hp;refine⟨_,N',e,[(_,o)],.na (decide (base_q=3)),T.t.less (by omega),T.ph,rfl,?_,v,T.st,hp⟩;simp only[cY,m7,iG]at j;rcases j.1 with rfl|rfl
  ·exact .inr (.inr (.inl ⟨rfl,rfl⟩))
  ·exact .inr (.inr (.inr (.inl ⟨rfl,rfl⟩)))
 |false=>rw[j]at t;cases J:decide (Int.fmod way 2=0)with|true=>rw[J]at t;simp only[gG,jg,fb,eY,ip]at t⊢;obtain⟨N',e,o,B,T,P,x,K⟩:=HS (m:=m+300) z I q H t;rw[Int.zero_add,CW ho (by omega)]at K;exact⟨_,N',e,[(_,o)],B,T.less (by omega),P,rfl,x,K⟩|false=>rw[J]at t;simp only[gG,jg,fb,eY,ip]at t⊢;obtain⟨N1,Y,o1,B,y,Z,x,v,p,v2⟩:=HS (m:=m+300) z I (by omega:3<=goal+1) H t;obtain⟨N',e,o,w,T⟩:=TT.ad (m:=m) y q (y.i.so _ _ p) (fun _=>⟨v,p⟩);obtain⟨u,u1,O⟩:=T.p;have j:u=v:=nM (u1.symm.trans (T.x.st _ _ p));subst j;rw[T.x.pc u (y.i.sh _ _ p).1,v2,UR ho (by omega) U (by omega)]at O;exact⟨_,N',e,[(_,o1),(_,o)],B,by simpa using T.t,by simpa using Z.trans T.ph,rfl,x.grow T.x.grow,w,T.st,O⟩
theorem VZ{n:Nat}{rest:List cq}(t:TT X (ip n (ji++rest)) done cs N nx (m+1200))(o0:N.on.lookup 0=some ())(o1:N.on.lookup 1=some ())(o2:N.on.lookup 2=some ()):
  ∃n' N' q dn,TT X (ip n' rest) (done++dn) cs N' q m/\Ph X (ip n (ji++rest)) done N nx (ip n' rest) (done++dn) N' q/\dn.length=4/\rT N':=by
 unfold ji at t⊢;simp only[fb,eY,ip]at t⊢;obtain⟨B,I,J,K,x⟩:=TT.sl (m:=m+900) t (by omega);have a1:At B 3 (.sl 0,0):=⟨K,x.st,x.p⟩
 obtain⟨O,S,U,W,o⟩:=TT.sl (m:=m+600) x.t (by omega);have Y:At O 4 (.sl 1,0):=⟨W,o.st,o.p⟩
 obtain⟨N3,cH,Z,v3,j⟩:=TT.na (m:=m+300) o.t (by omega);have a3:At N3 5 (.na false,jA 0):=⟨v3,j.st,j.p⟩
 obtain⟨y,z,p4,v4,p⟩:=TT.na (m:=m) j.t (by omega);have a4:At y 6 (.na true,jA 0):=⟨v4,p.st,p.p⟩
 have s0:jA 0=0:=rfl;rw[s0]at a3 a4;have P:=((x.ph.trans o.ph).trans j.ph).trans p.ph;have e:y.on=N.on:=P.gr.on;refine⟨_,y,z,[(_,J),(_,U),(_,Z),(_,p4)],by simpa using p.t,by simpa using P,rfl,?_,?_,a3.grow j.t.i p.x.grow,a4,by rw[e];exact o0,by rw[e];exact o1,by rw[e];exact o2⟩
 ·exact((a1.grow x.t.i o.x.grow).grow o.t.i j.x.grow).grow j.t.i p.x.grow
 ·exact(Y.grow o.t.i j.x.grow).grow j.t.i p.x.grow
end
def qY(base_q off_q w cC cM e:Int)(mw:Int->Bool):Bool:=
 bif decide (base_q=cC)then decide (off_q<cM+e)&&decide (cM<off_q+w)
 else(decide (base_q=4)&&(decide (1<cC)||mw cC))||(decide (cC=4)&&(decide (1<base_q)||mw base_q))
def wC(pr:List (Int×Unit))(e:Int->Bool):Prop:=(pr.lookup 0).isSome=!e 0/\(pr.lookup 1).isSome=!e 1
def W4(w:Int):Prop:=w=4∨w=1∨w=2
theorem HT{N:Ns}{b e:Int}{B j:Bs}(h:oV N b B)(h':oV N e j):B=j↔b=e:=by
 rcases h with⟨rfl,rfl⟩|⟨rfl,rfl⟩|⟨rfl,rfl⟩|⟨rfl,rfl⟩|⟨rfl,u,p,rfl⟩<;>rcases h' with⟨rfl,rfl⟩|⟨rfl,rfl⟩|⟨rfl,rfl⟩|⟨rfl,rfl⟩|⟨rfl,q,o,rfl⟩<;>simp
 rw[p]at o;exact nM o
theorem Hv{N:Ns}{b:Int}{B:Bs}(h:oV N b B){o w:Int}(e:0<=o)(p:o<5)(j:W4 w):jK ⟨B,o,w⟩=!decide (b=4):=by
 have:o+w<=8:=by rcases j with rfl|rfl|rfl<;>omega
 rcases h with⟨rfl,rfl⟩|⟨rfl,rfl⟩|⟨rfl,rfl⟩|⟨rfl,rfl⟩|⟨rfl,u,q,rfl⟩<;>simp[jK,e,this]
theorem Hw{N:Ns}{b:Int}{B:Bs}(h:oV N b B){mw:Int->Bool}(hp:wC N.pr mw):kz N.pr B=!(decide (1<b)||mw b):=by rcases h with⟨rfl,rfl⟩|⟨rfl,rfl⟩|⟨rfl,rfl⟩|⟨rfl,rfl⟩|⟨rfl,u,e,rfl⟩<;>simp[kz,hp.1,hp.2]
theorem HU{N:Ns}{b:Int}{B:Bs}(h:oV N b B):ik B:=by rcases h with⟨rfl,rfl⟩|⟨rfl,rfl⟩|⟨rfl,rfl⟩|⟨rfl,rfl⟩|⟨rfl,u,e,rfl⟩<;>simp[ik]
theorem Ma{N:Ns}{base_q cC:Int}{B z:Bs}(h:oV N base_q B)(h':oV N cC z){j:Int->Bool}(hp:wC N.pr j){o w o' t:Int}(J:0<=o)(K:o<5)(I:W4 w)(x:0<=o')(y:o'<5)(p:W4 t):hH N.pr ⟨B,o,w⟩ ⟨z,o',t⟩=qY base_q o w cC o' t j:=by
 unfold hH qY;rw[Hv h J K I,Hv h' x y p,Hw h hp,Hw h' hp];have e:=HT h h'
 by_cases q:base_q=cC
 ·rw[oJ (e.mpr q),oJ q];simp only[gG];rw[uB _ (by omega),rM];simp only[m7,cY,iG];rcases I with rfl|rfl|rfl<;>rcases p with rfl|rfl|rfl<;>omega
 ·rw[m9 (fun c=>q (e.mp c)),m9 q];simp only[jg]
  by_cases q1:base_q=4<;>by_cases q2:cC=4
  ·omega
  ·cases j cC<;>cases j base_q<;>by_cases q3:1<cC<;>by_cases q4:1<base_q<;>simp[q1,q2,q3,q4]
  ·cases j cC<;>cases j base_q<;>by_cases q3:1<cC<;>by_cases q4:1<base_q<;>simp[q1,q2,q3,q4]
  ·cases j cC<;>cases j base_q<;>by_cases q3:1<cC<;>by_cases q4:1<base_q<;>simp[q1,q2,q3,q4]
def u4(il:Bool)(w:Int)(sg firm:Bool)(B:Bs)(o:Int):List eV:=bif firm then[]else bif il then[⟨⟨B,o,w⟩,7,kA w sg⟩]else[⟨⟨B,o,w⟩,1,13⟩]
def yr(pr:List (Int×Unit))(kind_q wide_q:Int)(e:Bs)(o':Int)(cs:List eV):List eV:=
 bif decide (kind_q=1)then o9 (fun k=>hH pr k ⟨e,o',wide_q⟩) cs++[⟨⟨e,o',wide_q⟩,2,13⟩]
 else bif decide (kind_q=4)then o9 (fun k=>hH pr k ⟨e,o',wide_q⟩) cs
 else bif decide (kind_q=2)then o9 (fun k=>!(kz pr k.b&&jK k)) cs
 else bif decide (kind_q=3)then o9 (fun k=>hH pr k ⟨e,o',4⟩) cs else cs
def kn(firm il sg:Bool)(base_q off_q w cC cM wide_q kind_q lw:Int)(mw:Int->Bool):Option (Int×Nat):=
 bif decide (kind_q=1)&&(decide (cC=base_q)&&decide (cM=off_q)&&decide (wide_q=lw))then some (2,13)
 else bif decide (kind_q=2)&&(decide (1<base_q)||mw base_q)then none
 else bif !decide (w=lw)||((decide (kind_q=1)||decide (kind_q=3)||decide (kind_q=4))&&qY base_q off_q w cC cM (bif decide (kind_q=3)then 4 else wide_q) mw)then none
 else bif firm then none else bif il then some (7,bif sg then 11 else 12)else some (1,13)
theorem Mb(c:eV)(k:Ck):fj [c] k=bif decide (c.k=k)then some c else none:=by unfold fj;rw[List.find?_cons];cases decide (c.k=k)<;>rfl
theorem V0(a b:List eV)(k:Ck):fj (a++b) k=(fj a k).or (fj b k):=List.find?_append
theorem V1(j:Ck->Bool)(c:eV):o9 j [c]=bif j c.k then[]else[c]:=by unfold o9;cases e:j c.k with|true=>simp[e]|false=>simp[e]
def n7(kn:Option (Int×Nat))(c:Option eV)(lw:Int):Prop:=match kn,c with
 |none,none=>True
 |some (r,h),some q=>q.r=r/\(h=13->q.h=13)/\(h≠13->q.h=bif decide (lw=4)then 13 else h)
 |_,_=>False
theorem ZY{il sg:Bool}{w lw:Int}(e:w=lw)(k:Ck):n7 (bif il then some (7,bif sg then 11 else 12)else some (1,13)) (some (bif il then⟨k,7,kA w sg⟩else⟨k,1,13⟩)) lw:=by subst e;cases il<;>cases sg<;>simp[n7,kA]
theorem US{N:Ns}{base_q cC:Int}{B j:Bs}(h:oV N base_q B)(h':oV N cC j){mw:Int->Bool}(hp:wC N.pr mw){off_q w cM wide_q kind_q lw:Int}{il sg firm:Bool}(W:0<=off_q)(Y:off_q<5)(U:W4 w)(y:0<=cM)(z:cM<5)(I:W4 wide_q)(hk:0<=kind_q)(ah:kind_q<6):
  n7 (kn firm il sg base_q off_q w cC cM wide_q kind_q lw mw) (fj (yr N.pr kind_q wide_q j cM (u4 il w sg firm B off_q)) ⟨B,off_q,lw⟩) lw:=by
 have e:=HT h' h;have m1:=Ma h h' hp W Y U y z I;have m2:=Ma h h' hp W Y U y z (.inl rfl:W4 4);have Z:=Hw h hp;have p2:kz N.pr B=true->jK ⟨B,off_q,w⟩=true:=fun q=>by
  rw[Hv h W Y U];rw[Z]at q
  by_cases c:base_q=4
  ·subst c;simp at q
  ·simp[c]
 have hK:∀c:Ck,(⟨j,cM,wide_q⟩:Ck)=⟨B,off_q,lw⟩↔cC=base_q/\cM=off_q/\wide_q=lw:=fun c=>by rw[Ck.mk.injEq,e]
 have aa:(⟨B,off_q,w⟩:Ck)=⟨B,off_q,lw⟩↔w=lw:=by rw[Ck.mk.injEq];simp
 have J:kind_q=0∨kind_q=1∨kind_q=2∨kind_q=3∨kind_q=4∨kind_q=5:=by omega
 have hM:(cC=base_q/\cM=off_q/\wide_q=lw)->qY base_q off_q w cC cM wide_q mw=true:=fun q=>by unfold qY;obtain⟨rfl,rfl,rfl⟩:=q;simp only[jS,gG,cY,iG];rcases U with rfl|rfl|rfl<;>rcases I with rfl|rfl|rfl<;>omega
 have ab:(decide (cC=base_q)&&decide (cM=off_q)&&decide (wide_q=lw))=decide ((⟨j,cM,wide_q⟩:Ck)=⟨B,off_q,lw⟩):=by rw[rM,iG,hK ⟨B,off_q,lw⟩];simp[and_assoc]
 have K:decide ((⟨j,cM,wide_q⟩:Ck)=⟨B,off_q,lw⟩)=true->qY base_q off_q w cC cM wide_q mw=true:=fun q=>hM ((hK ⟨B,off_q,lw⟩).mp (Ay q))
 unfold kn;rw[ab];have p:fj [⟨⟨j,cM,wide_q⟩,2,13⟩] ⟨B,off_q,lw⟩=bif decide ((⟨j,cM,wide_q⟩:Ck)=⟨B,off_q,lw⟩)then some ⟨⟨j,cM,wide_q⟩,2,13⟩else none:=Mb _ _
 have ae:(kz N.pr B&&jK ⟨B,off_q,w⟩)=!(decide (1<base_q)||mw base_q):=by cases q:kz N.pr B with|true=>rw[p2 q,←Z,q];rfl|false=>rw[←Z,q];rfl
 have o:fj [] ⟨B,off_q,lw⟩=none:=rfl;generalize decide ((⟨j,cM,wide_q⟩:Ck)=⟨B,off_q,lw⟩)=M at K p;have af:decide ((⟨B,off_q,w⟩:Ck)=⟨B,off_q,lw⟩)=decide (w=lw):=by rw[rM,iG,iG,aa]
 have O:∀c:eV,c.k=⟨B,off_q,w⟩->fj [c] ⟨B,off_q,lw⟩=bif decide (w=lw)then some c else none:=fun c hc=>by rw[Mb,hc,af]
 cases firm with
 |true=>
  unfold u4 yr;rcases J with rfl|rfl|rfl|rfl|rfl|rfl
  ·simp[o,n7]
  ·have:fj (o9 (fun k=>hH N.pr k ⟨j,cM,wide_q⟩) []++[⟨⟨j,cM,wide_q⟩,2,13⟩]) ⟨B,off_q,lw⟩=bif M then some ⟨⟨j,cM,wide_q⟩,2,13⟩else none:=p
   simp only[jS,gG,this];cases M<;>simp[n7]
  ·simp[o,n7,o9]
  ·simp[o,n7,o9]
  ·simp[o,n7,o9]
  ·simp[o,n7]
 |false=>
  unfold u4 yr;simp only[jg];have ag:(bif il then([⟨⟨B,off_q,w⟩,7,kA w sg⟩]:List eV)else[⟨⟨B,off_q,w⟩,1,13⟩])=[bif il then⟨⟨B,off_q,w⟩,7,kA w sg⟩else⟨⟨B,off_q,w⟩,1,13⟩]:=by cases il<;>rfl
  rw[ag];have t:(bif il then(⟨⟨B,off_q,w⟩,7,kA w sg⟩:eV)else⟨⟨B,off_q,w⟩,1,13⟩).k=⟨B,off_q,w⟩:=by cases il<;>rfl
  have S:=fun e=>ZY (il:=il) (sg:=sg) (w:=w) (lw:=lw) e ⟨B,off_q,w⟩
  have ho:=O _ t;generalize(bif il then(⟨⟨B,off_q,w⟩,7,kA w sg⟩:eV)else⟨⟨B,off_q,w⟩,1,13⟩)=c0 at t S ho;simp only[V1,t,m1,m2,ae,Bool.not_not];have hs1:n7 (bif !decide (w=lw)then none else bif il then some (7,bif sg then 11 else 12)else some (1,13)) (fj [c0] ⟨B,off_q,lw⟩) lw:=by rw[ho];cases q:decide (w=lw)with|true=>exact S (Ay q)|false=>simp[n7]
  have x:∀b:Bool,n7 (bif !decide (w=lw)||b then none else bif il then some (7,bif sg then 11 else 12)else some (1,13)) (fj (bif b then[]else[c0]) ⟨B,off_q,lw⟩) lw:=fun b=>by cases b with|true=>simp[o,n7]|false=>simpa using hs1
  rcases J with rfl|rfl|rfl|rfl|rfl|rfl
  ·simpa using hs1
  ·simp only[jS,gG,V0,p,mE,nK];cases M with|true=>simp[K rfl,o,n7]|false=>simpa using x _
  ·simp only[show decide ((2:Int)=1)=false from rfl,show decide ((2:Int)=2)=true from rfl,show decide ((2:Int)=3)=false from rfl,show decide ((2:Int)=4)=false from rfl,gG,jg,lM,mE,Bool.or_false];cases(decide (1<base_q)||mw base_q)with|true=>simp[o,n7]|false=>simpa using hs1
  ·simpa using x _
  ·simpa using x _
  ·simpa using hs1
def ly(il:Bool)(w:Int)(sg firm:Bool):cq:=bif il then⟨.lo 10 w sg,7,firm⟩else⟨.st 10 1 w,-1,firm⟩
def iW(kind_q wide_q:Int):List cq:=
 bif decide (kind_q=1)||decide (kind_q=4)then[⟨.st 14 2 wide_q,-1,decide (kind_q=4)⟩]
 else bif decide (kind_q=2)then[⟨.ca 2,-1,false⟩]
 else bif decide (kind_q=3)then[⟨.mo 14 5 4,-1,false⟩]
 else bif decide (kind_q=5)then[⟨.lo 14 wide_q false,9,true⟩]else[]
def mc(lk lw:Int)(ls lf:Bool):cq:=bif decide (lk<2)then⟨.lo 12 lw ls,8,lf⟩else⟨.st 12 (1+Int.fmod lk 2) lw,-1,lf⟩
def nT(cK:Int):List cq:=bif decide (cK=1)||decide (cK=2)then[⟨.ca (3+(cK-1)),-1,false⟩]else[]
def MI(kn:Option (Int×Nat))(lf ls:Bool)(lw:Int)(o:fH):Prop:=o.d=8/\match(bif lf then none else kn)with
 |none=>o.op=8
 |some (r,h)=>o.l=[.r r]/\o.op=bif decide (lw=4)||decide (h=bif ls then 11 else 12)then 6 else mO ls (decide (lw=2))
def rf(kn:Option (Int×Nat))(lf:Bool)(y:Int):Bool:=lf||match kn with
 |none=>true
 |some (r,_)=>!decide (r=y)
section
variable{X:Fx}{pend:List Pd}{done:List (Nat×fH)}{cs:List eV}{N:Ns}{nx m a b n:Nat}
theorem Xp{il sg firm:Bool}{w off_q:Int}{B:Bs}(z:W4 w)(x:ik B)(I:At N 10 (B,off_q))(H:rT N)(t:TT X ((a,b,ly il w sg firm)::pend) done [] N nx (m+300)):
  ∃N' e o,TT X pend (done++[(a,o)]) (u4 il w sg firm B off_q) N' e m/\Ph X ((a,b,ly il w sg firm)::pend) done N nx pend (done++[(a,o)]) N' e:=by
 obtain⟨v,p,y⟩:=I;have j:0<w:=by rcases z with rfl|rfl|rfl<;>omega
 unfold ly at t⊢;unfold u4;cases il<;>cases firm
 ·obtain⟨N',e,l,M⟩:=TT.E9 (m:=m) t p H.o1 (by omega) j y x (fun q h=>by cases h) (by simp);exact⟨N',e,_,M.m.t,M.ph⟩
 ·obtain⟨N',e,l,M⟩:=TT.Je (m:=m) t p H.o1 (by omega) j y x;exact⟨N',e,_,M.m.t,M.ph⟩
 ·obtain⟨N',e,l,M⟩:=TT.MG (m:=m) t (by omega) p z y x rfl (by simp);exact⟨N',e,_,M.m.t,M.ph⟩
 ·obtain⟨N',e,l,M⟩:=TT.Hu (m:=m) t (by omega) p;exact⟨N',e,_,M.m.t,M.ph⟩
theorem Xq{kind_q wide_q cM:Int}{B:Bs}{rest:List cq}(I:W4 wide_q)(p:ik B)(J:At N 14 (B,cM))(H:rT N)(hk:0<=kind_q)(K:kind_q<6)(hl:cs.length<=1)(hr:∀q∈cs,q.r≠2)(t:TT X (ip n (iW kind_q wide_q++rest)) done cs N nx (m+300)):
  ∃n' N' e dn,TT X (ip n' rest) (done++dn) (yr N.pr kind_q wide_q B cM cs) N' e m/\Ph X (ip n (iW kind_q wide_q++rest)) done N nx (ip n' rest) (done++dn) N' e/\dn.length=(iW kind_q wide_q).length:=by
 obtain⟨v,o,x⟩:=J;have j:0<wide_q:=by rcases I with rfl|rfl|rfl<;>omega
 have y:kind_q=0∨kind_q=1∨kind_q=2∨kind_q=3∨kind_q=4∨kind_q=5:=by omega
 have hf:∀k q,fj cs k=some q->q.r≠2:=fun k q h=>hr q (List.mem_of_find?_eq_some h)
 rcases y with rfl|rfl|rfl|rfl|rfl|rfl
 ·refine⟨n,N,nx,[],?_,?_,rfl⟩
  ·rw[sN];exact t.less (by omega)
  ·rw[sN];exact Ph.refl _ _ _ _ _
 ·obtain⟨N',e,l,M⟩:=TT.E9 (m:=m) (pend:=ip (n+10) rest) (a:=n+1) (b:=n) t o H.o2 (by omega) j x p (fun q h=>hf _ q h) (by omega);exact⟨_,N',e,[(_,_)],M.m.t,M.ph,rfl⟩
 ·obtain⟨N',e,l,M⟩:=TT.ca (m:=m) (pend:=ip (n+10) rest) (a:=n+1) (b:=n) t H.o2 (by omega);exact⟨_,N',e,[(_,_)],M.m.t,M.ph,rfl⟩
 ·obtain⟨u,z,O⟩:=H.a5;obtain⟨N',e,l,M⟩:=TT.mo (m:=m) (pend:=ip (n+10) rest) (a:=n+1) (b:=n) t o (t.i.so _ _ z) (fun _=>⟨u,z⟩) x p;exact⟨_,N',e,[(_,_)],M.m.t,M.ph,rfl⟩
 ·obtain⟨N',e,l,M⟩:=TT.Je (m:=m) (pend:=ip (n+10) rest) (a:=n+1) (b:=n) t o H.o2 (by omega) j x p;exact⟨_,N',e,[(_,_)],M.m.t,M.ph,rfl⟩
 ·obtain⟨N',e,l,M⟩:=TT.Hu (m:=m) (pend:=ip (n+10) rest) (a:=n+1) (b:=n) t (by omega) o;exact⟨_,N',e,[(_,_)],M.m.t,M.ph,rfl⟩
theorem V2{cK:Int}(H:rT N)(t:TT X (ip n (nT cK)) done cs N nx (m+300)):
  ∃N' e dn lA,TT X [] (done++dn) lA N' e m/\Go X (ip n (nT cK)) done N nx [] (done++dn) N' e/\n5 N.tz N'.tz/\dn.length=(nT cK).length:=by
 unfold nT at t⊢
 by_cases q1:cK=1
 ·subst q1;obtain⟨u,j,o⟩:=H.a3;obtain⟨N',e,l,M⟩:=TT.ca (m:=m) (pend:=[]) (a:=n+1) (b:=n) t (t.i.so _ _ j) (fun _=>⟨u,j⟩);exact⟨N',e,[(_,_)],_,M.m.t,M.m.go,M.m.x.grow,rfl⟩
 ·by_cases q2:cK=2
  ·subst q2;obtain⟨u,j,o⟩:=H.a4;obtain⟨N',e,l,M⟩:=TT.ca (m:=m) (pend:=[]) (a:=n+1) (b:=n) t (t.i.so _ _ j) (fun _=>⟨u,j⟩);exact⟨N',e,[(_,_)],_,M.m.t,M.m.go,M.m.x.grow,rfl⟩
  ·simp only[q1,q2,lL,Bool.or_false,jg]at t⊢;refine⟨N,nx,[],cs,?_,?_,n5.refl _,rfl⟩
   ·rw[sN];exact TT.less t (by omega)
   ·rw[sN];exact Go.refl _ _ _ _ _
theorem V3{kn:Option (Int×Nat)}{lk lw off_q:Int}{ls lf:Bool}{B:Bs}(Z:W4 lw)(hB:ik B)(hA:At N 12 (B,off_q))(H:rT N)(hk:0<=lk)(aa:lk<4)(hl:cs.length<=2)(z:n7 kn (fj cs ⟨B,off_q,lw⟩) lw)(hh:∀r h,kn=some (r,h)->h=11∨h=12∨h=13)(nw:qB N.tz)(t:TT X ((a,b,mc lk lw ls lf)::pend) done cs N nx (m+300)):
  ∃N' j dn lA,TT X pend (done++dn) lA N' j m/\Go X ((a,b,mc lk lw ls lf)::pend) done N nx pend (done++dn) N' j/\n5 N.tz N'.tz/\
   (lk<2->∃o,dn.map (·.2)=[o]/\MI kn lf ls lw o)/\(2<=lk->dn.length=bif rf kn lf (1+Int.fmod lk 2)then 1 else 0):=by
 obtain⟨v,I,J⟩:=hA;have K:0<lw:=by rcases Z with rfl|rfl|rfl<;>omega
 unfold mc at t⊢
 by_cases q:lk<2
 ·simp only[q,jS,gG]at t⊢;cases lf with
  |true=>obtain⟨N',j,l,M⟩:=TT.Hu (m:=m) t (by omega) I;exact⟨N',j,[(_,_)],_,M.m.t,M.m.go,M.m.x.grow,fun _=>⟨_,rfl,rfl,rfl⟩,fun h=>by omega⟩
  |false=>
   cases e:fj cs ⟨B,off_q,lw⟩with
   |none=>rw[e]at z;cases kn with|some p=>exact z.elim|none=>obtain⟨N',j,l,M⟩:=TT.MG (m:=m) t (by omega) I Z J hB e hl;exact⟨N',j,[(_,_)],_,M.m.t,M.m.go,M.m.x.grow,fun _=>⟨_,rfl,rfl,rfl⟩,fun h=>by omega⟩
   |some c=>
    rw[e]at z;cases kn with
    |none=>exact z.elim
    |some p=>
     obtain⟨r,h⟩:=p;obtain⟨Y,s2,O⟩:=z;have hh:=hh r h rfl;have S:(c.h==kA lw ls)=(decide (lw=4)||decide (h=bif ls then 11 else 12)):=by
      unfold kA
      by_cases x:lw=4
      ·rcases hh with rfl|rfl|rfl
       ·have:=O (by omega);simp[x]at this;simp[x,this]
       ·have:=O (by omega);simp[x]at this;simp[x,this]
       ·have:=s2 rfl;simp[x,this]
      ·rcases hh with rfl|rfl|rfl
       ·have:=O (by omega);simp[x]at this;cases ls<;>simp[x,this]
       ·have:=O (by omega);simp[x]at this;cases ls<;>simp[x,this]
       ·have:=s2 rfl;cases ls<;>simp[x,this]
     have U:c.h<1000:=by
      rcases hh with rfl|rfl|rfl
      ·have:=O (by omega);rw[this];cases decide (lw=4)<;>simp
      ·have:=O (by omega);rw[this];cases decide (lw=4)<;>simp
      ·rw[s2 rfl];omega
     cases W:(c.h==kA lw ls)with
     |true=>obtain⟨N',j,M⟩:=TT.Xo (m:=m) t (by omega) I Z J e (dM.mp W);refine⟨N',j,[(_,_)],_,M.m.t,M.m.go,M.m.x.grow,fun _=>⟨_,rfl,rfl,by rw[Y],?_⟩,fun h=>by omega⟩;rw[←S,W];rfl
     |false=>
      have x:lw≠4:=fun x=>by rw[S,x]at W;simp at W
      obtain⟨N',j,M⟩:=TT.ZV (m:=m) t (by omega) I (by rcases Z with h|h|h<;>omega) J e W U nw;refine⟨N',j,[(_,_)],_,M.t,M.go,M.x.grow,fun _=>⟨_,rfl,rfl,by rw[Y],?_⟩,fun h=>by omega⟩;rw[←S,W];rfl
 ·simp only[q,lL,jg]at t⊢;have hy:1+Int.fmod lk 2=1∨1+Int.fmod lk 2=2:=by rw[uB _ (by omega)];omega
  have ho:N.on.lookup (1+Int.fmod lk 2)=some ():=by
   rcases hy with h|h
   ·rw[h];exact H.o1
   ·rw[h];exact H.o2
  generalize 1+Int.fmod lk 2=y at t hy ho⊢;cases lf with
  |true=>obtain⟨N',j,l,M⟩:=TT.Je (m:=m) t I ho (by omega) K J hB;exact⟨N',j,[(_,_)],_,M.m.t,M.m.go,M.m.x.grow,fun h=>False.elim h,fun _=>rfl⟩
  |false=>
   cases e:fj cs ⟨B,off_q,lw⟩with
   |none=>rw[e]at z;cases kn with|some p=>exact z.elim|none=>obtain⟨N',j,l,M⟩:=TT.E9 (m:=m) t I ho (by omega) K J hB (fun q h=>by rw[e]at h;cases h) hl;exact⟨N',j,[(_,_)],_,M.m.t,M.m.go,M.m.x.grow,fun h=>False.elim h,fun _=>rfl⟩
   |some c=>
    rw[e]at z;cases kn with
    |none=>exact z.elim
    |some p=>
     obtain⟨r,h⟩:=p;obtain⟨Y,s2,O⟩:=z
     by_cases hr:r=y
     ·obtain⟨N',j,M1,M2,M3,M4⟩:=TT.std (m:=m) t I ho (by omega) J e (Y.trans hr);refine⟨N',j,[],_,by rw[sN];exact M1,by rw[sN];exact M2,M3.grow,fun h=>False.elim h,fun _=>?_⟩;simp[rf,hr]
     ·obtain⟨N',j,l,M⟩:=TT.E9 (m:=m) t I ho (by omega) K J hB (fun q h=>by rw[e]at h;cases h;rw[Y];exact hr) hl;refine⟨N',j,[(_,_)],_,M.m.t,M.m.go,M.m.x.grow,fun h=>False.elim h,fun _=>?_⟩;simp[rf,hr]
end
structure gB where
 base_q:Int
 off_q:Int
 w:Int
 jl:Int
 cC:Int
 cM:Int
 wide_q:Int
 jm:Int
 kind_q:Int
 cK:Int
 lw:Int
 lk:Int
 il:Bool
 sg:Bool
 firm:Bool
 ls:Bool
 lf:Bool
structure gB.Ok(p:gB):Prop where
 base_q:0<=p.base_q/\p.base_q<5
 off_q:0<=p.off_q/\p.off_q<5
 w:W4 p.w
 jl:0<=p.jl/\p.jl<9
 cC:0<=p.cC/\p.cC<5
 cM:0<=p.cM/\p.cM<5
 wide_q:W4 p.wide_q
 jm:0<=p.jm/\p.jm<9
 kind_q:0<=p.kind_q/\p.kind_q<6
 lw:W4 p.lw
 lk:0<=p.lk/\p.lk<4
def mh(cK i:Int):Bool:=(decide (cK=1)||decide (cK=2))&&decide (cK-1=i)
abbrev gB.kn(p:gB):Option (Int×Nat):=Mine.kn p.firm p.il p.sg p.base_q p.off_q p.w p.cC p.cM p.wide_q p.kind_q p.lw (mh p.cK)
def gB.dV(p:gB):List cq:=ji++(hU 10 p.base_q p.off_q p.jl++(hU 12 p.base_q p.off_q p.jm++(⟨.ad (rb p.cC) p.cM,14,false⟩::ly p.il p.w p.sg p.firm::iW p.kind_q p.wide_q)))
def gB.bf(p:gB):List cq:=ji++(hU 10 p.base_q p.off_q p.jl++(hU 12 p.base_q p.off_q p.jm++(⟨.ad (rb p.cC) p.cM,14,false⟩::ly p.il p.w p.sg p.firm::(iW p.kind_q p.wide_q++(mc p.lk p.lw p.ls p.lf::nT p.cK)))))
theorem gB.Md(p:gB):p.bf=p.dV++mc p.lk p.lw p.ls p.lf::nT p.cK:=by simp[gB.bf,gB.dV]
def yG(p:gB)(dn:List (Nat×fH)):Prop:=
 (p.lk<2->dn.length=p.bf.length/\∃o,(dn.map (·.2))[p.dV.length]?=some o/\MI p.kn p.lf p.ls p.lw o)/\
 (2<=p.lk->dn.length=bif rf p.kn p.lf (1+Int.fmod p.lk 2)then p.bf.length else p.bf.length-1)
theorem Oi{firm il sg:Bool}{base_q off_q w cC cM wide_q kind_q lw:Int}{mw:Int->Bool}{r:Int}{h:Nat}(e:kn firm il sg base_q off_q w cC cM wide_q kind_q lw mw=some (r,h)):h=11∨h=12∨h=13:=by
 unfold kn at e
 revert e
 generalize(decide (kind_q=1)&&(decide (cC=base_q)&&decide (cM=off_q)&&decide (wide_q=lw)))=a;generalize(decide (kind_q=2)&&(decide (1<base_q)||mw base_q))=b;generalize(!decide (w=lw)||(decide (kind_q=1)||decide (kind_q=3)||decide (kind_q=4))&&qY base_q off_q w cC cM (bif decide (kind_q=3)then 4 else wide_q) mw)=c;cases a<;>cases b<;>cases c<;>cases firm<;>cases il<;>cases sg<;>simp<;>omega
theorem GQ{il:Bool}{w:Int}{sg firm:Bool}{B:Bs}{o:Int}:(u4 il w sg firm B o).length<=1/\∀q∈u4 il w sg firm B o,q.r≠2:=by unfold u4;cases firm<;>cases il<;>simp
theorem UT{pr:List (Int×Unit)}{kind_q wide_q:Int}{B:Bs}{o:Int}{cs:List eV}(h:cs.length<=1):(yr pr kind_q wide_q B o cs).length<=2:=by
 unfold yr;cases decide (kind_q=1)<;>cases decide (kind_q=4)<;>cases decide (kind_q=2)<;>cases decide (kind_q=3)<;>simp only[gG,jg,o9,cU,cT,cQ]
 all_goals first|omega|(have:=qU (fun q:eV=>!hH pr q.k ⟨B,o,wide_q⟩) cs;omega)|(have:=qU (fun q:eV=>!hH pr q.k ⟨B,o,4⟩) cs;omega)|(have:=qU (fun q:eV=>!!(kz pr q.k.b&&jK q.k)) cs;omega)
theorem abw{X:Fx}{N:Ns}{nx n:Nat}(p:gB)(ok:p.Ok)(t:TT X (ip n p.bf) [] [] N nx 6000)(o0:N.on.lookup 0=some ())(o1:N.on.lookup 1=some ())(o2:N.on.lookup 2=some ())(hp:wC N.pr (mh p.cK))(nw:qB N.tz):
  ∃N' I dn lA,TT X [] dn lA N' I 1000/\Go X (ip n p.bf) [] N nx [] dn N' I/\n5 N.tz N'.tz/\yG p dn:=by
 obtain⟨⟨b0,b5⟩,⟨f0,f5⟩,hw,⟨y0,y9⟩,⟨t0,t5⟩,⟨s0,s5⟩,J,⟨z0,z9⟩,⟨k0,k6⟩,aa,⟨l0,l4⟩⟩:=ok;unfold yG;unfold gB.bf at t⊢;unfold gB.dV;obtain⟨n1,N1,aj,d1,T1,P1,K,H1⟩:=VZ (m:=4800) t o0 o1 o2;obtain⟨n2,N2,ak,d2,B2,T2,P2,O,b2,a2⟩:=MH (m:=4200) b0 b5 f0 f5 y0 y9 (by omega) H1 (T1.less (by omega));have H2:=H1.grow T1.i P2.gr;obtain⟨n3,N3,cH,d3,B3,T3,P3,U,b3,a3⟩:=MH (m:=3600) b0 b5 f0 f5 z0 z9 (by omega) H2 (T2.less (by omega));have H3:=H2.grow T2.i P3.gr;obtain⟨N4,al,x4,B4,T4,x,b4,a4⟩:=HS (m:=3300) t0 t5 (by omega) H3 T3;have H4:=H3.grow T3.i x.gr;rw[Int.zero_add,CW s0 (by omega)]at a4;have y:=b3.grow x.gr;have ab:=a3.grow T3.i x.gr;have ae:=(a2.grow T2.i P3.gr).grow T3.i x.gr;have eB:B2=B3:=(HT ((b2.grow P3.gr).grow x.gr) y).mpr rfl;subst eB;obtain⟨N5,am,x5,T5,z⟩:=Xp (m:=3000) hw (HU y) ae H4 T4;have H5:=H4.grow T4.i z.gr;have af:=a4.grow T4.i z.gr;obtain⟨n6,N6,an,d6,T6,P6,W⟩:=Xq (m:=2700) J (HU b4) af H5 k0 k6 GQ.1 GQ.2 (T5.less (by omega));have H6:=H5.grow T5.i P6.gr;have Y:=(ab.grow T4.i z.gr).grow T5.i P6.gr;have j:=y.grow z.gr;have Z:=b4.grow z.gr;have ag:N5.pr=N.pr:=((((P1.trans P2).trans P3).trans x).trans z).pr;have S:=US j Z (by rw[ag];exact hp) f0 f5 hw s0 s5 J k0 k6 (il:=p.il) (sg:=p.sg) (firm:=p.firm) (lw:=p.lw);have PP:=((((P1.trans P2).trans P3).trans x).trans z).trans P6;obtain⟨N7,ao,d7,c7,T7,G7,g7,r7,ah⟩:=V3 (m:=2400) aa (HU j) Y H6 l0 l4 (UT GQ.1) S (fun r h e=>Oi e) (PP.nw nw) T6;obtain⟨N8,ai,d8,c8,T8,G8,g8,e8⟩:=V2 (m:=2100) (H6.grow T6.i g7) (T7.less (by omega));refine⟨N8,ai,_,c8,T8.less (by omega),fun{_ _ _} q=>PP.go (G7 (G8 q)),(PP.gr.trans g7).trans g8,fun h=>?_,fun h=>?_⟩
 ·obtain⟨o,q1,q2⟩:=r7 h;have B:d7.length=1:=by have:=lu List.length q1;simpa using this
  refine⟨by simp[K,O,U,W,e8,B,ji];omega,o,?_,q2⟩;simp only[lJ,eY,q1];rw[List.append_assoc,Dp (by simp[K,O,U,W,ji];omega)];rw[show _-_=0 by simp[K,O,U,W,ji];omega];rfl
 ·have B:=ah h;cases e:rf p.kn p.lf (1+Int.fmod p.lk 2)with|true=>rw[e]at B;simp[K,O,U,W,e8,B,ji];omega|false=>rw[e]at B;simp[K,O,U,W,e8,B,ji];omega
def AK:List (Int×Unit)->List Int->Bool
 |_,[]=>true
 |l,d::ds=>(l.lookup d).isNone&&AK (bif decide (0<=d)then l++[(d,())]else l) ds
theorem Me:∀(bf:List cq)(l:List (Int×Unit)),AK l (bf.map (·.d))=true->∀(i:Nat)(r:cq),bf[i]?=some r->((bf.take i).foldl kj l).lookup r.d=none
 |[],l,h,i,r,e=>by simp at e
 |x::bf,l,h,0,r,e=>by simp only[List.getElem?_cons_zero,Ap]at e;subst e;rw[gf,AK,cY]at h;exact DK.mp h.1
 |x::bf,l,h,i+1,r,e=>by rw[gf,AK,cY]at h;exact Me bf (kj l x) h.2 i r e
def abx(ds:List Int):Prop:=AK [(0,()),(1,()),(2,())] ds=true/\ds.Pairwise (fun a b=>0<=a->a≠b)/\∀d∈ds,0<=d->3<=d
theorem AL(goal base_q off_q way:Int):(hU goal base_q off_q way).map (·.d)=[goal]∨(hU goal base_q off_q way).map (·.d)=[goal+1,goal]:=by unfold hU;cases(decide (base_q=2)||decide (base_q=3))&&decide (Int.fmod way 4=2)<;>cases decide (Int.fmod way 2=0)<;>simp
theorem ZZ(il:Bool)(w:Int)(sg firm:Bool):(ly il w sg firm).d=7∨(ly il w sg firm).d= -1:=by cases il<;>simp[ly]
theorem HV(kind_q wide_q:Int):(iW kind_q wide_q).map (·.d)=[]∨(iW kind_q wide_q).map (·.d)=[-1]∨(iW kind_q wide_q).map (·.d)=[9]:=by unfold iW;cases decide (kind_q=1)||decide (kind_q=4)<;>cases decide (kind_q=2)<;>cases decide (kind_q=3)<;>cases decide (kind_q=5)<;>simp
theorem Xr(lk lw:Int)(ls lf:Bool):(mc lk lw ls lf).d=8∨(mc lk lw ls lf).d= -1:=by unfold mc;cases decide (lk<2)<;>simp
theorem MJ(cK:Int):(nT cK).map (·.d)=[]∨(nT cK).map (·.d)=[-1]:=by unfold nT;cases decide (cK=1)||decide (cK=2)<;>simp
theorem Hc(p:gB):abx (p.bf.map (·.d)):=by unfold gB.bf;simp only[lJ,gf];rcases AL 10 p.base_q p.off_q p.jl with e1|e1<;>rcases AL 12 p.base_q p.off_q p.jm with e2|e2<;>rcases ZZ p.il p.w p.sg p.firm with e3|e3<;>rcases HV p.kind_q p.wide_q with e4|e4|e4<;>rcases Xr p.lk p.lw p.ls p.lf with e5|e5<;>rcases MJ p.cK with e6|e6<;>rw[e1,e2,e3,e4,e5,e6]<;>exact⟨by decide,by decide,by decide⟩
theorem TF(p:gB):vP p.bf:=Me p.bf _ (Hc p).1
theorem GR(p:gB):p.bf.length<50:=by
 have h:∀l:List cq,l.length=(l.map (·.d)).length:=fun l=>by simp
 rw[h];unfold gB.bf;simp only[lJ,gf];rcases AL 10 p.base_q p.off_q p.jl with e1|e1<;>rcases AL 12 p.base_q p.off_q p.jm with e2|e2<;>rcases HV p.kind_q p.wide_q with e4|e4|e4<;>rcases MJ p.cK with e6|e6<;>rw[e1,e2,e4,e6]<;>simp[ji]
theorem D3(bf:List cq){x:Int}(h:x=0∨x=1∨x=2):(iL bf).lookup x=some ():=by have:=Hb bf [(0,()),(1,()),(2,())] x (by rcases h with rfl|rfl|rfl<;>rfl);unfold iL;cases e:(bf.foldl kj [(0,()),(1,()),(2,())]).lookup x with|none=>rw[e]at this;cases this|some u=>rfl
def Z0(L:List (Int×Int)):Prop:=L.lookup 0=none/\L.lookup 1=none/\L.lookup 2=none/\L.lookup 5=none/\L.lookup (-1)=none/\L.lookup 3=some 0/\L.lookup 4=some 1
def Bb(goal base_q:Int)(q r:Bool)(s:Bool)(c0 c1 c2:Int):List cq:=
 bif(decide (base_q=2)||decide (base_q=3))&&q then[⟨.na s c0,goal,false⟩]else bif r then[⟨.ad (rb base_q) c0,goal,false⟩]else[⟨.ad (rb base_q) c1,goal+1,false⟩,⟨.ad (goal+1) c2,goal,false⟩]
def rh(base_q cC:Int)(q r j o s:Bool)(c0 c1 c2 d0 p t e:Int):List cq:=ji++(Bb 10 base_q q r s c0 c1 c2++(Bb 12 base_q j o s d0 p t++[⟨.ad (rb cC) e,14,false⟩]))
def Rk.z:Rk->Rk
 |.sl i=>.sl i
 |.ad x _=>.ad x 0
 |.na _ _=>.na false 0
 |_=>.ca 0
def cq.z(r:cq):cq:=⟨r.k.z,r.d,false⟩
def v8(L:List (Int×Int))(r:cq):Bool:=match r.k with
 |.ad x _=>(L.lookup r.d).isSome||(L.lookup x).isNone
 |_=>true
def Ak(r:cq):Bool:=match r.k with
 |.sl _=>true
 |.ad _ _=>true
 |.na _ _=>true
 |_=>false
theorem ID:∀(bf:List cq)(l:List (Int×Int)),(bf.map cq.z).foldl l9 l=bf.foldl l9 l
 |[],l=>rfl
 |r::bf,l=>by
  rw[gf,tG,tG];have:l9 l r.z=l9 l r:=by
   have e:lz l r.z.k=lz l r.k:=by obtain⟨k,d,f⟩:=r;cases k<;>rfl
   unfold l9;rw[e];rfl
  rw[this];exact ID bf _
theorem Xs(L:List (Int×Int))(r:cq):v8 L r.z=v8 L r:=by obtain⟨k,d,f⟩:=r;cases k<;>rfl
theorem Mf{L:List (Int×Int)}:∀(bf:List cq),bf.all (fun r=>Ak r&&v8 L r)=true->∀pl,bf.foldl (ju L) pl=pl
 |[],h,pl=>rfl
 |r::bf,h,pl=>by
  rw[xX,cY,cY]at h;obtain⟨⟨o,j⟩,p⟩:=h;rw[tG];have:ju L pl r=pl:=by
   obtain⟨k,d,f⟩:=r;cases k with
   |sl i=>rfl
   |na s c=>show(bif(L.lookup d).isSome then pl else pl)=pl;cases(L.lookup d).isSome<;>rfl
   |ad x c=>
    show(bif(L.lookup d).isSome then pl else iK L (iK L pl (.r x)) (.k c))=pl
    have j:((L.lookup d).isSome||(L.lookup x).isNone)=true:=j;cases e:(L.lookup d).isSome with
    |true=>rfl
    |false=>
     rw[e]at j;have:L.lookup x=none:=DK.mp (by simpa using j);show iK L pl (.r x)=pl
     show(match L.lookup x with
      |some s=>kX s pl
      |none=>pl)=pl
     rw[this]
   |_=>cases o
  rw[this];exact Mf bf p pl
def Oj(base_q cC:Int)(q r e j:Bool):Bool:=
 let A:=rh base_q cC q r e j false 0 0 0 0 0 0 0
 let L:=gA A
 decide (L.lookup 0=none)&&decide (L.lookup 1=none)&&decide (L.lookup 2=none)&&decide (L.lookup 5=none)&&decide (L.lookup (-1)=none)&&decide (L.lookup 3=some 0)&&decide (L.lookup 4=some 1)&&A.all (fun r=>Ak r&&v8 L r)
theorem V4:∀base_q∈[(0:Int),1,2,3,4],∀cC∈[(0:Int),1,2,3,4],∀q r e j:Bool,Oj base_q cC q r e j=true:=by decide+kernel
theorem MK(goal base_q:Int)(q r s:Bool)(c0 c1 c2:Int):(Bb goal base_q q r s c0 c1 c2).map cq.z=(Bb goal base_q q r false 0 0 0).map cq.z:=by unfold Bb;cases(decide (base_q=2)||decide (base_q=3))&&q<;>cases r<;>rfl
theorem V5(base_q cC:Int)(q r j o s:Bool)(c0 c1 c2 d0 p t e:Int):(rh base_q cC q r j o s c0 c1 c2 d0 p t e).map cq.z=(rh base_q cC q r j o false 0 0 0 0 0 0 0).map cq.z:=by unfold rh;simp only[lJ];rw[MK 10 base_q q r s,MK 12 base_q j o s];rfl
theorem UU{base_q cC:Int}(x:0<=base_q)(y:base_q<5)(z:0<=cC)(B:cC<5)(q r j o s:Bool)(c0 c1 c2 d0 p t e:Int):
  Z0 (gA (rh base_q cC q r j o s c0 c1 c2 d0 p t e))/\∀pl,(rh base_q cC q r j o s c0 c1 c2 d0 p t e).foldl (ju (gA (rh base_q cC q r j o s c0 c1 c2 d0 p t e))) pl=pl:=by
 have hz:=V5 base_q cC q r j o s c0 c1 c2 d0 p t e;have hh:gA (rh base_q cC q r j o s c0 c1 c2 d0 p t e)=gA (rh base_q cC q r j o false 0 0 0 0 0 0 0):=by unfold gA;rw[←ID,hz,ID]
 have c:=V4 base_q (by simp;omega) cC (by simp;omega) q r j o;unfold Oj at c;simp only[cY,iG]at c;obtain⟨⟨⟨⟨⟨⟨⟨c1,c2⟩,c3⟩,c4⟩,c5⟩,c6⟩,c7⟩,c8⟩:=c;rw[hh];refine⟨⟨c1,c2,c3,c4,c5,c6,c7⟩,Mf _ ?_⟩;have f:∀(L:List (Int×Int))(bf:List cq),(bf.map cq.z).all (fun r=>Ak r&&v8 L r)=bf.all (fun r=>Ak r&&v8 L r):=fun L bf=>by
  rw[List.all_map];congr 1;funext r;show(Ak r.z&&v8 L r.z)=_
  rw[Xs];obtain⟨k,d,f⟩:=r;cases k<;>rfl
 rw[←f,hz,f];exact c8
def AM(p:gB):List cq:=ly p.il p.w p.sg p.firm::(iW p.kind_q p.wide_q++(mc p.lk p.lw p.ls p.lf::nT p.cK))
theorem V6(p:gB):p.bf=rh p.base_q p.cC (decide (Int.fmod p.jl 4=2)) (decide (Int.fmod p.jl 2=0)) (decide (Int.fmod p.jm 4=2)) (decide (Int.fmod p.jm 2=0)) (decide (p.base_q=3)) p.off_q (Int.fmod (p.off_q+p.jl) 4294967296) (Int.fmod (-p.jl) 4294967296) p.off_q (Int.fmod (p.off_q+p.jm) 4294967296) (Int.fmod (-p.jm) 4294967296) p.cM++AM p:=by unfold rh AM;simp only[List.append_assoc];rfl
theorem Ol:∀(bf:List cq)(l:List (Int×Int)),(∀r∈bf,∀l,lz l r.k= -1)->bf.foldl l9 l=l
 |[],l,h=>rfl
 |r::bf,l,h=>by
  rw[tG];have:l9 l r=l:=by unfold l9;rw[h r fB l];simp
  rw[this];exact Ol bf l fun r hr=>h r (hO _ hr)
theorem xx{L:List (Int×Int)}{x:Int}(h:L.lookup x=none)(pl:List (Int×Unit)):iK L pl (.r x)=pl:=by
 show(match L.lookup x with
  |some s=>kX s pl
  |none=>pl)=pl
 rw[h]
theorem Lc{L:List (Int×Int)}{x s:Int}(h:L.lookup x=some s)(pl:List (Int×Unit)):iK L pl (.r x)=kX s pl:=by
 show(match L.lookup x with
  |some s=>kX s pl
  |none=>pl)=_
 rw[h]
theorem V7(p:gB)(ok:p.Ok):wC (BI p.bf) (mh p.cK):=by
 obtain⟨⟨y,z⟩,⟨Y,Z⟩,hw,⟨y0,y9⟩,⟨B,I⟩,⟨s0,s5⟩,J,⟨z0,z9⟩,⟨k0,k6⟩,K,⟨l0,l4⟩⟩:=ok;obtain⟨H,o⟩:=UU y z B I (decide (Int.fmod p.jl 4=2)) (decide (Int.fmod p.jl 2=0)) (decide (Int.fmod p.jm 4=2)) (decide (Int.fmod p.jm 2=0)) (decide (p.base_q=3)) p.off_q (Int.fmod (p.off_q+p.jl) 4294967296) (Int.fmod (-p.jl) 4294967296) p.off_q (Int.fmod (p.off_q+p.jm) 4294967296) (Int.fmod (-p.jm) 4294967296) p.cM;rw[V6];generalize rh p.base_q p.cC (decide (Int.fmod p.jl 4=2)) (decide (Int.fmod p.jl 2=0)) (decide (Int.fmod p.jm 4=2)) (decide (Int.fmod p.jm 2=0)) (decide (p.base_q=3)) p.off_q (Int.fmod (p.off_q+p.jl) 4294967296) (Int.fmod (-p.jl) 4294967296) p.off_q (Int.fmod (p.off_q+p.jm) 4294967296) (Int.fmod (-p.jm) 4294967296) p.cM=A at H o;have O:gA (A++AM p)=gA A:=by
  unfold gA;rw[vI];refine Ol _ _ fun r hr l=>?_
  unfold AM ly iW mc nT at hr
  revert hr
  cases p.il<;>cases decide (p.kind_q=1)||decide (p.kind_q=4)<;>cases decide (p.kind_q=2)<;>cases decide (p.kind_q=3)<;>cases decide (p.kind_q=5)<;>cases decide (p.lk<2)<;>cases decide (p.cK=1)||decide (p.cK=2)<;>simp only[gG,jg,gx,pJ,vV,eY,fb,or_false]
  all_goals
   intro hr;rcases hr with rfl|rfl|rfl|rfl<;>rfl
 unfold BI;rw[O,vI,o];generalize gA A=L at H;obtain⟨H0,e,j,H5,q,S,U⟩:=H;rw[xx e];unfold AM;have q1:∀pl,ju L pl (ly p.il p.w p.sg p.firm)=pl:=fun pl=>by
  unfold ly;cases p.il
  ·exact xx e pl
  ·rfl
 have q2:∀pl,(iW p.kind_q p.wide_q).foldl (ju L) pl=pl:=fun pl=>by
  unfold iW;cases decide (p.kind_q=1)||decide (p.kind_q=4)<;>cases decide (p.kind_q=2)<;>cases decide (p.kind_q=3)<;>cases decide (p.kind_q=5)
  all_goals first|rfl|exact xx j pl|(show(bif(L.lookup (-1)).isSome then pl else iK L pl (.r 2))=pl;rw[xx j];cases(L.lookup (-1)).isSome<;>rfl)
 have q3:∀pl,ju L pl (mc p.lk p.lw p.ls p.lf)=pl:=fun pl=>by
  unfold mc;cases decide (p.lk<2)
  ·show iK L pl (.r (1+Int.fmod p.lk 2))=pl
   have W:1+Int.fmod p.lk 2=1∨1+Int.fmod p.lk 2=2:=by rw[uB _ (by omega)];omega
   rcases W with h|h
   ·rw[h];exact xx e pl
   ·rw[h];exact xx j pl
  ·rfl
 rw[tG,vI,tG,q1,q2,q3];unfold nT
 by_cases t:p.cK=1
 ·rw[t];have:List.foldl (ju L) [((0:Int),()),(1,())] [⟨.ca (3+(1-1)),-1,false⟩]=[(1,())]:=by
   show(bif(L.lookup (-1)).isSome then _ else iK L [((0:Int),()),(1,())] (.r 3))=_
   rw[q,Lc S];rfl
  exact⟨lu (fun l:List (Int×Unit)=>(l.lookup 0).isSome) this,lu (fun l:List (Int×Unit)=>(l.lookup 1).isSome) this⟩
 ·by_cases x:p.cK=2
  ·rw[x];have:List.foldl (ju L) [((0:Int),()),(1,())] [⟨.ca (3+(2-1)),-1,false⟩]=[(0,())]:=by
    show(bif(L.lookup (-1)).isSome then _ else iK L [((0:Int),()),(1,())] (.r 4))=_
    rw[q,Lc U];rfl
   exact⟨lu (fun l:List (Int×Unit)=>(l.lookup 0).isSome) this,lu (fun l:List (Int×Unit)=>(l.lookup 1).isSome) this⟩
  ·simp[t,x,mh,wC]
theorem Dl:∀(bf:List cq)(n:Nat)(p:Pd),p∈ip n bf->∃(j:Nat)(r:cq),bf[j]?=some r/\p=(n+10*j+1,n+10*j,r)
 |[],n,p,h=>by cases h
 |r::bf,n,p,h=>by
  rcases gx.mp h with rfl|h
  ·exact⟨0,r,rfl,rfl⟩
  ·obtain⟨j,o,e,q⟩:=Dl bf (n+10) p h;exact⟨j+1,o,e,by rw[q];congr 1;omega;congr 1;omega⟩
theorem Nr:∀(bf:List cq)(n:Nat),(ip n bf).map (·.2.2.d)=bf.map (·.d)
 |[],n=>rfl
 |r::bf,n=>by rw[ip,gf,gf,Nr]
theorem Hd:∀(bf:List cq)(n:Nat),(ip n bf).map (·.1)=lT n bf.length
 |[],n=>rfl
 |r::bf,n=>by rw[ip,gf,Hd,cT];unfold lT;rw[List.range_succ_eq_map,gf,List.map_map];congr 1;apply List.map_congr_left;intro j _;simp only[Function.comp_apply];omega
theorem TG(n m:Nat):(lT n m).Nodup:=by unfold lT;refine List.Pairwise.map _ (fun a b h e=>h ?_) List.nodup_range;omega
def sW(r:cq):Prop:=∀i,r.k=.sl i->0<=r.d
theorem Mg(goal base_q off_q way:Int):∀r∈hU goal base_q off_q way,sW r:=by unfold hU;cases(decide (base_q=2)||decide (base_q=3))&&decide (Int.fmod way 4=2)<;>cases decide (Int.fmod way 2=0)<;>simp[sW]
theorem V8(kind_q wide_q:Int):∀r∈iW kind_q wide_q,sW r:=by unfold iW;cases decide (kind_q=1)||decide (kind_q=4)<;>cases decide (kind_q=2)<;>cases decide (kind_q=3)<;>cases decide (kind_q=5)<;>simp[sW]
theorem Xt(p:gB):∀r∈p.bf,∀i,r.k=.sl i->0<=r.d:=by
 show∀r∈p.bf,sW r
 unfold gB.bf;rw[Dq];refine⟨by simp[ji,sW],?_⟩;rw[Dq];refine⟨Mg _ _ _ _,?_⟩;rw[Dq];refine⟨Mg _ _ _ _,?_⟩;rw[Dr,Dr];refine⟨by simp[sW],by unfold ly;cases p.il<;>simp[sW],?_⟩;rw[Dq];refine⟨V8 _ _,?_⟩;rw[Dr];refine⟨by unfold mc;cases decide (p.lk<2)<;>simp[sW],?_⟩;unfold nT;cases decide (p.cK=1)||decide (p.cK=2)<;>simp[sW]
theorem aby(h:Hp)(n k F Pm Z Bk bl S E be n0:Nat)(p:gB)(ok:p.Ok)(hB:rX h)(U:FnAt h.g F Pm Z Bk bl S E (lT n0 p.bf.length))(hE:h.g E=rR be)(ae:h.g be=.list (bR [.r 1]))(af:F<n/\Pm<n/\Z<n/\Bk<n/\bl<n/\S<n)(ag:E<n/\be<n)
  (ah:∀(j:Nat) r,p.bf[j]?=some r->qm h.g (n0+10*j+1) (n0+10*j) r) (ao:n0+10*p.bf.length<=E) (lo:Nat) (ap:lo<=n0/\lo<=bl) (aa:∀j,n<=j->h.g j=.free) (hn:n+20000<bu):
  ∃M x S' dn,bH mM (k+8) 45 [.ref (.g F)] ⟨h,n⟩=some (.bool M.ch,⟨hh M,x⟩)/\yG p dn/\M.g F=t7 Pm Z Bk/\M.g Bk=.list [cu bl]/\M.g bl=mQ (.int (.l 0)) S' E/\M.g S'=.list ((dn.map (·.1)).map cu)/\(F<x/\Bk<x/\bl<x/\S'<x)/\
   (∀(i:Nat) a o,(dn.map (·.1))[i]?=some a->(dn.map (·.2))[i]?=some o->Er M.g a o/\a<x/\(∀b more_q firm,M.g a=da o.op o.d b more_q firm->b<x))/\(∀j,x<=j->M.g j=.free)/\dn.length<100/\n<=x/\x+900<bu/\∀j,j<lo->M.g j=h.g j:=by
 have an:=GR p;have hA:vB h.g (lT n0 p.bf.length) p.bf n:=⟨Dk _ _,fun i a r ha hr=>by
  obtain⟨z,rfl⟩:=Xm ha
  exact⟨_,ah i r hr,by omega,by omega⟩⟩
 have ak:∀r∈p.bf,∀i,r.k=.sl i->0<=r.d:=Xt p;obtain⟨N,t,qi,i1,i2,i3,i4,i5,i6,i7,i8,i9,ai,al,Y,aj,aq,ar⟩:=VS h n k F Pm Z Bk bl S E be _ p.bf hB U hE ae af ag hA (TF p) ak (by omega) aa (by omega);obtain⟨l1,l2,l3,l4,l5,l6⟩:=af;obtain⟨m1,m2⟩:=ag;have J:∀j,j<n->(if j=t then O.list []else N.g j)=h.g j:=fun j I=>(bL (by omega)).trans (Y j I)
 let X:Fx:=⟨k,t,S,F,Z,bl,E,be,Bk,Pm,lT n0 p.bf.length,lo,h.g⟩
 have W0:W X (ip n0 p.bf) [] [] (N.wg fun j=>if j=t then .list []else N.g j) (t+1):=by
  refine⟨df rfl,⟨by show t<_;omega,by show S<_;omega,by show F<_;omega,by show Z<_;omega,by show bl<_;omega,by show E<_;omega,by show be<_;omega,by show Bk<_;omega⟩,⟨by show t≠S;omega,by show t≠Z;omega,by show t≠be;omega,by show t≠Bk;omega⟩,
   (J _ l6).trans U.st,i1,(J _ l1).trans U.fn,(J _ l3).trans U.sl,(J _ l4).trans U.bk,(J _ l5).trans U.bl,(J _ m1).trans hE,(J _ m2).trans ae,fun q K=>?_,fun q K=>(by cases K),?_,fun j I=>(bL (by omega)).trans (aj j (by omega)),by show lo<=t;omega,fun q K=>?_,fun j I=>J j (by have:j<lo:=I;omega)⟩
  ·obtain⟨j,r,e,rfl⟩:=Dl _ _ _ K;obtain⟨s1,s2⟩:=ah j r e;have I:j<p.bf.length:=(lK.mp e).1;exact⟨⟨(J (n0+10*j+1) (by omega)).trans s1,(J (n0+10*j) (by omega)).trans s2⟩,by show n0+10*j+1<_;omega,by show n0+10*j<_;omega,by show n0+10*j≠t;omega,by show n0+10*j+1≠E;omega⟩
  ·rw[m8,sN,Hd];exact TG _ _
  ·obtain⟨j,r,e,rfl⟩:=Dl _ _ _ K;show lo<=n0+10*j+1
   omega
 have T0:TT X (ip n0 p.bf) [] [] (N.wg fun j=>if j=t then .list []else N.g j) (t+1) 6000:=by
  refine⟨W0,⟨?_,?_,?_,?_,?_,?_,?_⟩,⟨by omega,?_,?_,?_,?_,?_,?_,?_⟩,?_,List.nodup_nil,fun q h=>(by cases h),by simp,?_,?_⟩
  ·intro v r h;simp[ai]at h
  ·intro v r h;simp[i5]at h
  ·intro v r h;simp[i9]at h
  ·intro v r h;simp[i7]at h
  ·intro v r h;simp[i8]at h
  ·intro v r h;simp[i5]at h
  ·intro v r _ h;simp[i5]at h
  ·simp[i5];omega
  ·simp[i6];omega
  ·simp[i7];omega
  ·simp[i8];omega
  ·simp[i9];omega
  ·simp[ai];omega
  ·simp[al];omega
  ·show CO _ _ _ N.ce []
   rw[i6];exact .nil
  ·intro q K h0;obtain⟨j,r,e,rfl⟩:=Dl _ _ _ K;have hr:r∈p.bf:=iw e;refine⟨(Hc p).2.2 _ (List.mem_map_of_mem hr) h0,?_,?_⟩
   ·show N.on.lookup r.d=_
    rw[i3];have:=Hr hr;rw[oJ h0]at this;cases e:(iL p.bf).lookup r.d with|none=>rw[e]at this;cases this|some u=>rfl
   ·show N.st.lookup r.d=_
    rw[i5];rfl
  ·have:=(Hc p).2.1;rw[←Nr p.bf n0,List.pairwise_map]at this;exact this
 obtain⟨N',y,dn,lA,T,G,gr,R⟩:=abw p ok T0 (by show N.on.lookup 0=_;rw[i3];exact D3 _ (.inl rfl)) (by show N.on.lookup 1=_;rw[i3];exact D3 _ (.inr (.inl rfl))) (by show N.on.lookup 2=_;rw[i3];exact D3 _ (.inr (.inr rfl))) (by show wC N.pr _;rw[i4];exact V7 p ok) (fun s w u=>by show N.ex.lookup _=none;rw[i9];rfl);have B:=G (.nil N' y (dn.map (·.1)));rw[Hd]at B;have w:=T.w;obtain⟨x1,x2,x3,x4,x5,x6,x7,x8⟩:=w.lt;have hc:A7 N':=by
  have o1:N'.on.lookup 1=some ():=by have:N'.on=N.on:=gr.on;rw[this,i3];exact D3 _ (.inr (.inl rfl))
  refine⟨o1,?_⟩;cases e:N'.st.lookup 1 with|none=>exact .inr ⟨rfl,T.i.kZ⟩|some v=>obtain⟨_,q,K⟩:=T.i.sh 1 v e;obtain⟨y1,y2⟩:=T.i.hs v q K;exact .inl ⟨v,q,rfl,K,y1,y2⟩
 obtain⟨M,x,S',qb,b1,b2,b3,b4,b5,b6,b7⟩:=Zx (bl:=bl) (S:=S) (E:=E) (be:=be) (As:=lT n0 p.bf.length) ((Y _ l5).trans U.bl) ((Y _ l6).trans U.st) (by omega) (by omega) (aj _ (ez _)) (by omega) (by rw[Dk];omega) B w.bl w.en w.be x1 x6 x7 w.free (T.rm.less (by omega) (by omega)) hc;have am:FnAt N.g F Pm Z Bk bl S E (lT n0 p.bf.length):=U.same (fun j I=>Y j I) ⟨l1,l2,l3,l4,l5,l6⟩;have qn:=ZU qi am qb;have au:=T.rm.nx;have av:t<y:=x1;have ab:∀j o,j<y->N'.g j=o->o≠mQ (.int (.l 0)) S E->o≠rR be->M.g j=o:=fun j o I z h2 h3=>(b4 j I (fun e=>h2 (by rw[←z,e];exact w.bl)) (fun e=>h3 (by rw[←z,e];exact w.en))).trans z
 refine⟨M,x,S',dn,qn,R,ab _ _ x3 w.fo (by simp) (by simp),ab _ _ x8 w.bk (by simp) (by simp),b1,b2,⟨by have:F<y:=x3;omega,by have:Bk<y:=x8;omega,by have:bl<y:=x5;omega,by omega⟩,fun i a o z h2=>?_,b5,?_,?_,?_,fun j I=>(b4 j (by omega) (by omega) (by omega)).trans (w.old j I)⟩
 ·rw[sL]at z h2;cases e:dn[i]? with|none=>rw[e]at z;cases z|some q=>rw[e]at z h2;cases z;cases h2;obtain⟨d1,d2,b,more_q,firm,d3,d4,d5,d6⟩:=w.dn q (iw e);have g1:=b4 q.1 d1 (fun e=>by have:=w.bl;rw[show X.bl=bl from rfl,←e,d3]at this;simp at this) d2;have g2:=ab _ _ d5 d4 (by simp) (by simp);refine⟨⟨b,more_q,firm,g1.trans d3,g2⟩,by show q.1<x;omega,fun b' m' f' e'=>?_⟩;rw[g1,d3]at e';simp at e';omega
 ·have:=MC B;obtain⟨sub,s1,s2⟩:=this;have z:=s2.length_le;rw[Dk]at z;have h2:=lu List.length s1;simp at h2;omega
 ·omega
 ·omega
theorem Nt(h:Hp)(g:Nat->O)(a:Ad)(n:Nat)(o:∀j,j<n->g j=h.g j)(ha:∀i,a=.g i->i<n):mM.get ({h with g:=g}:Hp) a=mM.get h a:=by
 cases a with
 |s j=>
  show jI _ _=jI _ _
  unfold jI;split<;>first|rfl|(rename_i e;cases e)
 |g j=>exact o j (ha j rfl)
theorem Xu(j:V->L->St Hp->R Hp (Fl×L))(P:Nat)(x:V)(l p:L)(s o:St Hp)(q:s.h.g P=.list [x])(e:j (.tup [.int (.l 0),x]) l s=some ((.nx,p),o))(t:o.h.g P=.list [x]):eU mM (.en (.g P)) j (1+1) 0 l s=some ((.nx,p),o):=by
 have k1:mM.get s.h (.g P)=.list [x]:=q;have k2:mM.get o.h (.g P)=.list [x]:=t;have y:j (.tup [.int (.l ((0:Nat):Int)),x]) l s=some ((.nx,p),o):=e;simp only[eU,hX,k1,bA,y];show eU mM (.en (.g P)) j 1 1 p o=_
 simp only[eU,hX,k2,bA]
theorem V9(h:Hp)(n k P R:Nat)(p:gB)(ok:p.Ok)(B:List Ad)(y:rX h)(U:h.g P=.list [.tup [.ref (.g R),rS]])(hR:h.g R=.list (fD p.bf B))(Z:P<n/\R<n)(ha:jG h p.bf B)(eo:∀a∈B,∀i,a=.g i->i<n)(I:∀j,n<=j->h.g j=.free)(hn:n+30000<bu):
  ∃M x g q q1 xs dn,bH mM (k+9) 46 [.ref (.g P)] ⟨h,n⟩=some (.ref (.g q),⟨{hh M with g:=g},x⟩)/\g q=.list [cu q1]/\g q1=.list xs/\AJ g n (dn.map (·.2)) xs/\yG p dn/\(∀j,j<n->g j=h.g j)/\(∀j,x<=j->g j=.free)/\n<=x/\x+400<bu:=by
 have S:=GR p;obtain⟨o1,o2⟩:=Z;obtain⟨z,a1,a2,a3,a4,a5,a6,a7⟩:=VW h n (k+7) (.ref (.g P)) [.fo (.tp [.nm 2,.tp [.nm 3,.nm 4]]) (.en (.l 0)) xI,.ex (.cf 45 [.l 1]),.rt (.lc (.lc uL (.nm 13) (.at (.l 12) 7) .none) (.nm 12) (.at (.l 1) 13) .none)] I (by omega);obtain⟨O,l',c1,c2,c3,c4,c5,c6,c7,c8,c9,O1⟩:=UP {h with g:=z} (n+17) n (n+11) (n+15) (n+7) R (k+7) p.bf B (.ref (.g P)) .no .no y.t a2 a5 ((a6 R o2).trans hR) (by omega) (by omega) ⟨ha.1,fun i r a e1 W=>(Nt h z a n a6 (eo a (iw W))).trans (ha.2 i r a e1 W)⟩ (fun a h1 i h2=>by have:=eo a h1 i h2;omega) S a7 (by omega);dsimp only at c1;obtain⟨y2,y3,y4,y5,y6,y7,y8,y9,J,K,rfl⟩:=c2;have B1:rX ({h with g:=O}:Hp):=⟨y.nb,y.on,y.mo,y.pr,y.ho,y.st,y.lo,y.ce,y.pl,y.fo,y.ex,y.hd,y.sa,y.lg,y.t⟩
 have hF:FnAt O n (n+11) (n+15) (n+7) (n+17) (n+17+2) (n+17+6+10*p.bf.length) (lT (n+17+5) p.bf.length):=
  ⟨(c9 n (by omega) (by omega)).trans a2,(c9 _ (by omega) (by omega)).trans a3,(c9 _ (by omega) (by omega)).trans a4,c5,c3,c4⟩
 obtain⟨M,x,S',dn,d1,d2,d3,d4,d5,d6,d7,d8,d9,aa,d11,ai,ab⟩:=aby {h with g:=O} (n+17+15+10*p.bf.length) k n (n+11) (n+15) (n+7) (n+17) (n+17+2) (n+17+6+10*p.bf.length) (n+17+5+10*p.bf.length) (n+17+5) p ok B1 hF c6 c7 (by omega) (by omega) (fun j r e=>c8 j r e) (by omega) n (by omega) O1 (by omega);obtain⟨g3,q,q1,xs,l2,e1,W,e3,⟨e4,ae⟩,e5,e6,e7,e8⟩:=VY {h with g:=O} (n+17+15+10*p.bf.length) (k+7) n (n+11) (n+15) (n+7) (n+17) S' S' (n+17+6+10*p.bf.length) x 0 M M.ch (.int (.l 0)) (dn.map (·.1)) (dn.map (·.2)) (.ref (.g P)) y2 y3 y4 y5 y6 y7 y8 y9 J K d1 d3 d4 d5 d6 d7 (by simp) d8 (by simpa using aa) d9 (by omega);have af:P≠n+7:=by omega
 have t:dE mM (.tp [.nm 2,.tp [.nm 3,.nm 4]]) (cy mM (bH mM (k+8)) xI) (.tup [.int (.l 0),.tup [.ref (.g R),rS]]) [.ref (.g P),.ref (.g n),.no,.no,.no,.no,.no,.no,.no,.no,.no,.no,.no,.no] ⟨{h with g:=z},n+17⟩=some ((.nx,[.ref (.g P),.ref (.g n),y2,y3,y4,y5,y6,y7,y8,y9,J,K,.no,.no]),⟨{h with g:=O},n+17+15+10*p.bf.length⟩):=by
  show cy mM (bH mM (k+8)) xI [.ref (.g P),.ref (.g n),.int (.l 0),.ref (.g R),rS,.no,.no,.no,.no,.no,.no,.no,.no,.no] ⟨{h with g:=z},n+17⟩=_
  exact c1
 have t2:=Xu _ P _ _ _ ⟨{h with g:=z},n+17⟩ _ ((a6 P o1).trans U) t (((c9 P (by omega) af).trans (a6 P o1)).trans U);have cnt:count mM (.en (.g P)) ({h with g:=z}:Hp)=1:=by have:mM.get ({h with g:=z}:Hp) (.g P)=.list [.tup [.ref (.g R),rS]]:=(a6 P o1).trans U;simp only[count,this];rfl
 have gP:mM.get ({h with g:=z}:Hp) (.g P)=.list [.tup [.ref (.g R),rS]]:=(a6 P o1).trans U;have nd:∀j,j<n->M.g j=h.g j:=fun j Y=>(ab j Y).trans ((c9 j (by omega) (by omega)).trans (a6 j Y))
 refine⟨M,x+(dn.map (·.1)).length+2,g3,q,q1,xs,dn,?_,W,e3,⟨e4,fun i o ho=>?_⟩,d2,fun j Y=>(e5 j (by omega)).trans (nd j Y),e6,by omega,by simp;omega⟩
 ·rw[c46];show ri (cy mM (bH mM (k+8)) xr.bd ([.ref (.g P)]++fill 13) ⟨h,n⟩)=_
  have hd:cy mM (bH mM (k+8)) xr.bd ([.ref (.g P)]++fill 13) ⟨h,n⟩=some ((.rt (.ref (.g q)),l2),⟨{hh M with g:=g3},x+(dn.map (·.1)).length+2⟩):=by
   refine a1.trans ?_;have ag:eJ mM (bH mM (k+8)) (.fo (.tp [.nm 2,.tp [.nm 3,.nm 4]]) (.en (.l 0)) xI) [.ref (.g P),.ref (.g n),.no,.no,.no,.no,.no,.no,.no,.no,.no,.no,.no,.no] ⟨{h with g:=z},n+17⟩=some ((.nx,[.ref (.g P),.ref (.g n),y2,y3,y4,y5,y6,y7,y8,y9,J,K,.no,.no]),⟨{h with g:=O},n+17+15+10*p.bf.length⟩):=by
    have ah:tY mM (bH mM (k+8)) (.en (.l 0)) [.ref (.g P),.ref (.g n),.no,.no,.no,.no,.no,.no,.no,.no,.no,.no,.no,.no] ⟨{h with g:=z},n+17⟩=some (.en (.g P),⟨{h with g:=z},n+17⟩):=by
     rw[Zj];show(match mM.get ({h with g:=z}:Hp) (.g P)with
      |.list _=>some (It.en (.g P),(⟨{h with g:=z},n+17⟩:St Hp))
      |_=>.none)=_
     rw[gP]
    rw[mK,ah];show eU mM (.en (.g P)) _ (count mM (.en (.g P)) ({h with g:=z}:Hp)+1) 0 _ _=_
    rw[cnt];exact t2
   rw[eM,ag];exact e1
  rw[hd];rfl
 ·obtain⟨c,f1,f2,f3⟩:=ae i o ho;exact⟨c,f1,f2,by omega⟩
theorem Bc(F:cG)(a b:Int)(e:(b==0)=false):hV F .mod (.l a) (.l b)=some (.l (Int.fmod a b)):=by
 show(bif b==0 then _ else _)=_
 rw[e];rfl
theorem Es(F:cG)(a b:Int):hV F .add (.l a) (.l b)=some (.l (a+b)):=rfl
theorem Et(F:cG)(a b:Int):hV F .sub (.l a) (.l b)=some (.l (a-b)):=rfl
theorem abz(a:Int)(s:St Hp):neg (.int (.l a)) s=some (.int (.l (-a)),s):=rfl
theorem abA{i:Int}(e:0<=i)(j:i<5):i=0∨i=1∨i=2∨i=3∨i=4:=by omega
theorem Py{b:Int}(e:0<=b)(j:b<5):jy [.int (.l 3),.int (.l 4),.int (.l 5),.int (.l 6),.int (.l 0)] (.int (.l b))=some (.int (.l (rb b))):=by rcases abA e j with rfl|rfl|rfl|rfl|rfl<;>rfl
theorem nmI{b:Int}(h:(decide (b=2)||decide (b=3))=true):jy [.str 23,.str 24] (.int (.l (b-2)))=some (.str (mn (decide (b=3)))):=by simp only[m7,iG]at h;rcases h with rfl|rfl<;>rfl
theorem Om(h:Hp)(b x y:Int):dF mM h (.int (.l b)) (.tup [.int (.l x),.int (.l y)])=some (decide (b=x)||decide (b=y)):=by
 show oO dN (.l b) [.int (.l x),.int (.l y)]=_
 have z:∀y:Int,qC dN (.l y) (.l b)=some (decide (b=y)):=fun y=>by
  show some (y==b)=_
  by_cases q:b=y
  ·subst q;simp
  ·simp[q,kQ q]
 simp only[oO,z];cases decide (b=x)<;>cases decide (b=y)<;>rfl
theorem jG.one{h:Hp}{r:cq}{a:Ad}(e:mM.get h a=.list (bR r.k.args)):jG h [r] [a]:=⟨rfl,fun i p q j o=>by
 cases i with
 |zero=>cases j;cases o;exact e
 |succ i=>simp at j⟩
theorem jG.app{h:Hp}{r1 o:List cq}{a1 p:List Ad}(x:jG h r1 a1)(y:jG h o p):jG h (r1++o) (a1++p):=⟨by rw[cU,cU,x.1,y.1],fun i r a e j=>by
 by_cases hi:i<r1.length
 ·rw[List.getElem?_append_left hi]at e;rw[List.getElem?_append_left (by rw[x.1];exact hi)]at j;exact x.2 i r a e j
 ·rw[Dp (by omega)]at e;rw[Dp (by rw[x.1];omega),x.1]at j
  exact y.2 _ r a e j⟩
theorem GA{r1 e:List cq}{a1 j:List Ad}(h:a1.length=r1.length):fD (r1++e) (a1++j)=fD r1 a1++fD e j:=List.zipWith_append (by rw[h])
local macro_rules |`(tactic|walk_at "k44")=>`(tactic|simp(disch:=walk_at "k21")only[el,ff,iH,fp,eM,fY,fS,iI,eZ,eF,nY,gj,oQ,tR,fG,qz,iJ,nh,ma,lQ,tO,tS,eN,eO,fN,jh,iT,pG,fC,fA,fe,gw,ij,jJ,kT,gQ,jf,bA,bW,fill,fb,eY, *,n4,jS,lL,cL,gv8,iA,u0,cQ,c47,c49,zx,zk,Bc,Es,Et,abz,Py,nmI,Om])
theorem Xv(h:Hp)(n k:Nat)(goal base_q off_q way:Int)(B:0<=base_q)(I:base_q<5)(e:∀j,n<=j->h.g j=.free)(J:n+20<bu):
  ∃g q o nx,bH mM (k+1) 47 [.int (.l goal),.int (.l base_q),.int (.l off_q),.int (.l way)] ⟨h,n⟩=some (.ref (.g q),⟨{h with g:=g},nx⟩)/\g q=.list (fD (hU goal base_q off_q way) o)/\jG {h with g:=g} (hU goal base_q off_q way) o/\(∀a∈o,∃i,a=.g i/\n<=i/\i<nx/\i≠q)/\(∀j,j<n->g j=h.g j)/\(∀j,nx<=j->g j=.free)/\n<=q/\q<nx/\nx<=n+10:=by
 have K:=e n (ez _);have O:=e (n+1) (by omega);have S:=e (n+1+1) (by omega);have ad:((decide (base_q=2)||decide (base_q=3))&&decide (Int.fmod way 4=2))=false->
   ∃g q o nx,bH mM (k+1) 47 [.int (.l goal),.int (.l base_q),.int (.l off_q),.int (.l way)] ⟨h,n⟩=some (.ref (.g q),⟨{h with g:=g},nx⟩)/\g q=.list (fD (bif decide (Int.fmod way 2=0)then[⟨.ad (rb base_q) off_q,goal,false⟩]else[⟨.ad (rb base_q) (Int.fmod (off_q+way) 4294967296),goal+1,false⟩,⟨.ad (goal+1) (Int.fmod (-way) 4294967296),goal,false⟩]) o)/\
    jG {h with g:=g} (bif decide (Int.fmod way 2=0)then[⟨.ad (rb base_q) off_q,goal,false⟩]else[⟨.ad (rb base_q) (Int.fmod (off_q+way) 4294967296),goal+1,false⟩,⟨.ad (goal+1) (Int.fmod (-way) 4294967296),goal,false⟩]) o/\(∀a∈o,∃i,a=.g i/\n<=i/\i<nx/\i≠q)/\(∀j,j<n->g j=h.g j)/\(∀j,nx<=j->g j=.free)/\n<=q/\q<nx/\nx<=n+10:=fun p=>by
  cases U:decide (Int.fmod way 2=0)with
  |true=>
   refine⟨fun j=>if j=n+1 then .list (fD [⟨.ad (rb base_q) off_q,goal,false⟩] [.g n])else if j=n then .list (bR [.r (rb base_q),.k off_q])else h.g j,n+1,[.g n],n+2,?_,df rfl,.one ?_,?_,?_,?_,by omega,by omega,by omega⟩
   ·cases x:(decide (base_q=2)||decide (base_q=3))with
    |true=>
     have z:decide (Int.fmod way 4=2)=false:=by rw[x]at p;exact p
     walk_at "k44";rfl
    |false=>walk_at "k44";rfl
   ·exact(bL (by omega)).trans (df rfl)
   ·intro a ha;rw[kP]at ha;exact⟨n,ha,by omega,by omega,by omega⟩
   ·intro j t;exact(bL (by omega)).trans (bL (by omega))
   ·intro j t;exact((bL (by omega)).trans (bL (by omega))).trans (e j (by omega))
  |false=>
   refine⟨fun j=>if j=n+2 then .list (fD [⟨.ad (rb base_q) (Int.fmod (off_q+way) 4294967296),goal+1,false⟩,⟨.ad (goal+1) (Int.fmod (-way) 4294967296),goal,false⟩] [.g n,.g (n+1)])else if j=n+1 then .list (bR [.r (goal+1),.k (Int.fmod (-way) 4294967296)])else if j=n then .list (bR [.r (rb base_q),.k (Int.fmod (off_q+way) 4294967296)])else h.g j,n+2,[.g n,.g (n+1)],n+3,?_,df rfl,jG.app (r1:=[_]) (a1:=[_]) (.one ?_) (.one ?_),?_,?_,?_,by omega,by omega,by omega⟩
   ·cases x:(decide (base_q=2)||decide (base_q=3))with
    |true=>
     have z:decide (Int.fmod way 4=2)=false:=by rw[x]at p;exact p
     walk_at "k44";rfl
    |false=>walk_at "k44";rfl
   ·exact(bL (by omega)).trans ((bL (by omega)).trans (df rfl))
   ·exact(bL (by omega)).trans (df rfl)
   ·intro a ha;rcases gx.mp ha with ha|ha
    ·exact⟨n,ha,by omega,by omega,by omega⟩
    ·rw[kP]at ha;exact⟨n+1,ha,by omega,by omega,by omega⟩
   ·intro j t;exact(bL (by omega)).trans ((bL (by omega)).trans (bL (by omega)))
   ·intro j t;exact((bL (by omega)).trans ((bL (by omega)).trans (bL (by omega)))).trans (e j (by omega))
 unfold hU;cases y:(decide (base_q=2)||decide (base_q=3))&&decide (Int.fmod way 4=2)with
 |false=>exact ad y
 |true=>
  rw[cY]at y;obtain⟨x,z⟩:=y;refine⟨fun j=>if j=n+1 then .list (fD [⟨.na (decide (base_q=3)) off_q,goal,false⟩] [.g n])else if j=n then .list []else h.g j,n+1,[.g n],n+2,?_,df rfl,.one ?_,?_,?_,?_,by omega,by omega,by omega⟩
  ·clear ad;walk_at "k44";rfl
  ·exact(bL (by omega)).trans (df rfl)
  ·intro a ha;rw[kP]at ha;exact⟨n,ha,by omega,by omega,by omega⟩
  ·intro j t;exact(bL (by omega)).trans (bL (by omega))
  ·intro j t;exact((bL (by omega)).trans (bL (by omega))).trans (e j (by omega))
theorem Xw(h:Hp)(n k:Nat)(kind_q wide_q:Int)(pl:V)(k0:0<=kind_q)(k6:kind_q<6)(e:∀j,n<=j->h.g j=.free)(z:pl≠ .no)(K:n+20<bu):
  ∃g q o nx,bH mM (k+1) 49 [.int (.l kind_q),pl,.int (.l wide_q),.int (.l 4)] ⟨h,n⟩=some (.ref (.g q),⟨{h with g:=g},nx⟩)/\g q=.list (fD (iW kind_q wide_q) o)/\jG {h with g:=g} (iW kind_q wide_q) o/\(∀a∈o,∃i,a=.g i/\n<=i/\i<nx/\i≠q)/\(∀j,j<n->g j=h.g j)/\(∀j,nx<=j->g j=.free)/\n<=q/\q<nx/\nx<=n+10:=by
 have O:=e n (ez _);have S:=e (n+1) (by omega);have one:∀(r:cq),iW kind_q wide_q=[r]->bH mM (k+1) 49 [.int (.l kind_q),pl,.int (.l wide_q),.int (.l 4)] ⟨h,n⟩=some (.ref (.g (n+1)),⟨{h with g:=fun j=>if j=n+1 then .list (fD [r] [.g n])else if j=n then .list (bR r.k.args)else h.g j},n+2⟩)->
   ∃g q o nx,bH mM (k+1) 49 [.int (.l kind_q),pl,.int (.l wide_q),.int (.l 4)] ⟨h,n⟩=some (.ref (.g q),⟨{h with g:=g},nx⟩)/\g q=.list (fD (iW kind_q wide_q) o)/\jG {h with g:=g} (iW kind_q wide_q) o/\(∀a∈o,∃i,a=.g i/\n<=i/\i<nx/\i≠q)/\(∀j,j<n->g j=h.g j)/\(∀j,nx<=j->g j=.free)/\n<=q/\q<nx/\nx<=n+10:=fun r hr B=>by
  rw[hr];refine⟨_,n+1,[.g n],n+2,B,df rfl,.one ?_,?_,?_,?_,by omega,by omega,by omega⟩
  ·exact(bL (by omega)).trans (df rfl)
  ·intro a ha;rw[kP]at ha;exact⟨n,ha,by omega,by omega,by omega⟩
  ·intro j t;exact(bL (by omega)).trans (bL (by omega))
  ·intro j t;exact((bL (by omega)).trans (bL (by omega))).trans (e j (by omega))
 have kk:kind_q=0∨kind_q=1∨kind_q=2∨kind_q=3∨kind_q=4∨kind_q=5:=by omega
 rcases kk with rfl|rfl|rfl|rfl|rfl|rfl
 ·refine⟨fun j=>if j=n then .list []else h.g j,n,[],n+1,?_,df rfl,⟨rfl,fun i r a I _=>by simp[iW]at I⟩,fun a ha=>(by cases ha),fun j t=>bL (by omega),fun j t=>(bL (by omega)).trans (e j (by omega)),by omega,by omega,by omega⟩;clear one;have p:decide ((0:Int)=1)=false:=rfl;have y:decide ((0:Int)=2)=false:=rfl;have J:decide ((0:Int)=3)=false:=rfl;have x:decide ((0:Int)=4)=false:=rfl;have U:decide ((0:Int)=5)=false:=rfl;walk_at "k44"
 ·refine one ⟨.st 14 2 wide_q,-1,false⟩ rfl ?_;clear one;have p:decide ((1:Int)=4)=false:=rfl;walk_at "k44";rfl
 ·refine one ⟨.ca 2,-1,false⟩ rfl ?_;clear one;have p:decide ((2:Int)=1)=false:=rfl;have x:decide ((2:Int)=4)=false:=rfl;walk_at "k44";rfl
 ·refine one ⟨.mo 14 5 4,-1,false⟩ rfl ?_;clear one;have p:decide ((3:Int)=1)=false:=rfl;have x:decide ((3:Int)=4)=false:=rfl;have y:decide ((3:Int)=2)=false:=rfl;walk_at "k44";rfl
 ·refine one ⟨.st 14 2 wide_q,-1,true⟩ rfl ?_;clear one;have p:decide ((4:Int)=1)=false:=rfl;walk_at "k44";rfl
 ·refine one ⟨.lo 14 wide_q false,9,true⟩ rfl ?_;clear one;have p:decide ((5:Int)=1)=false:=rfl;have y:decide ((5:Int)=2)=false:=rfl;have J:decide ((5:Int)=3)=false:=rfl;have x:decide ((5:Int)=4)=false:=rfl;walk_at "k44";rfl
def cD(l:List Int):List V:=l.map fun i=>.int (.l i)
def eR(a:Int):Nat->List Int
 |0=>[]
 |n+1=>a::eR (a+1) n
theorem Ld:∀(n:Nat)(a:Int),qV a n=cD (eR a n)
 |0,a=>rfl
 |n+1,a=>by rw[qV,Ld n];rfl
theorem LJ:∀(n:Nat)(a x:Int),x∈eR a n↔a<=x/\x<a+n
 |0,a,x=>by simp[eR]
 |n+1,a,x=>by rw[eR,gx,LJ n];omega
theorem tn:∀(n:Nat)(a:Int),(eR a n).length=n
 |0,a=>rfl
 |n+1,a=>by rw[eR,cT,tn n]
theorem UW{a:Int}{n m:Nat}(h:eR a n=eR a m):n=m:=by rw[←tn n a,h,tn]
theorem abB(x y:Int):qC dN (.l y) (.l x)=some (decide (x=y)):=by
 show some (y==x)=_
 by_cases q:x=y
 ·subst q;simp
 ·simp[q,kQ q]
theorem GB(x:Int):∀l:List Int,oO dN (.l x) (cD l)=some (decide (x∈l))
 |[]=>rfl
 |y::l=>by
  show oO dN (.l x) (.int (.l y)::cD l)=_
  simp only[oO,abB,GB x l]
  by_cases q:x=y<;>simp[q]
theorem He{h:Hp}{r:Nat}{l:List Int}(x:Int)(e:h.g r=.list (cD l)):dF mM h (.int (.l x)) (.ref (.g r))=some (decide (x∈l)):=by have:mM.get h (.g r)=.list (cD l):=e;unfold dF;simp only[this];exact GB x l
theorem LK(r:Nat->Ad->Option V)(n:Nat):∀l:List Int,nO r (cD l) n=some (cD l)
 |[]=>rfl
 |x::l=>by
  show nO r (.int (.l x)::cD l) n=_
  simp only[nO,nW,LK r n l];rfl
theorem Hf:∀a b:List Int,nV dN (cD a) (cD b)=some (decide (a=b))
 |[],[]=>rfl
 |[],_::_=>rfl
 |_::_,[]=>rfl
 |x::xs,y::ys=>by
  show nV dN (.int (.l x)::cD xs) (.int (.l y)::cD ys)=_
  rw[jF (eq_int x y) (Hf xs ys)];simp[xZ]
theorem Hx{h:Hp}{r:Nat}{l:List Int}(e:h.g r=.list (cD l))(n:Nat):nW (mi mM.toHOps h 3) (.ref (.g r)) (n+1)=some (.lst (cD l)):=by
 show mi mM.toHOps h 3 (n+1) (.g r)=_
 simp only[mi];rw[show mM.toHOps.get h (.g r)=.list (cD l) from e];simp only[LK]
theorem Nu{h:Hp}{p q:Nat}{a b:List Int}(hp:h.g p=.list (cD a))(e:h.g q=.list (cD b)):kV mM h (.ref (.g p)) (.ref (.g q))=some (decide (a=b)):=by
 have g:kV mM h (.ref (.g p)) (.ref (.g q))=qD mM h (.ref (.g p)) (.ref (.g q)):=by unfold kV;simp only[show mM.get h (.g p)=.list (cD a) from hp]
 rw[g];unfold qD;rw[Hx hp 19,Hx e 19];show eqv dN (.lst (cD a)) (.lst (cD b))=_
 simp only[eqv,Hf]
theorem Nv{h:Hp}{p q:Nat}{a b:List Int}(x y:Int)(hp:h.g p=.list (cD a))(j:h.g q=.list (cD b)):kV mM h (.tup [.int (.l x),.ref (.g p)]) (.tup [.int (.l y),.ref (.g q)])=some (decide (x=y)&&decide (a=b)):=by
 show qD mM h _ _=_
 unfold qD;have f:∀(x:Int)(p:Nat)(a:List Int),h.g p=.list (cD a)->nW (mi mM.toHOps h 3) (.tup [.int (.l x),.ref (.g p)]) 20=some (.tup [.int (.l x),.lst (cD a)]):=fun x p a e=>by simp only[nW,nO];rw[show mi mM.toHOps h 3 19 (.g p)=some (.lst (cD a)) from Hx e 18]
 rw[f x p a hp,f y q b j];show eqv dN (.tup _) (.tup _)=_
 refine rK (jF (eq_int x y) ?_);have:nV dN [.lst (cD a)] [.lst (cD b)]=some (decide (a=b)&&true):=jF (by simp only[eqv,Hf]) tv;rw[this,tL]
theorem KE(j:V->L->St Hp->R Hp (Option V))(A:Ad)(p:Int->Bool)(l:L)(s:St Hp)(fW:List Int)(t:mM.get s.h A=.list (cD fW))(I:fW.length<100)
  (B:∀x∈fW,j (.int (.l x)) l s=some (bif p x then some (.int (.l x))else none,s)):∀(dV o acc:List Int),fW=dV++o->acc.length<=dV.length->jU mM (.li A) j (o.length+1) dV.length (cD acc) l s=some (cD (acc++o.filter p),s)
 |dV,[],acc,e,hl=>by
  have y:bA (cD fW) dV.length=none:=by rw[pF,xU (by simp[cD,e])]
  simp only[cQ,jU,hX,t,y,List.filter_nil,sN]
 |dV,x::o,acc,e,hl=>by
  have y:bA (cD fW) dV.length=some (.int (.l x)):=by rw[pF,e];simp[cD]
  have J:=B x (by rw[e];simp);have r1:=KE j A p l s fW t I B (dV++[x]) o;rw[cU,cT,cQ]at r1;have hle:acc.length<bu:=by
   have:=lu List.length e;simp at this;show _<100000
   omega
  rw[cT,jU];simp only[hX,t,y,J];cases q:p x with
  |true=>
   have z:=r1 (acc++[x]) (by simp[e]) (by simp;omega);simp only[gG];rw[lq (by simp[cD];exact hle)];simp only[gG];rw[List.filter_cons_of_pos q];have K:cD acc++[.int (.l x)]=cD (acc++[x]):=by simp[cD]
   rw[K];simpa using z
  |false=>have z:=r1 acc (by simp[e]) (by simp;omega);simp only[jg];rw[List.filter_cons_of_neg (by simp[q])];exact z
theorem Z1(C:CH Hp)(l:L)(h:Hp)(n:Nat)(b:E)(t:Tg)(i c:E):b9 mM C (.lc b t i (some c)) l ⟨h,n⟩=bO (b9 mM C i l ⟨h,n⟩) fun v s=>bO (yb mM v s) fun a s=>bO (jU mM (.li a) (dE mM t (xQ mM (some (b9 mM C c)) (b9 mM C b))) (count mM (.li a) s.h+1) 0 [] l s) fun xs s=>new mM .none (.list xs) s:=rfl
local macro_rules |`(tactic|walk_at "k45")=>`(tactic|simp(disch:=walk_at "k21")only[el,ff,iH,fp,eM,fS,iI,eZ,eF,gj,fG,iJ,nh,ma,lQ,tO,tS,eN,eO,rQ,fN,iT,eQ,fC,fA,fe,gw,jQ,ij,sS,jJ,NM,kT,gQ,jf,bA,bW,fill,fb,eY,fX,ki, *,jV,mL,n4,jS,lL,Zl,cL,rV,rW,lM,mE,qg,iA,N9,cQ,Pw,Z1])
theorem Xx{e:V->L->St Hp->R Hp (Fl×L)}{x y v:V}{l j t:L}{s:St Hp}{p q:Bool}(o:e x l s=some ((bif p then .rt v else .nx,j),s))(z:e y j s=some ((bif q then .rt v else .nx,t),s)):eU mM (.tu [x,y]) e 3 0 l s=some ((bif p||q then .rt v else .nx,bif p then j else t),s):=by
 cases p
 ·cases q
  ·simp[eU,hX,bA,o,z]
  ·simp[eU,hX,bA,o,z]
 ·simp[eU,hX,bA,o]
theorem UX(h:Hp)(n k r1 I K:Nat)(base_q cC off_q cM cK:Int)(w J:Nat)(W:h.g r1=.list (cD (eR off_q w)))(Y:h.g I=.list (cD (eR cM J)))(Z:h.g K=.list (cD (bif decide (cK=1)||decide (cK=2)then[cK-1]else[])))(hw:0<w)(hm:0<J)(ab:w<9)(o:∀j,n<=j->h.g j=.free)(ae:r1<n/\I<n/\K<n)(hn:n+20<bu):
  ∃g nx,bH mM (k+1) 48 [.tup [.int (.l base_q),.ref (.g r1)],.tup [.int (.l cC),.ref (.g I)],.ref (.g K)] ⟨h,n⟩=some (.bool (qY base_q off_q w cC cM J (mh cK)),⟨{h with g:=g},nx⟩)/\(∀j,j<n->g j=h.g j)/\(∀j,nx<=j->g j=.free)/\n<=nx/\nx<=n+10:=by
 have f0:=o n (ez _);have f1:=o (n+1) (by omega);unfold qY
 by_cases e:base_q=cC
 ·subst e;have O:=KE (dE mM (.nm 5) (xQ mM (some (b9 mM (bH mM k) (.cm .gk (.l 5) (.ix (.l 1) (.c (.int (.l 1))))))) (b9 mM (bH mM k) (.l 5)))) (.g r1) (fun x=>decide (x∈eR cM J)) [.tup [.int (.l base_q),.ref (.g r1)],.tup [.int (.l base_q),.ref (.g I)],.ref (.g K),.no,.no,.no] ⟨h,n⟩ (eR off_q w) W (by rw[tn];omega) (fun x hx=>by
   have S:=He x Y;unfold dE fV xQ;simp only[bW];cases q:decide (x∈eR cM J)with
   |true=>rw[q]at S;clear q;walk_at "k45";rfl
   |false=>rw[q]at S;clear q;walk_at "k45") [] (eR off_q w) [] rfl (by simp)
  have hc:count mM (.li (.g r1)) h=(eR off_q w).length:=(ro (xs:=cD (eR off_q w)) _ W).trans (by simp[cD]);have U:decide ((eR off_q w).filter (fun x=>decide (x∈eR cM J))=[])=!(decide (off_q<cM+J)&&decide (cM<off_q+w)):=by
   rw[rM];simp only[iG,pI,Bool.and_eq_false_iff,decide_eq_false_iff_not,List.filter_eq_nil_iff,LJ];constructor
   ·intro q
    by_cases z:off_q<=cM
    ·have:=q cM;omega
    ·have:=q off_q;omega
   ·intro q x hx;omega
  have aa:kV mM {h with g:=fun j=>if j=n+1 then .list []else if j=n then .list (cD ((eR off_q w).filter (fun x=>decide (x∈eR cM J))))else h.g j} (.ref (.g n)) (.ref (.g (n+1)))=some (decide ((eR off_q w).filter (fun x=>decide (x∈eR cM J))=[])):=Nu (b:=[]) ((bL (by omega)).trans (df rfl)) (df rfl);rw[U]at aa;refine⟨fun j=>if j=n+1 then .list []else if j=n then .list (cD ((eR off_q w).filter (fun x=>decide (x∈eR cM J))))else h.g j,n+2,?_,fun j hj=>(bL (by omega)).trans (bL (by omega)),fun j hj=>((bL (by omega)).trans (bL (by omega))).trans (o j (by omega)),by omega,by omega⟩;have db:decide (base_q=base_q)=true:=by simp
  simp only[eY,cQ]at O;rw[show cD []=[] from rfl]at O;clear U;rw[db,O5];unfold xv;walk_at "k45";rw[Bool.not_not]
 ·have db:decide (base_q=cC)=false:=by simp[e]
  have t:∀x:Int,dF mM h (.int (.l x)) (.ref (.g K))=some (mh cK x):=fun x=>by rw[He x Z];unfold mh;cases decide (cK=1)||decide (cK=2)with|true=>simp[eq_comm]|false=>simp
  rw[db];simp only[jg];have B:∀(x y:Int)(p q:Nat)(y3 y4:V),dE mM (.tp [.nm 3,.nm 4]) (cy mM (bH mM k) [.if (.an [.cm .eq (.ix (.l 3) (.c (.int (.l 0)))) (.c (.int (.l 4))),.or [.cm .gt (.ix (.l 4) (.c (.int (.l 0)))) (.c (.int (.l 1))),.cm .gk (.ix (.l 4) (.c (.int (.l 0)))) (.l 2)]]) [.rt (.c (.bool true))] []]) (.tup [.tup [.int (.l x),.ref (.g p)],.tup [.int (.l y),.ref (.g q)]])
    [.tup [.int (.l base_q),.ref (.g r1)],.tup [.int (.l cC),.ref (.g I)],.ref (.g K),y3,y4,.no] ⟨h,n⟩=some ((bif decide (x=4)&&(decide (1<y)||mh cK y)then .rt (.bool true)else .nx,[.tup [.int (.l base_q),.ref (.g r1)],.tup [.int (.l cC),.ref (.g I)],.ref (.g K),.tup [.int (.l x),.ref (.g p)],.tup [.int (.l y),.ref (.g q)],.no]),⟨h,n⟩):=fun x y p q y3 y4=>by
   have ho:=t y;show cy mM (bH mM k) _ [.tup [.int (.l base_q),.ref (.g r1)],.tup [.int (.l cC),.ref (.g I)],.ref (.g K),.tup [.int (.l x),.ref (.g p)],.tup [.int (.l y),.ref (.g q)],.no] ⟨h,n⟩=_
   clear t W Y Z o;cases e1:decide (x=4)with
   |false=>walk_at "k45"
   |true=>
    cases e2:decide (1<y)with
    |true=>walk_at "k45";rfl
    |false=>cases e3:mh cK y with|true=>rw[e3]at ho;walk_at "k45";rfl|false=>rw[e3]at ho;walk_at "k45";rfl
  refine⟨h.g,n,?_,fun _ _=>rfl,o,by omega,by omega⟩;have t1:=B base_q cC r1 I .no .no;have t2:=B cC base_q I r1 (.tup [.int (.l base_q),.ref (.g r1)]) (.tup [.int (.l cC),.ref (.g I)]);clear B t W Y Z o;rw[O5];unfold xv;walk_at "k45";rw[mK];walk_at "k45";show ri (yk (eU mM (.tu _) _ 3 0 _ _) _)=_
  rw[Xx t1 t2];generalize(decide (base_q=4)&&(decide (1<cC)||mh cK cC))=u1;generalize(decide (cC=4)&&(decide (1<base_q)||mh cK base_q))=u2;cases u1<;>cases u2<;>rfl
def r9(i x y z:Int):Int:=if i=0 then x else if i=1 then y else z
theorem qT(x m:Int)(e:0<m):0<=Int.fmod x m/\Int.fmod x m<m:=⟨Int.fmod_nonneg_of_pos _ e,Int.fmod_lt_of_pos _ e⟩
theorem abC(x p q r:Int):jy [.int (.l p),.int (.l q),.int (.l r)] (.int (.l (Int.fmod x 3)))=some (.int (.l (r9 (Int.fmod x 3) p q r))):=by
 obtain⟨e,j⟩:=qT x 3 (by omega);generalize Int.fmod x 3=i at e j;have:i=0∨i=1∨i=2:=by omega
 rcases this with rfl|rfl|rfl<;>rfl
abbrev hJ(a b c:Int):gB where
 base_q:=Int.fmod a 5
 off_q:=Int.fmod (Int.fdiv a 5) 5
 w:=r9 (Int.fmod (Int.fdiv a 25) 3) 4 1 2
 jl:=Int.fmod (Int.fdiv a 1500) 9
 cC:=r9 (Int.fmod (Int.fdiv b 25) 3) (Int.fmod a 5) (Int.fmod (Int.fdiv b 5) 5) (Int.fmod b 5)
 cM:=Int.fmod (Int.fdiv b 75) 5
 wide_q:=r9 (Int.fmod (Int.fdiv b 375) 3) 4 1 2
 jm:=Int.fmod (Int.fdiv b 1125) 9
 kind_q:=Int.fmod (Int.fdiv c 8) 6
 cK:=Int.fmod (Int.fdiv c 48) 4
 lw:=bif decide (Int.fmod c 8<6)then r9 (Int.fmod (Int.fdiv a 25) 3) 4 1 2 else r9 (Int.fmod (Int.fdiv b 375) 3) 4 1 2
 lk:=Int.fmod (Int.fdiv c 384) 4
 il:=decide (Int.fmod (Int.fdiv a 150) 2=1)
 sg:=decide (Int.fmod (Int.fdiv a 75) 2=1)
 firm:=decide (Int.fmod (Int.fdiv a 300) 5=4)
 ls:=decide (Int.fmod (Int.fdiv c 192) 2=1)
 lf:=decide (Int.fmod (Int.fdiv c 1536) 5=4)
theorem HW(i:Int):W4 (r9 i 4 1 2):=by
 unfold r9 W4
 by_cases h:i=0<;>by_cases h':i=1<;>simp[h,h']
theorem Z2{i x y z m:Int}(e:0<=x/\x<m)(j:0<=y/\y<m)(hz:0<=z/\z<m):0<=r9 i x y z/\r9 i x y z<m:=by
 unfold r9
 by_cases h:i=0<;>by_cases h':i=1<;>simp[h,h']<;>omega
theorem Xy(a b c:Int):(hJ a b c).Ok where
 base_q:=qT _ _ (by omega)
 off_q:=qT _ _ (by omega)
 w:=HW _
 jl:=qT _ _ (by omega)
 cC:=Z2 (qT _ _ (by omega)) (qT _ _ (by omega)) (qT _ _ (by omega))
 cM:=qT _ _ (by omega)
 wide_q:=HW _
 jm:=qT _ _ (by omega)
 kind_q:=qT _ _ (by omega)
 lw:=by
  show W4 (bif decide (Int.fmod c 8<6)then _ else _)
  cases decide (Int.fmod c 8<6)<;>exact HW _
 lk:=qT _ _ (by omega)
theorem zd5(F:cG)(a:Int):hV F .div (.l a) (.l 5)=some (.l (Int.fdiv a 5)):=rfl
theorem abD(F:cG)(a:Int):hV F .div (.l a) (.l 25)=some (.l (Int.fdiv a 25)):=rfl
theorem abE(F:cG)(a:Int):hV F .div (.l a) (.l 75)=some (.l (Int.fdiv a 75)):=rfl
theorem Z3(F:cG)(a:Int):hV F .div (.l a) (.l 150)=some (.l (Int.fdiv a 150)):=rfl
theorem Z4(F:cG)(a:Int):hV F .div (.l a) (.l 300)=some (.l (Int.fdiv a 300)):=rfl
theorem Z5(F:cG)(a:Int):hV F .div (.l a) (.l 375)=some (.l (Int.fdiv a 375)):=rfl
theorem zd8(F:cG)(a:Int):hV F .div (.l a) (.l 8)=some (.l (Int.fdiv a 8)):=rfl
theorem abF(F:cG)(a:Int):hV F .div (.l a) (.l 48)=some (.l (Int.fdiv a 48)):=rfl
theorem Z6(F:cG)(a:Int):hV F .div (.l a) (.l 192)=some (.l (Int.fdiv a 192)):=rfl
theorem Z7(F:cG)(a:Int):hV F .div (.l a) (.l 384)=some (.l (Int.fdiv a 384)):=rfl
theorem Xz(F:cG)(a:Int):hV F .div (.l a) (.l 1536)=some (.l (Int.fdiv a 1536)):=rfl
theorem XA(F:cG)(a:Int):hV F .div (.l a) (.l 1500)=some (.l (Int.fdiv a 1500)):=rfl
theorem XB(F:cG)(a:Int):hV F .div (.l a) (.l 1125)=some (.l (Int.fdiv a 1125)):=rfl
def Jf:S:=.tp [.nm 3,.nm 4,.nm 5,.nm 6] (.tu [.bi .mod (.l 0) (.c (.int (.l 5))),.bi .mod (.bi .div (.l 0) (.c (.int (.l 5)))) (.c (.int (.l 5))),.ix (.tu [.c (.int (.l 4)),.c (.int (.l 1)),.c (.int (.l 2))]) (.bi .mod (.bi .div (.l 0) (.c (.int (.l 25)))) (.c (.int (.l 3)))),.cm .eq (.bi .mod (.bi .div (.l 0) (.c (.int (.l 75)))) (.c (.int (.l 2)))) (.c (.int (.l 1)))])
def Jg:S:=.tp [.nm 7,.nm 8] (.tu [.cm .eq (.bi .mod (.bi .div (.l 0) (.c (.int (.l 150)))) (.c (.int (.l 2)))) (.c (.int (.l 1))),.cm .eq (.bi .mod (.bi .div (.l 0) (.c (.int (.l 300)))) (.c (.int (.l 5)))) (.c (.int (.l 4)))])
def Jh:S:=.tp [.nm 9,.nm 10,.nm 11] (.tu [.ix (.tu [.l 3,.bi .mod (.bi .div (.l 1) (.c (.int (.l 5)))) (.c (.int (.l 5))),.bi .mod (.l 1) (.c (.int (.l 5)))]) (.bi .mod (.bi .div (.l 1) (.c (.int (.l 25)))) (.c (.int (.l 3)))),.bi .mod (.bi .div (.l 1) (.c (.int (.l 75)))) (.c (.int (.l 5))),.ix (.tu [.c (.int (.l 4)),.c (.int (.l 1)),.c (.int (.l 2))]) (.bi .mod (.bi .div (.l 1) (.c (.int (.l 375)))) (.c (.int (.l 3))))])
def Ji:S:=.tp [.nm 12,.nm 13] (.tu [.bi .mod (.bi .div (.l 2) (.c (.int (.l 8)))) (.c (.int (.l 6))),.bi .mod (.bi .div (.l 2) (.c (.int (.l 48)))) (.c (.int (.l 4)))])
def Jj:S:=.as 14 (.ie (.cm .lt (.bi .mod (.l 2) (.c (.int (.l 8)))) (.c (.int (.l 6)))) (.l 5) (.l 11))
def Jk:S:=.tp [.nm 15,.nm 16,.nm 17] (.tu [.cm .eq (.bi .mod (.bi .div (.l 2) (.c (.int (.l 192)))) (.c (.int (.l 2)))) (.c (.int (.l 1))),.bi .mod (.bi .div (.l 2) (.c (.int (.l 384)))) (.c (.int (.l 4))),.cm .eq (.bi .mod (.bi .div (.l 2) (.c (.int (.l 1536)))) (.c (.int (.l 5)))) (.c (.int (.l 4)))])
def Jl:S:=.as 18 (.bi .add (.bi .add (.cb 1 [.gl 12]) (.cf 47 [.c (.int (.l 10)),.l 3,.l 4,.bi .mod (.bi .div (.l 0) (.c (.int (.l 1500)))) (.c (.int (.l 9)))])) (.cf 47 [.c (.int (.l 12)),.l 3,.l 4,.bi .mod (.bi .div (.l 1) (.c (.int (.l 1125)))) (.c (.int (.l 9)))]))
def Fb:S:=.ex (.me (.l 18) 0 [.tu [.c (.str 5),.c (.int (.l 14)),.li .none [.tu [.c (.str 1),.ix (.tu [.c (.int (.l 3)),.c (.int (.l 4)),.c (.int (.l 5)),.c (.int (.l 6)),.c (.int (.l 0))]) (.l 9)],.tu [.c (.str 0),.l 10]],.c (.int (.l 0)),.c (.bool false)]])
def Fc:S:=.ex (.me (.l 18) 0 [.ie (.l 7) (.tu [.c (.str 8),.c (.int (.l 7)),.li .none [.tu [.c (.str 1),.c (.int (.l 10))]],.tu [.l 5,.l 6],.l 8]) (.tu [.c (.str 9),.ng (.c (.int (.l 1))),.li .none [.tu [.c (.str 1),.c (.int (.l 10))],.tu [.c (.str 1),.c (.int (.l 1))]],.l 5,.l 8])])
def Fe:S:=.as 18 (.bi .add (.l 18) (.cf 49 [.l 12,.l 9,.l 11,.c (.int (.l 4))]))
def Eu:S:=.as 19 (.tu [.c (.str 1),.bi .add (.c (.int (.l 1))) (.bi .mod (.l 16) (.c (.int (.l 2))))])
def Ew:S:=.ex (.me (.l 18) 0 [.ie (.cm .lt (.l 16) (.c (.int (.l 2)))) (.tu [.c (.str 8),.c (.int (.l 8)),.li .none [.tu [.c (.str 1),.c (.int (.l 12))]],.tu [.l 14,.l 15],.l 17]) (.tu [.c (.str 9),.ng (.c (.int (.l 1))),.li .none [.tu [.c (.str 1),.c (.int (.l 12))],.l 19],.l 14,.l 17])])
def yt:S:=.as 20 (.cb 0 [.l 18])
def Ex:S:=.as 21 (.ie (.cm .gk (.l 13) (.tu [.c (.int (.l 1)),.c (.int (.l 2))])) (.li .none [.bi .sub (.l 13) (.c (.int (.l 1)))]) (.li .none []))
def Be:S:=.if (.cm .ne (.l 21) (.li .none [])) [.ex (.me (.l 18) 0 [.tu [.c (.str 25),.ng (.c (.int (.l 1))),.li .none [.tu [.c (.str 1),.bi .add (.c (.int (.l 3))) (.ix (.l 21) (.c (.int (.l 0))))]],.c (.str 26),.c (.bool false)]])] []
def Ey:S:=.as 22 (.tu [.l 3,.cb 2 [.l 4,.bi .add (.l 4) (.l 5)]])
def Ez:S:=.as 23 (.tu [.l 3,.cb 2 [.l 4,.bi .add (.l 4) (.l 14)]])
def EA:S:=.as 24 (.tu [.l 9,.cb 2 [.l 10,.bi .add (.l 10) (.ie (.cm .eq (.l 12) (.c (.int (.l 3)))) (.c (.int (.l 4))) (.l 11))]])
def EB:S:=.as 25 (.ie (.l 8) (.c .none) (.ie (.l 7) (.tu [.tu [.c (.str 1),.c (.int (.l 7))],.ix (.c (.str 32)) (.ie (.l 6) (.c (.int (.l 0))) (.c (.int (.l 1))))]) (.tu [.tu [.c (.str 1),.c (.int (.l 1))],.c (.str 13)])))
def yu:S:=.if (.or [.cm .ne (.l 22) (.l 23),.an [.cm .gk (.l 12) (.tu [.c (.int (.l 1)),.c (.int (.l 3)),.c (.int (.l 4))]),.cf 48 [.l 22,.l 24,.l 21]]]) [.as 25 (.c .none)] []
def EC:S:=.if (.an [.cm .eq (.l 12) (.c (.int (.l 2))),.or [.cm .gt (.l 3) (.c (.int (.l 1))),.cm .gk (.l 3) (.l 21)]]) [.as 25 (.c .none)] []
def yv:S:=.if (.an [.cm .eq (.l 12) (.c (.int (.l 1))),.cm .eq (.l 24) (.l 23)]) [.as 25 (.tu [.tu [.c (.str 1),.c (.int (.l 2))],.c (.str 13)])] []
def ED:S:=.as 26 (.ix (.cf 46 [.li .none [.tu [.l 18,.gl 13]]]) (.c (.int (.l 0))))
def wD:S:=.if (.cm .ge (.l 16) (.c (.int (.l 2)))) [.as 27 (.or [.l 17,.cm .is (.l 25) (.c .none),.cm .ne (.ix (.l 25) (.c (.int (.l 0)))) (.l 19)]),.rt (.ie (.l 27) (.cm .eq (.cb 0 [.l 26]) (.cb 0 [.l 18])) (.cm .eq (.cb 0 [.l 26]) (.bi .sub (.cb 0 [.l 18]) (.c (.int (.l 1))))))] []
def yw:S:=.tp [.nm 28,.nm 29,.nm 30] (.ix (.l 26) (.bi .sub (.l 20) (.c (.int (.l 1)))))
def tU:S:=.if (.or [.l 17,.cm .is (.l 25) (.c .none)]) [.rt (.cm .eq (.l 28) (.c (.str 8)))] []
def u5:S:=.if (.or [.cm .eq (.l 14) (.c (.int (.l 4))),.cm .eq (.ix (.l 25) (.c (.int (.l 1)))) (.ie (.l 15) (.c (.str 11)) (.c (.str 12)))]) [.rt (.cm .eq (.tu [.l 28,.l 30]) (.tu [.c (.str 6),.li .none [.ix (.l 25) (.c (.int (.l 0)))]]))] []
def u6:S:=.rt (.cm .eq (.tu [.l 28,.l 30]) (.tu [.bi .add (.ie (.l 15) (.c (.str 18)) (.c (.str 19))) (.cb 4 [.bi .mul (.c (.int (.l 8))) (.l 14)]),.li .none [.ix (.l 25) (.c (.int (.l 0)))]]))
theorem Z8:xo.bd=[Jf,Jg,Jh,Ji,Jj,Jk,Jl,Fb,Fc,Fe,Eu,Ew,yt,Ex,Be,Ey,Ez,EA,EB,yu,EC,yv,ED,wD,yw,tU,u5,u6]:=rfl
local macro_rules |`(tactic|walk_at "k46")=>`(tactic|simp(disch:=walk_at "k21")only[el,eM,ff,rd,fY,nX,eZ,eF,gj,oQ,fG,qz,iJ,eN,eO,fN,pG,fC,fA,fe,gw,ij,wt,kT,bA,bW,fX,ki, *,n4,nZ,oM,oN,oR,oS,Bc,zd5,abD,abE,Z3,Z4,Z5,zd8,abF,Z6,Z7,Xz,abC,El])
theorem abG(C:CH Hp)(h:Hp)(n:Nat)(a b c:Int)(rest:List S):cy mM C (Jf::Jg::Jh::Ji::Jj::Jk::rest) ([.int (.l a),.int (.l b),.int (.l c)]++fill 28) ⟨h,n⟩=cy mM C rest ([.int (.l a),.int (.l b),.int (.l c),.int (.l (hJ a b c).base_q),.int (.l (hJ a b c).off_q),.int (.l (hJ a b c).w),.bool (hJ a b c).sg,.bool (hJ a b c).il,.bool (hJ a b c).firm,.int (.l (hJ a b c).cC),.int (.l (hJ a b c).cM),.int (.l (hJ a b c).wide_q),.int (.l (hJ a b c).kind_q),.int (.l (hJ a b c).cK),.int (.l (hJ a b c).lw),.bool (hJ a b c).ls,.int (.l (hJ a b c).lk),.bool (hJ a b c).lf]++fill 13) ⟨h,n⟩:=by unfold Jf Jg Jh Ji Jj Jk;dsimp only[fill,List.cons_append,List.nil_append,hJ];cases e:decide (Int.fmod c 8<6)with|true=>walk_at "k46";try rfl|false=>walk_at "k46";try rfl
structure Bd(h:Hp)(n R:Nat)(bf:List cq)(Jm:List Ad):Prop where
 lt:R<n
 at_:h.g R=.list (fD bf Jm)
 ra:jG h bf Jm
 eo:∀a∈Jm,∀i,a=.g i->i<n/\i≠R
 free:∀j,n<=j->h.g j=.free
theorem abH:mM.P.gv 12=.tup (fD ji [.s 5,.s 6,.s 7,.s 8]):=rfl
theorem XC(h:Hp)(j:h.t=pO):jG h ji [.s 5,.s 6,.s 7,.s 8]:=by
 have e:∀k,k=5∨k=6∨k=7∨k=8->mM.get h (.s k)=.list []:=fun k hk=>by rcases hk with rfl|rfl|rfl|rfl<;>(show h.t _=_;rw[j];rfl)
 exact jG.app (r1:=[_]) (a1:=[_]) (.one (e 5 (by omega))) (jG.app (r1:=[_]) (a1:=[_]) (.one (e 6 (by omega))) (jG.app (r1:=[_]) (a1:=[_]) (.one (e 7 (by omega))) (.one (e 8 (by omega)))))
theorem jG.keep{h:Hp}{g:Nat->O}{bf:List cq}{e:List Ad}{n:Nat}(x:jG h bf e)(p:∀j,j<n->g j=h.g j)(eo:∀a∈e,∀i,a=.g i->i<n):jG {h with g:=g} bf e:=⟨x.1,fun i r a q o=>(Nt h g a n p (eo a (iw o))).trans (x.2 i r a q o)⟩
theorem Mh(h:Hp)(n p q:Nat)(a b:List V)(hp:h.g p=.list a)(e:h.g q=.list b)(hl:a.length+b.length<bu)(hf:h.g n=.free)(o:n<bu):q9 mM .add (.ref (.g p)) (.ref (.g q)) ⟨h,n⟩=some (.ref (.g n),⟨{h with g:=fun j=>if j=n then .list (a++b)else h.g j},n+1⟩):=by
 show D5 mM (.g p) (.g q) ⟨h,n⟩=_
 unfold D5;simp only[show mM.get h (.g p)=.list a from hp,show mM.get h (.g q)=.list b from e];rw[lq hl,gG,iA _ _ _ hf o]
theorem Bd.keep{h:Hp}{n n' R:Nat}{bf:List cq}{o:List Ad}(x:Bd h n R bf o){g:Nat->O}(p:∀j,j<n->g j=h.g j)(hf:∀j,n'<=j->g j=.free)(q:n<=n'):Bd {h with g:=g} n' R bf o:=
 ⟨by have:=x.lt;omega,(p R x.lt).trans x.at_,x.ra.keep p fun a ha i e=>(x.eo a ha i e).1,fun a ha i e=>by have:=x.eo a ha i e;omega,hf⟩
theorem Bd.add{h:Hp}{n p q:Nat}{r1 o:List cq}{a1 t:List Ad}(x:Bd h n p r1 a1)(y:Bd h n q o t)(hl:r1.length+o.length<1000)(z:n<bu):
  q9 mM .add (.ref (.g p)) (.ref (.g q)) ⟨h,n⟩=some (.ref (.g n),⟨{h with g:=fun j=>if j=n then .list (fD (r1++o) (a1++t))else h.g j},n+1⟩)/\Bd {h with g:=fun j=>if j=n then .list (fD (r1++o) (a1++t))else h.g j} (n+1) n (r1++o) (a1++t):=by
 have e:=Mh h n p q _ _ x.at_ y.at_ (by rw[tl x.ra.1,tl y.ra.1];show _<100000;omega) (x.free n (ez _)) z;rw[←GA x.ra.1]at e;have B:∀j,j<n->(if j=n then O.list (fD (r1++o) (a1++t))else h.g j)=h.g j:=fun j I=>bL (by omega)
 have hh:∀a∈a1++t,∀i,a=.g i->i<n:=fun a ha i e=>by
  rcases pJ.mp ha with ha|ha
  ·exact(x.eo a ha i e).1
  ·exact(y.eo a ha i e).1
 exact⟨e,⟨by omega,df rfl,(jG.app x.ra y.ra).keep B hh,fun a ha i e=>by have:=hh a ha i e;omega,fun j I=>(bL (by omega)).trans (x.free j (by omega))⟩⟩
theorem Bd.push{h:Hp}{n R:Nat}{bf:List cq}{o:List Ad}(x:Bd h n R bf o){r:cq}{a:Nat}(ha:a<n/\a≠R)(hr:h.g a=.list (bR r.k.args))(hl:bf.length<1000)(t:n<bu):
  gO mM 0 (.g R) 0 [r.v (.g a)] ⟨h,n⟩=some (.none,⟨{h with g:=fun j=>if j=R then .list (fD (bf++[r]) (o++[.g a]))else h.g j},n+1⟩)/\Bd {h with g:=fun j=>if j=R then .list (fD (bf++[r]) (o++[.g a]))else h.g j} (n+1) R (bf++[r]) (o++[.g a]):=by
 have y:fD bf o++[r.v (.g a)]=fD (bf++[r]) (o++[.g a]):=by rw[GA x.ra.1];rfl
 have eo:∀b∈o++[.g a],∀i,b=.g i->i<n/\i≠R:=fun b hb i e=>by
  rcases pJ.mp hb with hb|hb
  ·exact x.eo b hb i e
  ·rw[kP]at hb;subst hb;cases e;exact ha
 have p:jG h (bf++[r]) (o++[.g a]):=jG.app x.ra (.one hr);refine⟨?_,⟨by have:=x.lt;omega,df rfl,⟨p.1,fun i z b B q=>?_⟩,fun b hb i e=>by have:=eo b hb i e;omega,fun j I=>(bL (by have:=x.lt;omega)).trans (x.free j (by omega))⟩⟩
 ·rw[v5,show mM.get h (.g R)=.list (fD bf o) from x.at_];simp only;rw[lq (by rw[tl x.ra.1];show _<100000;omega),gG,vQ _ _ _ _ _ t,y]
 ·have:=p.2 i z b B q;rw[←this];cases b with
  |s j=>
   show jI _ _=jI _ _
   unfold jI;split<;>first|rfl|(rename_i e;cases e)
  |g j=>exact bL (eo _ (iw q) j rfl).2
theorem blT(h:Hp)(n:Nat)(l:List V)(hl:Nat.blt l.length bu=true)(hf:h.g n=.free)(e:n<bu):builtin mM 1 [.tup l] ⟨h,n⟩=some (.ref (.g n),⟨{h with g:=fun j=>if j=n then .list l else h.g j},n+1⟩):=by
 show(bif Nat.blt l.length bu then new mM .none (.list l) ⟨h,n⟩else .none)=_
 rw[hl,gG,iA _ _ _ hf e]
theorem ML{h:Hp}{n k:Nat}{goal base_q off_q way:Int}(t:0<=base_q)(x:base_q<5)(o:∀j,n<=j->h.g j=.free)(y:n+20<bu):
  ∃g q p nx,bH mM (k+1) 47 [.int (.l goal),.int (.l base_q),.int (.l off_q),.int (.l way)] ⟨h,n⟩=some (.ref (.g q),⟨{h with g:=g},nx⟩)/\Bd {h with g:=g} nx q (hU goal base_q off_q way) p/\(∀j,j<n->g j=h.g j)/\n<=nx/\nx<=n+10:=by
 obtain⟨g,q,p,nx,z,B,I,J,K,O,e7,S,U⟩:=Xv h n k goal base_q off_q way t x o y;exact⟨g,q,p,nx,z,⟨S,B,I,fun a ha i e=>by obtain⟨i',W,h2,Y,Z⟩:=J a ha;rw[W]at e;cases e;exact⟨Y,Z⟩,O⟩,K,by omega,U⟩
theorem XD{h:Hp}{n k:Nat}{kind_q wide_q:Int}{pl:V}(k0:0<=kind_q)(k6:kind_q<6)(o:∀j,n<=j->h.g j=.free)(t:pl≠ .no)(x:n+20<bu):
  ∃g q p nx,bH mM (k+1) 49 [.int (.l kind_q),pl,.int (.l wide_q),.int (.l 4)] ⟨h,n⟩=some (.ref (.g q),⟨{h with g:=g},nx⟩)/\Bd {h with g:=g} nx q (iW kind_q wide_q) p/\(∀j,j<n->g j=h.g j)/\n<=nx/\nx<=n+10:=by
 obtain⟨g,q,p,nx,y,z,B,I,J,K,Z,O,S⟩:=Xw h n k kind_q wide_q pl k0 k6 o t x;exact⟨g,q,p,nx,y,⟨O,z,B,fun a ha i e=>by obtain⟨i',U,h2,W,Y⟩:=I a ha;rw[U]at e;cases e;exact⟨W,Y⟩,K⟩,J,by omega,S⟩
local macro_rules |`(tactic|walk_at "k47")=>`(tactic|simp(disch:=walk_at "k21")only[el,fY,jk,eZ,eF,nY,gj,oQ,tR,qz,iJ,nh,lP,ky,ig,eN,eO,fN,rd,eQ,pG,fC,fA,fe,kT,bA,bW,fb,eY,fX,ki, *,cL,qg,iA,tP,yF,v5,u0,lq,cQ,sJ,vQ,c1,c2,Bc,XA,XB,Py])
theorem Dm(goal base_q off_q way:Int):(hU goal base_q off_q way).length<=2:=by
 have h:(hU goal base_q off_q way).length=((hU goal base_q off_q way).map (·.d)).length:=by simp
 rw[h];rcases AL goal base_q off_q way with e|e<;>rw[e]<;>simp
theorem vE:∀{l:L}{i:Nat}{v:V},bA l i=some v->bW l i v=some l
 |_::_,0,_,h=>by cases h;rfl
 |a::r,i+1,v,h=>by have e:=vE (l:=r) (i:=i) (v:=v) h;simp only[bW,e]
theorem zU:∀{l:L}{i:Nat}(v:V),i<l.length->∃o,bW l i v=some o/\bA o i=some v/\o.length=l.length/\∀j,j≠i->bA o j=bA l j
 |a::r,0,v,_=>⟨v::r,rfl,rfl,rfl,fun j p=>by cases j with
  |zero=>exact absurd rfl p
  |succ j=>rfl⟩
 |a::r,i+1,v,h=>by obtain⟨q,t,x,y,z⟩:=zU (l:=r) (i:=i) v (Nat.lt_of_succ_lt_succ h);refine⟨a::q,by simp only[bW,t],x,lu (·+1) y,fun j p=>?_⟩;cases j with|zero=>rfl|succ j=>exact z j fun e=>p (by rw[e])
theorem mr6(h:Hp)(n k:Nat)(a b:Int)(base_q off_q:Int)(U:0<=base_q)(W:base_q<5)(Y:h.t=pO)(o:∀j,n<=j->h.g j=.free)(hn:n+100<bu)(l:L)(h0:bA l 0=some (.int (.l a)))(h1:bA l 1=some (.int (.l b)))(h3:bA l 3=some (.int (.l base_q)))(h4:bA l 4=some (.int (.l off_q))):
  ∃g R t nx,(∀x,bW l 18 (.ref (.g R))=some x->eJ mM (bH mM (k+1)) Jl l ⟨h,n⟩=
   some ((.nx,x),⟨{h with g:=g},nx⟩))/\
   Bd {h with g:=g} nx R (ji++hU 10 base_q off_q (Int.fmod (Int.fdiv a 1500) 9)++hU 12 base_q off_q (Int.fmod (Int.fdiv b 1125) 9)) t/\(∀j,j<n->g j=h.g j)/\n<=nx/\nx<=n+40:=by
 have Z:=o n (ez _)
 let g0:Nat->O:=fun j=>if j=n then .list (fD ji [.s 5,.s 6,.s 7,.s 8])else h.g j
 have y:Bd {h with g:=g0} (n+1) n ji [.s 5,.s 6,.s 7,.s 8]:=⟨by omega,df rfl,XC _ Y,fun a ha i e=>by subst e;simp at ha,fun j hj=>(bL (by omega)).trans (o j (by omega))⟩
 obtain⟨z,q1,aa,n1,c1,B,o1,l1,ae⟩:=ML (h:={h with g:=g0}) (n:=n+1) (k:=k) (goal:=10) (base_q:=base_q) (off_q:=off_q) (way:=Int.fmod (Int.fdiv a 1500) 9) U W y.free (by omega);have p:=y.keep (g:=z) o1 B.free l1;have s1:=Dm 10 base_q off_q (Int.fmod (Int.fdiv a 1500) 9);have s2:=Dm 12 base_q off_q (Int.fmod (Int.fdiv b 1125) 9);obtain⟨a1,I⟩:=Bd.add (h:={h with g:=z}) p B (by simp[ji];omega) (by omega);obtain⟨J,q2,ab,K,c2,S,o2,l2,af⟩:=ML (n:=n1+1) (k:=k) (goal:=12) (base_q:=base_q) (off_q:=off_q) (way:=Int.fmod (Int.fdiv b 1125) 9) U W I.free (by omega);have q:=I.keep (g:=J) o2 S.free l2;obtain⟨a2,A2⟩:=Bd.add (h:={h with g:=J}) q S (by simp[ji];omega) (by omega);dsimp only at c1 a1 c2 a2 o1 o2;dsimp only[g0]at c1;refine⟨_,K,_,K+1,?_,A2,fun j hj=>?_,by omega,by omega⟩
 ·have hb:=blT h n (fD ji [.s 5,.s 6,.s 7,.s 8]) rfl Z (by omega);have ag:=abH;clear o1 o2 y B S I A2 p q Z Y;generalize([Ad.s 5,Ad.s 6,Ad.s 7,Ad.s 8]:List Ad)=A0 at*;intro x hs;unfold Jl;walk_at "k47"
 ·show(if j=K then _ else J j)=_
  rw[bL (by omega),o2 j (by omega)];show(if j=n1 then _ else z j)=_
  rw[bL (by omega),o1 j (by omega)];exact bL (by omega)
theorem Bd.row{h:Hp}{n R:Nat}{bf:List cq}{e:List Ad}(x:Bd h n R bf e)(r:cq)(hl:bf.length<1000)(o:n+1<bu):
  Bd {h with g:=fun j=>if j=R then .list (fD bf e++[r.v (.g n)])else if j=n then .list (bR r.k.args)else h.g j} (n+2) R (bf++[r]) (e++[.g n]):=by
 have q:Bd {h with g:=fun j=>if j=n then .list (bR r.k.args)else h.g j} (n+1) R bf e:=x.keep (fun j t=>bL (by omega)) (fun j t=>(bL (by omega)).trans (x.free j (by omega))) (by omega);have p:=(q.push (r:=r) (a:=n) ⟨by omega,by have:=x.lt;omega⟩ (df rfl) hl o).2;have y:fD (bf++[r]) (e++[.g n])=fD bf e++[r.v (.g n)]:=by rw[GA x.ra.1];rfl
 rw[y]at p;exact p
theorem Bd.len{h:Hp}{n R:Nat}{bf:List cq}{e:List Ad}(x:Bd h n R bf e)(hl:bf.length<1000):(fD bf e).length<bu:=by rw[tl x.ra.1];show _<100000;omega
theorem mr7(C:CH Hp){h:Hp}{n R:Nat}{bf:List cq}{e:List Ad}(B:Bd h n R bf e)(hl:bf.length<1000)(x:n+100<bu)(cC cM:Int)(y:0<=cC)(z:cC<5)(l:L)(I:bA l 9=some (.int (.l cC)))(p:bA l 10=some (.int (.l cM)))(q:bA l 18=some (.ref (.g R))):
  eJ mM C Fb l ⟨h,n⟩=
   some ((.nx,l),⟨{h with g:=fun j=>if j=R then .list (fD bf e++[(⟨.ad (rb cC) cM,14,false⟩:cq).v (.g n)])else if j=n then .list (bR [.r (rb cC),.k cM])else h.g j},n+2⟩):=by
 have J:=B.free n (ez _);have K:=B.lt;have t:=B.at_;have o:=B.len hl;clear B;unfold Fb;walk_at "k47";rfl
theorem mr8(C:CH Hp){h:Hp}{n R:Nat}{bf:List cq}{e:List Ad}(B:Bd h n R bf e)(hl:bf.length<1000)(t:n+100<bu)(w:Int)(sg il firm:Bool)(l:L)(x:bA l 5=some (.int (.l w)))(y:bA l 6=some (.bool sg))(z:bA l 7=some (.bool il))(I:bA l 8=some (.bool firm))(p:bA l 18=some (.ref (.g R))):
  eJ mM C Fc l ⟨h,n⟩=
   some ((.nx,l),⟨{h with g:=fun j=>if j=R then .list (fD bf e++[(ly il w sg firm).v (.g n)])else if j=n then .list (bR (ly il w sg firm).k.args)else h.g j},n+2⟩):=by
 have J:=B.free n (ez _);have K:=B.lt;have q:=B.at_;have o:=B.len hl;clear B;unfold Fc ly;cases il
 ·walk_at "k47";rfl
 ·walk_at "k47";rfl
theorem Mi(kind_q wide_q:Int):(iW kind_q wide_q).length<=1:=by
 have h:(iW kind_q wide_q).length=((iW kind_q wide_q).map (·.d)).length:=by simp
 rw[h];rcases HV kind_q wide_q with e|e|e<;>rw[e]<;>simp
local macro_rules |`(tactic|walk_at "k48")=>`(tactic|simp(disch:=walk_at "k21")only[el,ff,fp,eM,fY,jk,fS,eZ,eF,gj,oQ,tR,fG,qz,iJ,nh,lP,ky,ig,eN,eO,fN,rd,iT,eQ,pG,fC,fA,fe,gw,jQ,sS,jJ,wt,bA,bW,fX,ki,ft,gy, *,lL,cL,qg,iA,AI,tP,yF,v5,u0,lq,cQ,nR,sJ,vQ,c1,Bc,Es,Et,Om,El])
theorem mr9(k:Nat){h:Hp}{n R:Nat}{bf:List cq}{o:List Ad}(B:Bd h n R bf o)(hl:bf.length<900)(Z:n+100<bu)(kind_q wide_q cC:Int)(k0:0<=kind_q)(k6:kind_q<6):
  ∃g t e nx,(∀l p,bA l 9=some (.int (.l cC))->bA l 11=some (.int (.l wide_q))->bA l 12=some (.int (.l kind_q))->bA l 18=some (.ref (.g R))->bW l 18 (.ref (.g t))=some p->eJ mM (bH mM (k+1)) Fe l ⟨h,n⟩=
   some ((.nx,p),⟨{h with g:=g},nx⟩))/\Bd {h with g:=g} nx t (bf++iW kind_q wide_q) e/\(∀j,j<n->g j=h.g j)/\n<=nx/\nx<=n+20:=by
 obtain⟨J,q1,x,y,c1,q,o1,K,O⟩:=XD (h:=h) (n:=n) (k:=k) (kind_q:=kind_q) (wide_q:=wide_q) (pl:=.int (.l cC)) k0 k6 B.free (by simp) (by omega);have z:=B.keep (g:=J) o1 q.free K;have s1:=Mi kind_q wide_q;obtain⟨a1,I⟩:=Bd.add z q (by omega) (by omega);dsimp only at a1;refine⟨_,y,_,y+1,?_,I,fun j S=>(bL (by omega)).trans (o1 j S),by omega,by omega⟩;clear o1 B z q I;intro l p h9 U W Y hs;unfold Fe;walk_at "k48"
theorem abI(C:CH Hp)(h:Hp)(n:Nat)(lk:Int)(l:L)(j:bA l 16=some (.int (.l lk)))(e:L)(hs:bW l 19 (rv (1+Int.fmod lk 2))=some e):
  eJ mM C Eu l ⟨h,n⟩=
   some ((.nx,e),⟨h,n⟩):=by
 unfold Eu;walk_at "k48"
theorem abJ(C:CH Hp){h:Hp}{n R:Nat}{bf:List cq}{o:List Ad}(B:Bd h n R bf o)(hl:bf.length<1000)(K:n+100<bu)(lw lk:Int)(ls lf:Bool)(l:L)(q:bA l 14=some (.int (.l lw)))(t:bA l 15=some (.bool ls))(x:bA l 16=some (.int (.l lk)))(y:bA l 17=some (.bool lf))(z:bA l 18=some (.ref (.g R)))(I:bA l 19=some (rv (1+Int.fmod lk 2))):
  eJ mM C Ew l ⟨h,n⟩=
   some ((.nx,l),⟨{h with g:=fun j=>if j=R then .list (fD bf o++[(mc lk lw ls lf).v (.g n)])else if j=n then .list (bR (mc lk lw ls lf).k.args)else h.g j},n+2⟩):=by
 have O:=B.free n (ez _);have S:=B.lt;have J:=B.at_;have p:=B.len hl;clear B;unfold Ew mc;cases e:decide (lk<2)with|true=>walk_at "k48";rfl|false=>walk_at "k48";rfl
theorem abK(C:CH Hp){h:Hp}{n R:Nat}{bf:List cq}{e:List Ad}(B:Bd h n R bf e)(l:L)(p:bA l 18=some (.ref (.g R)))(j:L)(hs:bW l 20 (.int (.l bf.length))=some j):
  eJ mM C yt l ⟨h,n⟩=
   some ((.nx,j),⟨h,n⟩):=by
 have q:=B.at_;have o:=tl B.ra.1;clear B;unfold yt;walk_at "k48"
theorem abL(C:CH Hp)(h:Hp)(n:Nat)(q:h.g n=.free)(t:n+100<bu)(cK:Int)(l:L)(p:bA l 13=some (.int (.l cK)))(o:L)(hs:bW l 21 (.ref (.g n))=some o):
  eJ mM C Ex l ⟨h,n⟩=
   some ((.nx,o),⟨{h with g:=fun j=>if j=n then .list (cD (bif decide (cK=1)||decide (cK=2)then[cK-1]else[]))else h.g j},n+1⟩):=by
 unfold Ex;cases e:(decide (cK=1)||decide (cK=2))with|true=>walk_at "k48";rfl|false=>walk_at "k48";rfl
theorem abM(C:CH Hp){h:Hp}{n R o:Nat}{bf:List cq}{y:List Ad}(B:Bd h n R bf y)(hl:bf.length<1000)(hn:n+100<bu)(cK:Int)(ho:h.g o=.list (cD (bif decide (cK=1)||decide (cK=2)then[cK-1]else[])))(Y:o<n)(Z:o≠R):
  ∃g nx z,(∀l,bA l 18=some (.ref (.g R))->bA l 21=some (.ref (.g o))->eJ mM C Be l ⟨h,n⟩=
   some ((.nx,l),⟨{h with g:=g},nx⟩))/\Bd {h with g:=g} nx R (bf++nT cK) z/\(∀j,j<n->j≠R->g j=h.g j)/\n<=nx/\nx<=n+5:=by
 have f0:=B.free n (ez _);have f1:=B.free (n+1) (by omega);have hR:=B.lt;have aa:=B.at_;have W:=B.len hl;have J:Bd {h with g:=fun j=>if j=n then .list []else h.g j} (n+1) R bf y:=B.keep (fun j K=>bL (by omega)) (fun j K=>(bL (by omega)).trans (B.free j (by omega))) (by omega);have t:=Nu (h:={h with g:=fun j=>if j=n then .list []else h.g j}) (p:=o) (q:=n) (b:=[]) ((bL (by omega)).trans ho) (df rfl);have I:∀x,mM.get ({h with g:=fun j=>if j=n then .list []else h.g j}:Hp) (.g o)=x->x=.list (cD (bif decide (cK=1)||decide (cK=2)then[cK-1]else[])):=fun x e=>e.symm.trans ((bL (by omega)).trans ho)
 unfold nT;cases e:(decide (cK=1)||decide (cK=2))with
 |false=>rw[e]at t ho;have d:decide ((bif false then[cK-1]else[])=([]:List Int))=true:=rfl;rw[d]at t;refine⟨_,n+1,y,?_,by simpa using J,fun j K _=>bL (by omega),by omega,by omega⟩;clear J B I;intro l O S;unfold Be;walk_at "k48"
 |true=>
  rw[e]at t ho;have d:decide ((bif true then[cK-1]else[])=([]:List Int))=false:=by simp
  rw[d]at t;have p:=J.row ⟨.ca (3+(cK-1)),-1,false⟩ hl (by omega);refine⟨_,n+3,_,?_,p,fun j K U=>(bL U).trans ((bL (by omega)).trans (bL (by omega))),by omega,by omega⟩;have ab:h.g o=.list [.int (.l (cK-1))]:=ho;have ae:jy [.int (.l (cK-1))] (.int (.l 0))=some (.int (.l (cK-1))):=rfl;clear J B I p ho;intro l O S;unfold Be;walk_at "k48";rfl
def kC:Option (Int×Nat)->V
 |none=>.none
 |some (r,h)=>.tup [rv r,.str h]
theorem LL{a:Int}(e:0<=a)(j:a<1000):small a=true:=by unfold small;rw[cY,iG,iG];omega
theorem Bf(h:Hp)(n:Nat)(a w:Int)(o:0<=a)(t:a<100)(x:0<=w)(p:w<100)(hf:h.g n=.free)(q:n<bu):builtin mM 2 [.int (.l a),.int (.l (a+w))] ⟨h,n⟩=some (.ref (.g n),⟨{h with g:=fun j=>if j=n then .list (cD (eR a w.toNat))else h.g j},n+1⟩):=by
 have e:range [.int (.l a),.int (.l (a+w))]=some (cD (eR a w.toNat)):=by
  show(bif small a&&small (a+w)then some (qV a (a+w-a).toNat)else none)=_
  rw[LL o (by omega),LL (by omega) (by omega),Ld,show a+w-a=w by omega];rfl
 show zV mM _ _=_
 unfold zV;rw[e];show(bif Nat.blt (cD (eR a w.toNat)).length bu then _ else _)=_
 rw[lq (by simp[cD,tn];show _<100000;omega),gG,iA _ _ _ hf q]
theorem abN(h:Hp)(b x y z:Int):dF mM h (.int (.l b)) (.tup [.int (.l x),.int (.l y),.int (.l z)])=some (decide (b=x)||decide (b=y)||decide (b=z)):=by
 have:=GB b [x,y,z];show oO dN (.l b) [.int (.l x),.int (.l y),.int (.l z)]=_
 rw[show[V.int (.l x),.int (.l y),.int (.l z)]=cD [x,y,z] from rfl,this];simp only[gx,vV,or_false]
 by_cases e:b=x<;>by_cases j:b=y<;>by_cases o:b=z<;>simp[e,j,o]
theorem Z9(s:St Hp):hQ mM (.str 32) (.int (.l 0)) s=some (.str 11,s):=rfl
theorem aaa(s:St Hp):hQ mM (.str 32) (.int (.l 1)) s=some (.str 12,s):=rfl
theorem W4.pos{w:Int}(h:W4 w):0<w/\w<5:=by rcases h with rfl|rfl|rfl<;>omega
local macro_rules |`(tactic|walk_at "k49")=>`(tactic|simp(disch:=walk_at "k21")only[el,fY,eZ,eF,gj,oQ,fG,qz,iJ,ky,eN,eO,fN,rd,pG,fC,fA,fe,gw,ij,bA,bW,fX,ki, *,n4,jS,lL,Es,Z9,aaa])
theorem abO(C:CH Hp)(h:Hp)(n:Nat)(p:h.g n=.free)(q:n+100<bu)(base_q off_q w:Int)(o0:0<=off_q)(t:off_q<5)(e:W4 w)(l:L)(x:bA l 3=some (.int (.l base_q)))(y:bA l 4=some (.int (.l off_q)))(z:bA l 5=some (.int (.l w)))(o:L)(hs:bW l 22 (.tup [.int (.l base_q),.ref (.g n)])=some o):
  eJ mM C Ey l ⟨h,n⟩=
   some ((.nx,o),⟨{h with g:=fun j=>if j=n then .list (cD (eR off_q w.toNat))else h.g j},n+1⟩):=by
 have B:=Bf h n off_q w o0 (by omega) (by have:=e.pos;omega) (by have:=e.pos;omega) p (by omega);unfold Ey;walk_at "k49"
theorem abP(C:CH Hp)(h:Hp)(n:Nat)(p:h.g n=.free)(t:n+100<bu)(base_q off_q lw:Int)(o0:0<=off_q)(x:off_q<5)(e:W4 lw)(l:L)(y:bA l 3=some (.int (.l base_q)))(z:bA l 4=some (.int (.l off_q)))(q:bA l 14=some (.int (.l lw)))(o:L)(hs:bW l 23 (.tup [.int (.l base_q),.ref (.g n)])=some o):
  eJ mM C Ez l ⟨h,n⟩=
   some ((.nx,o),⟨{h with g:=fun j=>if j=n then .list (cD (eR off_q lw.toNat))else h.g j},n+1⟩):=by
 have B:=Bf h n off_q lw o0 (by omega) (by have:=e.pos;omega) (by have:=e.pos;omega) p (by omega);unfold Ez;walk_at "k49"
theorem abQ(C:CH Hp)(h:Hp)(n:Nat)(o:h.g n=.free)(B:n+100<bu)(cC cM wide_q kind_q:Int)(o0:0<=cM)(I:cM<5)(p:W4 wide_q)(l:L)(J:bA l 9=some (.int (.l cC)))(t:bA l 10=some (.int (.l cM)))(x:bA l 11=some (.int (.l wide_q)))(y:bA l 12=some (.int (.l kind_q)))(q:L)(hs:bW l 24 (.tup [.int (.l cC),.ref (.g n)])=some q):
  eJ mM C EA l ⟨h,n⟩=
   some ((.nx,q),⟨{h with g:=fun j=>if j=n then .list (cD (eR cM (bif decide (kind_q=3)then 4 else wide_q).toNat))else h.g j},n+1⟩):=by
 unfold EA;cases e:decide (kind_q=3)with
 |true=>
  have z:=Bf h n cM 4 o0 (by omega) (by omega) (by omega) o (by omega);walk_at "k49"
  try rfl
 |false=>
  have z:=Bf h n cM wide_q o0 (by omega) (by have:=p.pos;omega) (by have:=p.pos;omega) o (by omega);walk_at "k49"
  try rfl
theorem abR(C:CH Hp)(h:Hp)(n:Nat)(sg il firm:Bool)(l:L)(j:bA l 6=some (.bool sg))(o:bA l 7=some (.bool il))(p:bA l 8=some (.bool firm))(e:L)(hs:bW l 25 (kC (bif firm then none else bif il then some (7,bif sg then 11 else 12)else some (1,13)))=some e):
  eJ mM C EB l ⟨h,n⟩=
   some ((.nx,e),⟨h,n⟩):=by
 unfold EB;cases firm<;>cases il<;>cases sg<;>(simp only[gG,jg,kC]at hs;walk_at "k49";try rfl)
theorem XE{a:Int}{w v:Int}(j:0<=w)(o:0<=v):decide (eR a w.toNat=eR a v.toNat)=decide (w=v):=by
 rw[rM,iG,iG];constructor
 ·intro e;have:=UW e;omega
 ·rintro rfl;rfl
theorem Wa{a b:Int}{w v:Int}(p:0<w)(q:0<v):decide (eR a w.toNat=eR b v.toNat)=(decide (a=b)&&decide (w=v)):=by
 rw[rM,iG,cY,iG,iG];constructor
 ·intro e;have l:=lu List.length e;rw[tn,tn]at l;obtain⟨m,j⟩:∃m,w.toNat=m+1:=⟨w.toNat-1,by omega⟩
  obtain⟨k,hk⟩:∃k,v.toNat=k+1:=⟨v.toNat-1,by omega⟩
  rw[j,hk,eR,eR]at e;injection e with o _;exact⟨o,by omega⟩
 ·rintro⟨rfl,rfl⟩;rfl
local macro_rules |`(tactic|walk_at "k50")=>`(tactic|simp(disch:=walk_at "k21")only[el,ff,fp,eM,fY,fS,eZ,eF,fG,iJ,lP,ma,lQ,tO,tS,eN,eO,fN,iT,eQ,fC,fA,fe,gw,jQ,ij,sS,jJ,NM,bA,bW,fX,ki,ft,gy, *,n4,jS,lL,tJ,rV,rW,lp,lM,mE,abN])
theorem abS(k:Nat)(h:Hp)(n U p2 W o:Nat)(base_q off_q w lw cC cM kind_q q cK:Int)(x:Option (Int×Nat))(Y:W4 w)(aa:W4 lw)(z:W4 q)(B:h.g U=.list (cD (eR off_q w.toNat)))(Z:h.g p2=.list (cD (eR off_q lw.toNat)))(h3:h.g W=.list (cD (eR cM q.toNat)))(ho:h.g o=.list (cD (bif decide (cK=1)||decide (cK=2)then[cK-1]else[])))(ab:U<n/\W<n/\o<n)(e:∀j,n<=j->h.g j=.free)(hn:n+100<bu)
  :
  ∃g nx,(∀l t,bA l 12=some (.int (.l kind_q))->bA l 21=some (.ref (.g o))->bA l 22=some (.tup [.int (.l base_q),.ref (.g U)])->bA l 23=some (.tup [.int (.l base_q),.ref (.g p2)])->bA l 24=some (.tup [.int (.l cC),.ref (.g W)])->bA l 25=some (kC x)->bW l 25 (kC (bif !decide (w=lw)||((decide (kind_q=1)||decide (kind_q=3)||decide (kind_q=4))&&qY base_q off_q w cC cM q (mh cK))then none else x))=some t->eJ mM (bH mM (k+1)) yu l ⟨h,n⟩=
   some ((.nx,t),⟨{h with g:=g},nx⟩))/\(∀j,j<n->g j=h.g j)/\(∀j,nx<=j->g j=.free)/\n<=nx/\nx<=n+10:=by
 have y:=Nv base_q base_q B Z;rw[XE (by have:=Y.pos;omega) (by have:=aa.pos;omega),show decide (base_q=base_q)=true by simp,mE]at y;obtain⟨g,nx,c,o1,o2,o3,o4⟩:=UX h n k U W o base_q cC off_q cM cK w.toNat q.toNat B h3 ho (by have:=Y.pos;omega) (by have:=z.pos;omega) (by have:=Y.pos;omega) e ab (by omega);rw[show((w.toNat:Nat):Int)=w by have:=Y.pos;omega,show((q.toNat:Nat):Int)=q by have:=z.pos;omega]at c;cases e1:decide (w=lw)with
 |false=>
  rw[e1]at y;refine⟨h.g,n,?_,fun _ _=>rfl,e,by omega,by omega⟩;clear c o1 o2 o3 o4 B Z h3 ho e;intro l t I J K O S p hs;simp only[ft,gy,nK,ql,mE,lM,gG,jg]at hs;replace hs:bW l 25 V.none=some t:=hs;unfold yu;walk_at "k50"
  try rfl
 |true=>
  rw[e1]at y;cases e2:(decide (kind_q=1)||decide (kind_q=3)||decide (kind_q=4))with
  |false=>
   refine⟨h.g,n,?_,fun _ _=>rfl,e,by omega,by omega⟩;clear c o1 o2 o3 o4 B Z h3 ho e;intro l t I J K O S p hs;simp only[e2,ft,gy,nK,ql,mE,lM,gG,jg]at hs;rw[vE p]at hs;cases hs;unfold yu;walk_at "k50"
   try rfl
  |true=>
   refine⟨g,nx,?_,o1,o2,o3,o4⟩;clear o1 o2 B Z h3 ho e;intro l t I J K O S p hs;unfold yu;cases e3:qY base_q off_q w cC cM q (mh cK)with
   |false=>
    rw[e3]at c;simp only[e2,e3,ft,gy,nK,ql,mE,lM,gG,jg]at hs;rw[vE p]at hs;cases hs;walk_at "k50"
    try rfl
   |true=>
    rw[e3]at c;simp only[e2,e3,ft,gy,nK,ql,mE,lM,gG,jg]at hs;replace hs:bW l 25 V.none=some t:=hs;walk_at "k50"
    try rfl
theorem abT(C:CH Hp)(h:Hp)(n o:Nat)(base_q kind_q cK:Int)(x:Option (Int×Nat))(ho:h.g o=.list (cD (bif decide (cK=1)||decide (cK=2)then[cK-1]else[])))
  (l:L) (I:bA l 3=some (.int (.l base_q))) (z:bA l 12=some (.int (.l kind_q))) (B:bA l 21=some (.ref (.g o))) (j:bA l 25=some (kC x)) (p:L) (hs:bW l 25 (kC (bif decide (kind_q=2)&&(decide (1<base_q)||mh cK base_q)then none else x))=some p):
  eJ mM C EC l ⟨h,n⟩=
   some ((.nx,p),⟨h,n⟩):=by
 have e:dF mM h (.int (.l base_q)) (.ref (.g o))=some (mh cK base_q):=by rw[He base_q ho];unfold mh;cases decide (cK=1)||decide (cK=2)with|true=>simp[eq_comm]|false=>simp
 clear ho;unfold EC;cases q:decide (kind_q=2)with
 |false=>simp only[q,ft,gy,nK,ql,mE,lM,gG,jg]at hs;rw[vE j]at hs;cases hs;walk_at "k50";try rfl
 |true=>
  cases y:decide (1<base_q)with
  |true=>simp only[q,y,ft,gy,nK,ql,mE,lM,gG,jg]at hs;replace hs:bW l 25 V.none=some p:=hs;walk_at "k50";try rfl
  |false=>cases t:mh cK base_q with|true=>rw[t]at e;simp only[q,y,t,ft,gy,nK,ql,mE,lM,gG,jg]at hs;replace hs:bW l 25 V.none=some p:=hs;walk_at "k50";try rfl|false=>rw[t]at e;simp only[q,y,t,ft,gy,nK,ql,mE,lM,gG,jg]at hs;rw[vE j]at hs;cases hs;walk_at "k50";try rfl
theorem abU(C:CH Hp)(h:Hp)(n B I:Nat)(base_q off_q lw cC cM kind_q o:Int)(x:Option (Int×Nat))(q:W4 lw)(t:W4 o)(J:h.g B=.list (cD (eR off_q lw.toNat)))(K:h.g I=.list (cD (eR cM o.toNat)))
  (l:L) (O:bA l 12=some (.int (.l kind_q))) (S:bA l 23=some (.tup [.int (.l base_q),.ref (.g B)])) (U:bA l 24=some (.tup [.int (.l cC),.ref (.g I)])) (j:bA l 25=some (kC x)) (y:L) (hs:bW l 25 (kC (bif decide (kind_q=1)&&(decide (cC=base_q)&&(decide (cM=off_q)&&decide (o=lw)))then some (2,13)else x))=some y):
  eJ mM C yv l ⟨h,n⟩=
   some ((.nx,y),⟨h,n⟩):=by
 have e:=Nv cC base_q K J;rw[Wa (by have:=t.pos;omega) (by have:=q.pos;omega)]at e;clear J K;unfold yv;cases z:decide (kind_q=1)with
 |false=>simp only[z,ft,gy,nK,ql,mE,lM,gG,jg]at hs;rw[vE j]at hs;cases hs;walk_at "k50";try rfl
 |true=>cases p:(decide (cC=base_q)&&(decide (cM=off_q)&&decide (o=lw)))with|true=>rw[p]at e;simp only[z,p,ft,gy,nK,ql,mE,lM,gG,jg]at hs;replace hs:bW l 25 (.tup [rv 2,.str 13])=some y:=hs;walk_at "k50";try rfl|false=>rw[p]at e;simp only[z,p,ft,gy,nK,ql,mE,lM,gG,jg]at hs;rw[vE j]at hs;cases hs;walk_at "k50";try rfl
theorem abV:mM.P.gv 13=rS:=rfl
local macro_rules |`(tactic|walk_at "k51")=>`(tactic|simp(disch:=walk_at "k21")only[el,fY,eZ,eF,nY,gj,iJ,nh,lP,eN,eO,eQ,bA,bW, *,qg,iA,nR])
theorem abW(k:Nat)(h:Hp)(n R:Nat)(p:gB)(ok:p.Ok)(x:List Ad)(t:rX h)(B:Bd h n R p.bf x)(hn:n+40000<bu):
  ∃h' n' q1 xs dn,(∀l z,bA l 18=some (.ref (.g R))->bW l 26 (.ref (.g q1))=some z->eJ mM (bH mM (k+9)) ED l ⟨h,n⟩=
   some ((.nx,z),⟨h',n'⟩))/\
   h'.g q1=.list xs/\AJ h'.g n (dn.map (·.2)) xs/\yG p dn/\h'.g R=.list (fD p.bf x)/\(∀j,n'<=j->h'.g j=.free)/\n'+300<bu:=by
 have f0:=B.free n (ez _);have hR:=B.lt;have K:rX ({h with g:=fun j=>if j=n then .list [.tup [.ref (.g R),rS]]else h.g j}:Hp):=⟨t.nb,t.on,t.mo,t.pr,t.ho,t.st,t.lo,t.ce,t.pl,t.fo,t.ex,t.hd,t.sa,t.lg,t.t⟩
 have y:Bd {h with g:=fun j=>if j=n then .list [.tup [.ref (.g R),rS]]else h.g j} (n+1) R p.bf x:=B.keep (fun j Y=>bL (by omega)) (fun j Y=>(bL (by omega)).trans (B.free j (by omega))) (by omega);obtain⟨M,I,g,q,q1,xs,dn,Z,e2,O,J,S,U,W,e8,e9⟩:=V9 _ (n+1) k n R p ok x K (df rfl) y.at_ ⟨by omega,by omega⟩ y.ra (fun a ha i e=>(y.eo a ha i e).1) y.free (by omega);dsimp only at Z;refine⟨{hh M with g:=g},I,q1,xs,dn,?_,O,⟨J.1,fun i o ho=>?_⟩,S,(U R (by omega)).trans y.at_,W,by omega⟩
 ·have aa:=abV;have ix:jy [cu q1] (.int (.l 0))=some (cu q1):=rfl;clear O J S U W y K B t;intro l z ab hs;unfold ED;unfold cu at e2 ix;walk_at "k51"
  try rfl
 ·obtain⟨c,h1,h2,h3⟩:=J.2 i o ho;exact⟨c,h1,h2,by omega⟩
theorem abX(h:Hp)(r y:Int):kV mM h (rv r) (rv y)=some (decide (r=y)):=(show _=eqv dN (rv r) (rv y) from rfl).trans (xO 1 (by simp) r y)
local macro_rules |`(tactic|walk_at "k52")=>`(tactic|simp(disch:=walk_at "k21")only[el,ff,iH,eM,fY,fS,iI,eZ,eF,gj,oQ,fG,qz,ky,tO,tS,eN,eO,fN,rd,iT,eQ,vX,pG,fC,fA,fe,gw,jQ,ij,sS,Eg,wu,kT,bA,bW,ft,gy, *,jV,n4,jS,vM,rV,rW,qg,AI,Et])
theorem aab(C:CH Hp)(h:Hp)(n R q1:Nat)(x U:List V)(lf:Bool)(lk y:Int)(kn:Option (Int×Nat))(J:2<=lk)(hR:h.g R=.list x)(hq:h.g q1=.list U)(hl:U.length=bif rf kn lf y then x.length else x.length-1)(hr:0<x.length)(l:L)
  (Y:bA l 16=some (.int (.l lk))) (Z:bA l 17=some (.bool lf)) (o:bA l 18=some (.ref (.g R))) (aa:bA l 19=some (rv y)) (ab:bA l 25=some (kC kn)) (q:bA l 26=some (.ref (.g q1))) (z:27<l.length):
  ∃t,eJ mM C wD l ⟨h,n⟩=some ((.rt (.bool true),t),⟨h,n⟩):=by
 have ae:decide (lk<2)=false:=m9 (by omega);have d1:decide ((x.length:Int)=x.length)=true:=by simp
 have K:decide (((x.length-1:Nat):Int)=x.length-1)=true:=oJ (by omega);have st:=fun b=>zU (.bool b) z
 clear z;unfold wD;cases kn with
 |none=>
  have hk:kC none=.none:=rfl;obtain⟨t,O,S,_,j⟩:=st true;have B:=(j 18 (by decide)).trans o;have I:=(j 26 (by decide)).trans q;refine⟨t,?_⟩;cases lf with
  |true=>
   simp only[rf,nK,gG]at hl;clear J hr K st j;walk_at "k52"
   try rfl
  |false=>
   simp only[rf,ql,gG]at hl;clear J hr K st j;walk_at "k52"
   try rfl
 |some p=>
  obtain⟨r1,hh⟩:=p;have hk:kC (some (r1,hh))=.tup [rv r1,.str hh]:=rfl;have hs:same (.tup [rv r1,.str hh]) .none=some false:=rfl;have W:=abX h r1 y;cases lf with
  |true=>
   simp only[rf,nK,gG]at hl;obtain⟨t,O,S,_,j⟩:=st true;have B:=(j 18 (by decide)).trans o;have I:=(j 26 (by decide)).trans q;refine⟨t,?_⟩;clear J hr K st j;walk_at "k52"
   try rfl
  |false=>
   cases e:decide (r1=y)with
   |true=>
    simp only[rf,e,ft,Bool.or_false,jg]at hl;rw[e]at W;obtain⟨t,O,S,_,j⟩:=st false;have B:=(j 18 (by decide)).trans o;have I:=(j 26 (by decide)).trans q;refine⟨t,?_⟩;clear J hr d1 st j;walk_at "k52"
    try rfl
   |false=>
    simp only[rf,e,gy,Bool.or_true,gG]at hl;rw[e]at W;obtain⟨t,O,S,_,j⟩:=st true;have B:=(j 18 (by decide)).trans o;have I:=(j 26 (by decide)).trans q;refine⟨t,?_⟩;clear J hr K st j;walk_at "k52"
    try rfl
theorem MM{h:Hp}{c q:Nat}(a:Nat)(l:List Op)(ha:a<1000)(o:h.g c=.list (bR l))(t:h.g q=.list (bR l)):kV mM h (.tup [.str a,.ref (.g c)]) (.tup [.str a,.ref (.g q)])=some true:=by
 show qD mM h _ _=_
 unfold qD;have f:∀p:Nat,h.g p=.list (bR l)->nW (mi mM.toHOps h 3) (.tup [.str a,.ref (.g p)]) 20=some (.tup [.str a,.lst (bR l)]):=fun p e=>by
  have j:mi mM.toHOps h 3 19 (.g p)=some (.lst (bR l)):=by simp only[mi];rw[show mM.toHOps.get h (.g p)=.list (bR l) from e];simp only[G2]
  simp only[nW,nO];rw[j]
 rw[f c o,f q t];show eqv dN (.tup _) (.tup _)=_
 have x:eqv dN (.str a) (.str a)=some true:=by
  show wa dN a a=_
  rw[jR ha ha];simp
 have j:nV dN [.lst (bR l)] [.lst (bR l)]=some (decide (l=l)&&true):=jF (by simp only[eqv,Hq]) tv;have y:=rK (jF x j);simpa using y
theorem abY(h:Hp)(n q:Nat)(i:V)(l:List V)(e:h.g q=.list l):hQ mM (.ref (.g q)) i ⟨h,n⟩=iX (jy l i) ⟨h,n⟩:=by
 show(match mM.get h (.g q)with
  |.list l=>iX (jy l i) (⟨h,n⟩:St Hp)
  |.dict _ _=>_
  |_=>_)=_
 rw[show mM.get h (.g q)=.list l from e]
local macro_rules |`(tactic|walk_at "k53")=>`(tactic|simp(disch:=walk_at "k21")only[el,fp,nX,fS,eZ,eF,gj,oQ,fG,fN,eQ,pG,fC,fA,fe,jQ,wu,bA,bW,ft, *,jS,nZ,oM,oN,oR,oS,rV,rW,lp,Et])
theorem aac(C:CH Hp)(h:Hp)(n:Nat)(lk:Int)(e:lk<2)(l:L)(j:bA l 16=some (.int (.l lk))):
  eJ mM C wD l ⟨h,n⟩=some ((.nx,l),⟨h,n⟩):=by
 have o:decide (lk<2)=true:=oJ e;clear e;unfold wD;walk_at "k53"
 try rfl
theorem abZ(C:CH Hp)(h:Hp)(n q1 c:Nat)(e:Int)(op:Nat)(j:List V)(o:h.g q1=.list j)(hi:jy j (.int (.l (e-1)))=some (.tup [.str op,.int (.l 8),.ref (.g c)]))(l p q t:L)(y:bA l 20=some (.int (.l e)))(z:bA l 26=some (.ref (.g q1)))(B:bW l 28 (.str op)=some p)(I:bW p 29 (.int (.l 8))=some q)(J:bW q 30 (.ref (.g c))=some t):
  eJ mM C yw l ⟨h,n⟩=some ((.nx,t),⟨h,n⟩):=by
 have x:=abY h n q1 (.int (.l (e-1))) j o;rw[hi]at x;have ok:iX (some (.tup [.str op,.int (.l 8),.ref (.g c)])) (⟨h,n⟩:St Hp)=some (.tup [.str op,.int (.l 8),.ref (.g c)],⟨h,n⟩):=rfl;rw[ok]at x;clear o hi ok;unfold yw;walk_at "k53"
 try rfl
theorem ab0:mM.P.cat 18 20=some 14:=rfl
theorem ab1:mM.P.cat 18 21=some 15:=rfl
theorem ab2:mM.P.cat 19 20=some 16:=rfl
theorem ab3:mM.P.cat 19 21=some 17:=rfl
theorem ab4(s:St Hp):builtin mM 4 [.int (.l 8)] s=some (.str 20,s):=rfl
theorem ab5(s:St Hp):builtin mM 4 [.int (.l 16)] s=some (.str 21,s):=rfl
theorem ab6(F:cG):hV F .mul (.l 8) (.l 1)=some (.l 8):=rfl
theorem ab7(F:cG):hV F .mul (.l 8) (.l 2)=some (.l 16):=rfl
theorem ab8(x y:Nat)(s:St Hp):q9 mM .add (.str x) (.str y) s=match mM.P.cat x y with
  |some z=>some (.str z,s)
  |.none=>.none:=rfl
local macro_rules |`(tactic|walk_at "k54")=>`(tactic|simp(disch:=walk_at "k21")only[el,iH,fp,eM,fS,iI,eZ,eF,gj,oQ,fG,qz,iJ,nh,ky,tO,tS,eN,eO,fN,rd,jh,iT,eQ,vX,pG,fC,fA,fe,gw,ij,Eg,kT,bA,fX,ki, *,jV,mL,kc,jR,n4,Nat.reduceBEq,vM,iA,ab0,ab1,ab2,ab3,ab4,ab5,ab6,ab7,ab8])
theorem aad(C:CH Hp)(h:Hp)(n:Nat)(lf:Bool)(kn:Option (Int×Nat))(j:lf=true∨kn=none)(l:L)(o:bA l 17=some (.bool lf))(p:bA l 25=some (kC kn))(q:bA l 28=some (.str 8)):
  eJ mM C tU l ⟨h,n⟩=some ((.rt (.bool true),l),⟨h,n⟩):=by
 unfold tU;cases lf with
 |true=>
  clear j;walk_at "k54"
  try rfl
 |false=>
  have e:kn=none:=by rcases j with h|h;cases h;exact h
  subst e;have hk:kC none=.none:=rfl;clear j;walk_at "k54"
  try rfl
theorem aae(C:CH Hp)(h:Hp)(n:Nat)(r1:Int)(hh:Nat)(l:L)(e:bA l 17=some (.bool false))(j:bA l 25=some (kC (some (r1,hh)))):
  eJ mM C tU l ⟨h,n⟩=some ((.nx,l),⟨h,n⟩):=by
 have hk:kC (some (r1,hh))=.tup [rv r1,.str hh]:=rfl;have hs:same (.tup [rv r1,.str hh]) .none=some false:=rfl;unfold tU;walk_at "k54"
 try rfl
theorem ab9(C:CH Hp)(h:Hp)(n c:Nat)(hf:h.g n=.free)(W:n+100<bu)(z:c<n)(r1 lw:Int)(hh op:Nat)(ls:Bool)(x:hh=11∨hh=12∨hh=13)(t:h.g c=.list (bR [.r r1]))(o:(decide (lw=4)||decide (hh=bif ls then 11 else 12))=true->op=6)(l:L)(B:bA l 14=some (.int (.l lw)))(I:bA l 15=some (.bool ls))(J:bA l 25=some (kC (some (r1,hh))))(K:bA l 28=some (.str op))(O:bA l 30=some (.ref (.g c))):
  eJ mM C u5 l ⟨h,n⟩=
   bif decide (lw=4)||decide (hh=bif ls then 11 else 12)then some ((.rt (.bool true),l),⟨{h with g:=fun j=>if j=n then .list (bR [.r r1])else h.g j},n+1⟩)
   else some ((.nx,l),⟨h,n⟩):=by
 have hk:kC (some (r1,hh))=.tup [rv r1,.str hh]:=rfl;have S:=MM (h:={h with g:=fun j=>if j=n then .list (bR [.r r1])else h.g j}) (c:=c) (q:=n) 6 [.r r1] (by omega) ((bL (by omega)).trans t) (df rfl);have ho:bR [.r r1]=[rv r1]:=rfl;rw[ho]at S;unfold u5;cases e:(decide (lw=4)||decide (hh=bif ls then 11 else 12))with
 |true=>
  have U:=o e;subst U;clear o t;cases y:decide (lw=4)with
  |true=>
   clear e;walk_at "k54"
   try rfl
  |false=>
   rw[y]at e;cases ls with
   |true=>
    have:hh=11:=by simpa using e
    subst this;clear e;walk_at "k54"
    try rfl
   |false=>
    have:hh=12:=by simpa using e
    subst this;clear e;walk_at "k54"
    try rfl
 |false=>
  rw[DE]at e;obtain⟨y,p⟩:=e;clear o t;cases ls with
  |true=>
   have:(hh==11)=false:=by simpa using p
   have hl:hh<1000:=by omega
   clear p x;walk_at "k54"
   try rfl
  |false=>
   have:(hh==12)=false:=by simpa using p
   have hl:hh<1000:=by omega
   clear p x;walk_at "k54"
   try rfl
theorem aca(C:CH Hp)(h:Hp)(n c:Nat)(hf:h.g n=.free)(J:n+100<bu)(t:c<n)(r1 lw:Int)(hh:Nat)(ls:Bool)(x:lw=1∨lw=2)(p:h.g c=.list (bR [.r r1]))(l:L)(y:bA l 14=some (.int (.l lw)))(z:bA l 15=some (.bool ls))(B:bA l 25=some (kC (some (r1,hh))))(e:bA l 28=some (.str (mO ls (decide (lw=2)))))(I:bA l 30=some (.ref (.g c))):
  eJ mM C u6 l ⟨h,n⟩=some ((.rt (.bool true),l),⟨{h with g:=fun j=>if j=n then .list (bR [.r r1])else h.g j},n+1⟩):=by
 have hk:kC (some (r1,hh))=.tup [rv r1,.str hh]:=rfl;have o:=fun a ha=>MM (h:={h with g:=fun j=>if j=n then .list (bR [.r r1])else h.g j}) (c:=c) (q:=n) a [.r r1] ha ((bL (by omega)).trans p) (df rfl)
 have ho:bR [.r r1]=[rv r1]:=rfl;rw[ho]at o;have a1:=o 14 (by omega);have K:=o 15 (by omega);have a3:=o 16 (by omega);have a4:=o 17 (by omega);clear o p;unfold u6;rcases x with rfl|rfl
 ·rw[show decide ((1:Int)=2)=false from rfl]at e;cases ls with
  |true=>
   rw[show mO true false=14 from rfl]at e;walk_at "k54"
   try rfl
  |false=>
   rw[show mO false false=16 from rfl]at e;walk_at "k54"
   try rfl
 ·rw[show decide ((2:Int)=2)=true from rfl]at e;cases ls with
  |true=>
   rw[show mO true true=15 from rfl]at e;walk_at "k54"
   try rfl
  |false=>
   rw[show mO false true=17 from rfl]at e;walk_at "k54"
   try rfl
theorem iU{C:CH Hp}{q:S}{rest:List S}{l j:L}{h h':Hp}{n n':Nat}(e:eJ mM C q l ⟨h,n⟩=some ((.nx,j),⟨h',n'⟩)):cy mM C (q::rest) l ⟨h,n⟩=cy mM C rest j ⟨h',n'⟩:=by rw[eM,e];rfl
theorem AN{C:CH Hp}{q:S}{rest:List S}{l j:L}{h h':Hp}{n n':Nat}{v:V}(e:eJ mM C q l ⟨h,n⟩=some ((.rt v,j),⟨h',n'⟩)):cy mM C (q::rest) l ⟨h,n⟩=some ((.rt v,j),⟨h',n'⟩):=by rw[eM,e];rfl
theorem rX.g{h:Hp}(e:rX h)(g:Nat->O):rX {h with g:=g}:=⟨e.nb,e.on,e.mo,e.pr,e.ho,e.st,e.lo,e.ce,e.pl,e.fo,e.ex,e.hd,e.sa,e.lg,e.t⟩
theorem XF(C:CH Hp)(h:Hp)(n n0 R q1:Nat)(p:gB)(ok:p.Ok)(x:List Ad)(xs:List V)(dn:List (Nat×fH))(hR:h.g R=.list (fD p.bf x))(O:x.length=p.bf.length)(hq:h.g q1=.list xs)(ov:AJ h.g n0 (dn.map (·.2)) xs)(rs:yG p dn)(t:∀j,n<=j->h.g j=.free)(hn:n+100<bu)(l:L)
  (ag:bA l 14=some (.int (.l p.lw))) (ah:bA l 15=some (.bool p.ls)) (S:bA l 16=some (.int (.l p.lk))) (U:bA l 17=some (.bool p.lf)) (ai:bA l 18=some (.ref (.g R))) (aj:bA l 19=some (rv (1+Int.fmod p.lk 2))) (ak:bA l 20=some (.int (.l ((p.dV.length+1:Nat):Int)))) (W:bA l 25=some (kC p.kn)) (Y:bA l 26=some (.ref (.g q1))) (am:l.length=31):
  ∃l' s',cy mM C [wD,yw,tU,u5,u6] l ⟨h,n⟩=some ((.rt (.bool true),l'),s'):=by
 by_cases h2:p.lk<2
 ·obtain⟨r1,o,r2,r3⟩:=rs.1 h2;obtain⟨c,c1,c2,c3⟩:=ov.2 _ o r2;obtain⟨w1,K⟩:=r3;rw[w1]at c1;have hi:jy xs (.int (.l (((p.dV.length+1:Nat):Int)-1)))=some (.tup [.str o.op,.int (.l 8),.ref (.g c)]):=by
   rw[show(((p.dV.length+1:Nat):Int)-1)=Int.ofNat p.dV.length by simp];show(bif Nat.blt p.dV.length bu then bA xs p.dV.length else none)=_
   have hl:=GR p;rw[p.Md]at hl;simp at hl;rw[lq (by show _<100000;omega),gG,pF,c1];rfl
  have Z:c<n:=by
   by_cases q:c<n
   ·exact q
   ·rw[t c (by omega)]at c2;cases c2
  obtain⟨l1,s1,a1,b1,k1⟩:=zU (l:=l) (i:=28) (.str o.op) (by omega);obtain⟨l2,s2,a2,b2,k2⟩:=zU (l:=l1) (i:=29) (.int (.l 8)) (by omega);obtain⟨I,s3,a3,b3,k3⟩:=zU (l:=l2) (i:=30) (.ref (.g c)) (by omega);have k:∀j,j<28->bA I j=bA l j:=fun j hj=>(k3 j (by omega)).trans ((k2 j (by omega)).trans (k1 j (by omega)))
  have y:bA I 28=some (.str o.op):=(k3 28 (by decide)).trans ((k2 28 (by decide)).trans a1);have aa:=(k 14 (by decide)).trans ag;have ab:=(k 15 (by decide)).trans ah;have J:=(k 17 (by decide)).trans U;have z:=(k 25 (by decide)).trans W;have ae:=(iU (rest:=[yw,tU,u5,u6]) (aac C h n p.lk h2 l S)).trans (iU (rest:=[tU,u5,u6]) (abZ C h n q1 c _ o.op xs hq hi l l1 l2 I ak Y s1 s2 s3))
  by_cases hc:p.lf=true∨p.kn=none
  ·have ho:o.op=8:=by
    have:(bif p.lf then none else p.kn)=none:=by
     rcases hc with hc|hc
     ·rw[hc];rfl
     ·rw[hc];cases p.lf<;>rfl
    rw[this]at K;exact K
   rw[ho]at y;exact⟨_,_,ae.trans (AN (aad C h n p.lf p.kn hc I J z y))⟩
  ·have af:p.lf=false:=by cases e:p.lf with
    |true=>exact absurd (.inl e) hc
    |false=>rfl
   cases ek:p.kn with
   |none=>exact absurd (.inr ek) hc
   |some q=>
    obtain⟨r,hh⟩:=q;have h3:=Oi ek;rw[af,ek]at K;obtain⟨K,w3⟩:=K;rw[K]at c2;rw[af]at J;rw[ek]at z;have e3:=ae.trans (iU (rest:=[u5,u6]) (aae C h n r hh I J z));have B:=ab9 C h n c (t n (ez _)) hn Z r p.lw hh o.op p.ls h3 c2 (fun e=>by rw[w3,e];rfl) I aa ab z y a3;cases e:(decide (p.lw=4)||decide (hh=bif p.ls then 11 else 12))with
    |true=>rw[e]at B;exact⟨_,_,e3.trans (AN B)⟩
    |false=>
     rw[e]at B w3;have al:o.op=mO p.ls (decide (p.lw=2)):=w3;rw[al]at y;have hw:p.lw=1∨p.lw=2:=by
      rw[DE]at e;have:=of_decide_eq_false e.1;rcases ok.lw with h|h|h
      ·exact absurd h this
      ·exact .inl h
      ·exact .inr h
     exact⟨_,_,(e3.trans (iU B)).trans (AN (aca C h n c (t n (ez _)) hn Z r p.lw hh p.ls hw c2 I aa ab z y a3))⟩
 ·have hl:xs.length=bif rf p.kn p.lf (1+Int.fmod p.lk 2)then(fD p.bf x).length else(fD p.bf x).length -1:=by
   rw[ov.1,tl O,oK];exact rs.2 (by omega)
  have hr:0<(fD p.bf x).length:=by rw[tl O,p.Md];simp;omega
  obtain⟨l',e⟩:=aab C h n R q1 _ xs p.lf p.lk (1+Int.fmod p.lk 2) p.kn (by omega) hR hq hl hr l S U ai aj W Y (by omega);exact⟨_,_,AN e⟩
abbrev Bd.hp{h:Hp}{n R:Nat}{bf:List cq}{e:List Ad}(_:Bd h n R bf e):Hp:=h
theorem KG(p:gB):ji++hU 10 p.base_q p.off_q p.jl++hU 12 p.base_q p.off_q p.jm++[(⟨.ad (rb p.cC) p.cM,14,false⟩:cq)]++[ly p.il p.w p.sg p.firm]++iW p.kind_q p.wide_q++[mc p.lk p.lw p.ls p.lf]++nT p.cK=p.bf:=by simp[gB.bf]
theorem TH(p:gB):(ji++hU 10 p.base_q p.off_q p.jl++hU 12 p.base_q p.off_q p.jm++[(⟨.ad (rb p.cC) p.cM,14,false⟩:cq)]++[ly p.il p.w p.sg p.firm]++iW p.kind_q p.wide_q++[mc p.lk p.lw p.ls p.lf]).length=p.dV.length+1:=by simp[gB.dV];omega
theorem UY(p:gB):(bif decide (p.kind_q=1)&&(decide (p.cC=p.base_q)&&(decide (p.cM=p.off_q)&&decide ((bif decide (p.kind_q=3)then 4 else p.wide_q)=p.lw)))then some (2,13)else(bif decide (p.kind_q=2)&&(decide (1<p.base_q)||mh p.cK p.base_q)then none else(bif !decide (p.w=p.lw)||((decide (p.kind_q=1)||decide (p.kind_q=3)||decide (p.kind_q=4))&&qY p.base_q p.off_q p.w p.cC p.cM (bif decide (p.kind_q=3)then 4 else p.wide_q) (mh p.cK))then none else(bif p.firm then none else bif p.il then some (7,bif p.sg then 11 else 12)else some (1,13)))))=p.kn:=by
 unfold gB.kn kn
 by_cases h:p.kind_q=1
 ·simp[h,Bool.and_assoc]
 ·simp[h]
theorem Bd.Pz{h:Hp}{n R:Nat}{bf j:List cq}{o:List Ad}(e:bf=j)(B:Bd h n R bf o):Bd h n R j o:=e▸B
theorem aaf{C:CH Hp}{l j:L}{s o:St Hp}{x y:Option (Int×Nat)}(p:x=y)(e:∀j,bW l 25 (kC x)=some j->eJ mM C yv l s=some ((.nx,j),o))(hs:bW l 25 (kC y)=some j):eJ mM C yv l s=some ((.nx,j),o):=by subst p;exact e j hs
theorem aag{C:CH Hp}{l j:L}{s o:St Hp}{x y:Nat}(p:x=y)(e:∀j,bW l 20 (.int (.l (x:Int)))=some j->eJ mM C yt l s=some ((.nx,j),o))(hs:bW l 20 (.int (.l (y:Int)))=some j):eJ mM C yt l s=some ((.nx,j),o):=by subst p;exact e j hs
set_option maxHeartbeats 2000000 in
theorem SI(k:Nat)(h:Hp)(Y R1:Nat)(J:List Ad)(a b c:Int)(p:gB)(ok:p.Ok)(hB:rX h)(B1:Bd h Y R1 (ji++hU 10 p.base_q p.off_q p.jl++hU 12 p.base_q p.off_q p.jm) J)(hn:Y+49000<bu):
  ∃Z s',cy mM (bH mM (k+9)) [Fb,Fc,Fe,Eu,Ew,yt,Ex,Be,Ey,Ez,EA,EB,yu,EC,yv,ED,wD,yw,tU,u5,u6] [.int (.l a),.int (.l b),.int (.l c),.int (.l p.base_q),.int (.l p.off_q),.int (.l p.w),.bool p.sg,.bool p.il,.bool p.firm,.int (.l p.cC),.int (.l p.cM),.int (.l p.wide_q),.int (.l p.kind_q),.int (.l p.cK),.int (.l p.lw),.bool p.ls,.int (.l p.lk),.bool p.lf,.ref (.g R1),.no,.no,.no,.no,.no,.no,.no,.no,.no,.no,.no,.no] ⟨h,Y⟩=some ((.rt (.bool true),Z),s'):=by
 have s1:=Dm 10 p.base_q p.off_q p.jl;have s2:=Dm 12 p.base_q p.off_q p.jm;have s3:=Mi p.kind_q p.wide_q;have aa:ji.length=4:=rfl;have L1:(ji++hU 10 p.base_q p.off_q p.jl++hU 12 p.base_q p.off_q p.jm).length<=8:=by simp only[cU,aa];omega
 have B2:=B1.row ⟨.ad (rb p.cC) p.cM,14,false⟩ (by omega) (by omega);have B3:=B2.row (ly p.il p.w p.sg p.firm) (by rw[cU,sM];omega) (by omega);have L3:(ji++hU 10 p.base_q p.off_q p.jl++hU 12 p.base_q p.off_q p.jm++[(⟨.ad (rb p.cC) p.cM,14,false⟩:cq)]++[ly p.il p.w p.sg p.firm]).length<=10:=by rw[cU,cU,sM,sM];omega
 obtain⟨g4,R4,ai,q,e9,W,o4,l4,ak⟩:=mr9 (k+8) B3 (by omega) (by omega) p.kind_q p.wide_q p.cC ok.kind_q.1 ok.kind_q.2;have L4:(ji++hU 10 p.base_q p.off_q p.jl++hU 12 p.base_q p.off_q p.jm++[(⟨.ad (rb p.cC) p.cM,14,false⟩:cq)]++[ly p.il p.w p.sg p.firm]++iW p.kind_q p.wide_q).length<=11:=by rw[cU];omega
 have I:=W.row (mc p.lk p.lw p.ls p.lf) (by omega) (by omega);have al:=W.lt;have B6:=I.keep (n':=q+3) (g:=fun j=>if j=q+2 then .list (cD (bif decide (p.cK=1)||decide (p.cK=2)then[p.cK-1]else[]))else I.hp.g j) (fun j B=>bL (by omega)) (fun j B=>(bL (by omega)).trans (I.free j (by omega))) (by omega);obtain⟨g7,e,z,ab,K,o7,l7,am⟩:=abM (bH mM (k+9)) B6 (by rw[cU,sM];omega) (by omega) p.cK (df rfl) (by omega) (by omega);have O:=K.keep (n':=e+1) (g:=fun j=>if j=e then .list (cD (eR p.off_q p.w.toNat))else K.hp.g j) (fun j B=>bL (by omega)) (fun j B=>(bL (by omega)).trans (K.free j (by omega))) (by omega);have S:=O.keep (n':=e+2) (g:=fun j=>if j=e+1 then .list (cD (eR p.off_q p.lw.toNat))else O.hp.g j) (fun j B=>bL (by omega)) (fun j B=>(bL (by omega)).trans (O.free j (by omega))) (by omega);have t:=S.keep (n':=e+3) (g:=fun j=>if j=e+2 then .list (cD (eR p.cM (bif decide (p.kind_q=3)then 4 else p.wide_q).toNat))else S.hp.g j) (fun j B=>bL (by omega)) (fun j B=>(bL (by omega)).trans (S.free j (by omega))) (by omega);have U:W4 (bif decide (p.kind_q=3)then 4 else p.wide_q):=by cases decide (p.kind_q=3);exact ok.wide_q;exact .inl rfl
 obtain⟨ae,x,EW,y,af,ag,aj⟩:=abS (k+8) t.hp (e+3) e (e+1) (e+2) (q+2) p.base_q p.off_q p.w p.lw p.cC p.cM p.kind_q (bif decide (p.kind_q=3)then 4 else p.wide_q) p.cK (bif p.firm then none else bif p.il then some (7,bif p.sg then 11 else 12)else some (1,13)) ok.w ok.lw U ((bL (by omega)).trans ((bL (by omega)).trans (df rfl))) ((bL (by omega)).trans (df rfl)) (df rfl) ((bL (by omega)).trans ((bL (by omega)).trans ((bL (by omega)).trans ((o7 (q+2) (by omega) (by omega)).trans (df rfl))))) ⟨by omega,by omega,by omega⟩ t.free (by omega);have o:=t.keep y af ag;obtain⟨h',n',q1,xs,dn,ah,hq,ov,rs,hR,fr,ln⟩:=abW k o.hp x R4 p ok z (hB.g ae) (o.Pz (KG p)) (by omega);obtain⟨Z,s',ee⟩:=XF (bH mM (k+9)) h' n' x R4 q1 p ok z xs dn hR (o.Pz (KG p)).ra.1 hq ov rs fr (by omega) [.int (.l a),.int (.l b),.int (.l c),.int (.l p.base_q),.int (.l p.off_q),.int (.l p.w),.bool p.sg,.bool p.il,.bool p.firm,.int (.l p.cC),.int (.l p.cM),.int (.l p.wide_q),.int (.l p.kind_q),.int (.l p.cK),.int (.l p.lw),.bool p.ls,.int (.l p.lk),.bool p.lf,.ref (.g R4),rv (1+Int.fmod p.lk 2),.int (.l ((p.dV.length+1:Nat):Int)),.ref (.g (q+2)),.tup [.int (.l p.base_q),.ref (.g e)],.tup [.int (.l p.base_q),.ref (.g (e+1))],.tup [.int (.l p.cC),.ref (.g (e+2))],kC p.kn,.ref (.g q1),.no,.no,.no,.no] rfl rfl rfl rfl rfl rfl rfl rfl rfl rfl;refine⟨Z,s',?_⟩;refine(iU (mr7 _ B1 (by omega) (by omega) p.cC p.cM ok.cC.1 ok.cC.2 _ rfl rfl rfl)).trans ?_;refine(iU (mr8 _ B2 (by rw[cU,sM];omega) (by omega) p.w p.sg p.il p.firm _ rfl rfl rfl rfl rfl)).trans ?_;refine(iU (e9 _ _ rfl rfl rfl rfl rfl)).trans ?_;refine(iU (abI _ W.hp q p.lk _ rfl _ rfl)).trans ?_;refine(iU (abJ _ W (by omega) (by omega) p.lw p.lk p.ls p.lf _ rfl rfl rfl rfl rfl rfl)).trans ?_;refine(iU (aag (TH p) (abK _ I _ rfl) rfl)).trans ?_;refine(iU (abL _ I.hp (q+2) (I.free _ (ez _)) (by omega) p.cK _ rfl _ rfl)).trans ?_;refine(iU (ab _ rfl rfl)).trans ?_;refine(iU (abO _ K.hp e (K.free _ (ez _)) (by omega) p.base_q p.off_q p.w ok.off_q.1 ok.off_q.2 ok.w _ rfl rfl rfl _ rfl)).trans ?_;refine(iU (abP _ O.hp (e+1) (O.free _ (ez _)) (by omega) p.base_q p.off_q p.lw ok.off_q.1 ok.off_q.2 ok.lw _ rfl rfl rfl _ rfl)).trans ?_;refine(iU (abQ _ S.hp (e+2) (S.free _ (ez _)) (by omega) p.cC p.cM p.wide_q p.kind_q ok.cM.1 ok.cM.2 ok.wide_q _ rfl rfl rfl rfl _ rfl)).trans ?_;refine(iU (abR _ t.hp (e+3) p.sg p.il p.firm _ rfl rfl rfl _ rfl)).trans ?_;refine(iU (EW _ _ rfl rfl rfl rfl rfl rfl rfl)).trans ?_;refine(iU (abT _ o.hp x (q+2) p.base_q p.kind_q p.cK _ ((y (q+2) (by omega)).trans ((bL (by omega)).trans ((bL (by omega)).trans ((bL (by omega)).trans ((o7 (q+2) (by omega) (by omega)).trans (df rfl)))))) _ rfl rfl rfl rfl _ rfl)).trans ?_;refine(iU (aaf (UY p) (abU _ o.hp x (e+1) (e+2) p.base_q p.off_q p.lw p.cC p.cM p.kind_q (bif decide (p.kind_q=3)then 4 else p.wide_q) _ ok.lw U ((y (e+1) (by omega)).trans ((bL (by omega)).trans (df rfl))) ((y (e+2) (by omega)).trans (df rfl)) _ rfl rfl rfl rfl) rfl)).trans ?_;exact(iU (ah _ _ rfl rfl)).trans ee
theorem TJ(k:Nat)(h:Hp)(n:Nat)(a b c:Int)(t:rX h)(o:∀j,n<=j->h.g j=.free)(O:n+50000<bu):∃q,bH mM (k+10) 50 [.int (.l a),.int (.l b),.int (.l c)] ⟨h,n⟩=some (.bool true,q):=by
 have ok:=Xy a b c;obtain⟨x,y,p,z,B,I,o1,S,J⟩:=mr6 h n (k+8) a b (hJ a b c).base_q (hJ a b c).off_q ok.base_q.1 ok.base_q.2 t.t o (by omega) ([.int (.l a),.int (.l b),.int (.l c),.int (.l (hJ a b c).base_q),.int (.l (hJ a b c).off_q),.int (.l (hJ a b c).w),.bool (hJ a b c).sg,.bool (hJ a b c).il,.bool (hJ a b c).firm,.int (.l (hJ a b c).cC),.int (.l (hJ a b c).cM),.int (.l (hJ a b c).wide_q),.int (.l (hJ a b c).kind_q),.int (.l (hJ a b c).cK),.int (.l (hJ a b c).lw),.bool (hJ a b c).ls,.int (.l (hJ a b c).lk),.bool (hJ a b c).lf]++fill 13) rfl rfl rfl rfl;obtain⟨U,q,e⟩:=SI k {h with g:=x} z y p a b c (hJ a b c) ok (t.g x) I (by omega);have K:=(abG (bH mM (k+9)) h n a b c _).trans ((iU (B _ rfl)).trans e);refine⟨q,?_⟩;rw[c50];show ri (cy mM (bH mM (k+9)) xo.bd _ _)=_
 rw[Z8];exact(lu ri K).trans rfl
def oW{α e:Type}(x:R Tw α)(f:α->St Tw->R Tw e):R Tw e:=Option.rec .none (fun p=>Prod.rec (fun a s=>f a s) p) x
theorem rJ{α e:Type}(x:R Tw α)(f:α->St Tw->R Tw e):bO x f=oW x f:=by cases x<;>rfl
def Oo(l:List V):Nat->Option V:=List.rec (fun _=>.none) (fun a _ e i=>Nat.rec (some a) (fun m _=>e m) i) l
theorem Mj:∀(l:List V)(i:Nat),bA l i=Oo l i
 |[],_=>rfl
 |_::_,0=>rfl
 |_::r,i+1=>Mj r i
def AO(l:List V):Nat->V->Option (List V):=List.rec (fun _ _=>.none) (fun a r e i v=>Nat.rec (some (v::r)) (fun m _=>Option.rec .none (fun r=>some (a::r)) (e m v)) i) l
theorem LM:∀(l:List V)(i:Nat)(v:V),bW l i v=AO l i v
 |[],_,_=>rfl
 |_::_,0,_=>rfl
 |a::r,i+1,v=>by
  unfold bW;rw[LM r i v];show _=(Option.rec .none (fun r=>some (a::r)) (AO r i v):Option (List V))
  cases AO r i v<;>rfl
def IE(f:Nat)(l:List (Nat×V)):Option V:=List.rec .none (fun p _ e=>Prod.rec (fun g v=>Bool.rec e (some v) (Nat.beq g f)) p) l
theorem Mk(f:Nat):∀l:List (Nat×V),fld f l=IE f l
 |[]=>rfl
 |(g,v)::r=>by
  show(match Nat.beq g f with|true=>some v|false=>fld f r)=(Bool.rec (IE f r) (some v) (Nat.beq g f):Option V)
  rw[Mk f r];cases Nat.beq g f<;>rfl
section
variable(F:cG)
def kL(i:Nat):X Tw V:=fun l s=>iX (Oo l i) s
theorem aah(i:Nat):(xL i:X Tw V)=kL i:=by funext l s;unfold xL kL;rw[Mj]
def PA(i:Nat)(e:X Tw V):Y Tw:=fun l s=>oW (e l s) fun v s=>Option.rec .none (fun l=>rO l s) (AO l i v)
theorem XG(i:Nat)(e:X Tw V):wG i e=PA i e:=by funext l s;unfold wG PA;rw[rJ];congr 1;funext v s;rw[LM];cases AO l i v<;>rfl
def PB(e:X Tw V)(f:Nat):X Tw V:=fun l s=>oW (e l s) fun v s=>match v with
 |.ref r=>match MP s.h r with|.inst _ fs=>iX (IE f fs) s|_=>.none
 |_=>.none
theorem XH(e:X Tw V)(f:Nat):EG (tw F) e f=PB e f:=by funext l s;unfold EG PB;rw[rJ];congr 1;funext v s;unfold kR;simp only[Mk];rfl
def PC(e i:X Tw V):X Tw V:=fun l s=>oW (e l s) fun v s=>oW (i l s) fun w s=>hQ (tw F) v w s
theorem XI(e i:X Tw V):EH (tw F) e i=PC F e i:=by funext l s;unfold EH PC;simp only[rJ]
def PD(o:Co)(a b:X Tw V):X Tw V:=fun l s=>oW (a l s) fun v s=>oW (b l s) fun w s=>lR (tw F) o v w s
theorem XJ(o:Co)(a b:X Tw V):Bn (tw F) o a b=PD F o a b:=by funext l s;unfold Bn PD;simp only[rJ]
def kK(e:X Tw V)(r:X Tw (List V)):X Tw (List V):=fun l s=>oW (e l s) fun v s=>oW (r l s) fun vs s=>some (v::vs,s)
theorem aai(e:X Tw V)(r:X Tw (List V)):xK e r=kK e r:=by funext l s;unfold xK kK;simp only[rJ]
def PE(es:X Tw (List V)):X Tw V:=fun l s=>oW (es l s) fun vs s=>some (.tup vs,s)
theorem XK(e:X Tw (List V)):EI e=PE e:=by funext l s;unfold EI PE;simp only[rJ]
def PF(C:CH Tw)(f:Nat)(es:X Tw (List V)):X Tw V:=fun l s=>oW (es l s) fun vs s=>C f vs s
theorem XM(C:CH Tw)(f:Nat)(e:X Tw (List V)):EJ C f e=PF C f e:=by funext l s;unfold EJ PF;simp only[rJ]
def kB(e:X Tw V):X Tw Bool:=fun l s=>oW (e l s) fun v s=>qx (tw F) v s
theorem Nw(e:X Tw V):xB (tw F) e=kB F e:=by funext l s;unfold xB kB;simp only[rJ]
def PG(t:X Tw V)(a b:Y Tw):Y Tw:=fun l s=>oW (kB F t l s) fun c s=>Bool.rec (b l s) (a l s) c
theorem XN(t:X Tw V)(a b:Y Tw):EN (tw F) t a b=PG F t a b:=by funext l s;unfold EN PG;simp only[rJ,Nw];congr 1;funext c s;cases c<;>rfl
def PH(e:X Tw V):Y Tw:=fun l s=>oW (e l s) fun _ s=>rO l s
theorem XO(e:X Tw V):EM e=PH e:=by funext l s;unfold EM PH;simp only[rJ]
def PI(e:X Tw V):Y Tw:=fun l s=>oW (e l s) fun v s=>some ((.rt v,l),s)
theorem XP(e:X Tw V):Bp e=PI e:=by funext l s;unfold Bp PI;simp only[rJ]
def kS(a r:Y Tw):Y Tw:=fun l s=>Option.rec .none (fun p=>Prod.rec (fun q s=>Prod.rec (fun f l=>Fl.rec (r l s) (some ((.cn,l),s)) (fun v=>some ((.rt v,l),s)) f) q) p) (a l s)
theorem aaj(a r:Y Tw):yK a r=kS a r:=by funext l s;unfold yK kS;cases a l s with|none=>rfl|some p=>obtain⟨⟨f,l⟩,s⟩:=p;cases f<;>rfl
end
abbrev CT:=CH Tw
local macro_rules |`(tactic|walk_at "k55")=>`(tactic|simp only [cy,eJ,b9,dA,IL,AR,AS,tY,pP,aah,XG,XH,XI,XJ,aai,XK,XM,Nw,XN,XO,XP,aaj])
def k0(F:cG)(C:CT):{y:Y Tw // cy (tw F) C DN.bd=y}:=⟨_,by simp only[DN];walk_at "k55";rfl⟩
def k1(F:cG)(C:CT):{y:Y Tw // cy (tw F) C vy.bd=y}:=⟨_,by simp only[vy];walk_at "k55";rfl⟩
def k2(F:cG)(C:CT):{y:Y Tw // cy (tw F) C xt.bd=y}:=⟨_,by simp only[xt];walk_at "k55";rfl⟩
def k3(F:cG)(C:CT):{y:Y Tw // cy (tw F) C xu.bd=y}:=⟨_,by simp only[xu];walk_at "k55";rfl⟩
def k4(F:cG)(C:CT):{y:Y Tw // cy (tw F) C zm.bd=y}:=⟨_,by simp only[zm];walk_at "k55";rfl⟩
def k5(F:cG)(C:CT):{y:Y Tw // cy (tw F) C Dc.bd=y}:=⟨_,by simp only[Dc];walk_at "k55";rfl⟩
def k6(F:cG)(C:CT):{y:Y Tw // cy (tw F) C zo.bd=y}:=⟨_,by simp only[zo];walk_at "k55";rfl⟩
def k7(F:cG)(C:CT):{y:Y Tw // cy (tw F) C zO.bd=y}:=⟨_,by simp only[zO];walk_at "k55";rfl⟩
def k8(F:cG)(C:CT):{y:Y Tw // cy (tw F) C CB.bd=y}:=⟨_,by simp only[CB];walk_at "k55";rfl⟩
def k9(F:cG)(C:CT):{y:Y Tw // cy (tw F) C CE.bd=y}:=⟨_,by simp only[CE];walk_at "k55";rfl⟩
def PJ(F:cG)(C:CT):{y:Y Tw // cy (tw F) C CC.bd=y}:=⟨_,by simp only[CC];walk_at "k55";rfl⟩
def PK(F:cG)(C:CT):{y:Y Tw // cy (tw F) C zI.bd=y}:=⟨_,by simp only[zI];walk_at "k55";rfl⟩
def PL(F:cG)(C:CT):{y:Y Tw // cy (tw F) C CG.bd=y}:=⟨_,by simp only[CG];walk_at "k55";rfl⟩
def PM(F:cG)(C:CT):{y:Y Tw // cy (tw F) C zp.bd=y}:=⟨_,by simp only[zp];walk_at "k55";rfl⟩
def PN(F:cG)(C:CT):{y:Y Tw // cy (tw F) C Cr.bd=y}:=⟨_,by simp only[Cr];walk_at "k55";rfl⟩
def PO(F:cG)(C:CT):{y:Y Tw // cy (tw F) C CY.bd=y}:=⟨_,by simp only[CY];walk_at "k55";rfl⟩
def PQ(F:cG)(C:CT):{y:Y Tw // cy (tw F) C Cy.bd=y}:=⟨_,by simp only[Cy];walk_at "k55";rfl⟩
def PR(F:cG)(C:CT):{y:Y Tw // cy (tw F) C zq.bd=y}:=⟨_,by simp only[zq];walk_at "k55";rfl⟩
def PS(F:cG)(C:CT):{y:Y Tw // cy (tw F) C zt.bd=y}:=⟨_,by simp only[zt];walk_at "k55";rfl⟩
def PT(F:cG)(C:CT):{y:Y Tw // cy (tw F) C zr.bd=y}:=⟨_,by simp only[zr];walk_at "k55";rfl⟩
def PU(F:cG)(C:CT):{y:Y Tw // cy (tw F) C zh.bd=y}:=⟨_,by simp only[zh];walk_at "k55";rfl⟩
def PV(F:cG)(C:CT):{y:Y Tw // cy (tw F) C vw.bd=y}:=⟨_,by simp only[vw];walk_at "k55";rfl⟩
def PW(F:cG)(C:CT):{y:Y Tw // cy (tw F) C zi.bd=y}:=⟨_,by simp only[zi];walk_at "k55";rfl⟩
def PX(F:cG)(C:CT):{y:Y Tw // cy (tw F) C Cn.bd=y}:=⟨_,by simp only[Cn];walk_at "k55";rfl⟩
def PY(F:cG)(C:CT):{y:Y Tw // cy (tw F) C zg.bd=y}:=⟨_,by simp only[zg];walk_at "k55";rfl⟩
def PZ(F:cG)(C:CT):{y:Y Tw // cy (tw F) C xn.bd=y}:=⟨_,by simp only[xn];walk_at "k55";rfl⟩
def P0(F:cG)(C:CT):{y:Y Tw // cy (tw F) C vu.bd=y}:=⟨_,by simp only[vu];walk_at "k55";rfl⟩
def P4(F:cG)(C:CT):{y:Y Tw // cy (tw F) C xp.bd=y}:=⟨_,by simp only[xp];walk_at "k55";rfl⟩
def P5(F:cG)(C:CT):{y:Y Tw // cy (tw F) C vr.bd=y}:=⟨_,by simp only[vr];walk_at "k55";rfl⟩
def P7(F:cG)(C:CT):{y:Y Tw // cy (tw F) C xq.bd=y}:=⟨_,by simp only[xq];walk_at "k55";rfl⟩
def P8(F:cG)(C:CT):{y:Y Tw // cy (tw F) C Cs.bd=y}:=⟨_,by simp only[Cs];walk_at "k55";rfl⟩
def P9(F:cG)(C:CT):{y:Y Tw // cy (tw F) C zf.bd=y}:=⟨_,by simp only[zf];walk_at "k55";rfl⟩
def Qa(F:cG)(C:CT):{y:Y Tw // cy (tw F) C um.bd=y}:=⟨_,by simp only[um];walk_at "k55";rfl⟩
def Qb(F:cG)(C:CT):{y:Y Tw // cy (tw F) C pC.bd=y}:=⟨_,by simp only[pC];walk_at "k55";rfl⟩
def Qc(F:cG)(C:CT):{y:Y Tw // cy (tw F) C sA.bd=y}:=⟨_,by simp only[sA];walk_at "k55";rfl⟩
def Qd(F:cG)(C:CT):{y:Y Tw // cy (tw F) C uo.bd=y}:=⟨_,by simp only[uo];walk_at "k55";rfl⟩
def Qe(F:cG)(C:CT):{y:Y Tw // cy (tw F) C Cg.bd=y}:=⟨_,by simp only[Cg];walk_at "k55";rfl⟩
def Qf(F:cG)(C:CT):{y:Y Tw // cy (tw F) C Ci.bd=y}:=⟨_,by simp only[Ci];walk_at "k55";rfl⟩
def Qg(F:cG)(C:CT):{y:Y Tw // cy (tw F) C vt.bd=y}:=⟨_,by simp only[vt];walk_at "k55";rfl⟩
def Qh(F:cG)(C:CT):{y:Y Tw // cy (tw F) C Cp.bd=y}:=⟨_,by simp only[Cp];walk_at "k55";rfl⟩
def Qi(F:cG)(C:CT):{y:Y Tw // cy (tw F) C Cj.bd=y}:=⟨_,by simp only[Cj];walk_at "k55";rfl⟩
def Qj(F:cG)(C:CT):{y:Y Tw // cy (tw F) C Cm.bd=y}:=⟨_,by simp only[Cm];walk_at "k55";rfl⟩
def Qk(F:cG)(C:CT):{y:Y Tw // cy (tw F) C Ct.bd=y}:=⟨_,by simp only[Ct];walk_at "k55";rfl⟩
def Ql(F:cG)(C:CT):{y:Y Tw // cy (tw F) C CI.bd=y}:=⟨_,by simp only[CI];walk_at "k55";rfl⟩
def Qm(F:cG)(C:CT):{y:Y Tw // cy (tw F) C Cz.bd=y}:=⟨_,by simp only[Cz];walk_at "k55";rfl⟩
def Qn(F:cG)(C:CT):{y:Y Tw // cy (tw F) C zj.bd=y}:=⟨_,by simp only[zj];walk_at "k55";rfl⟩
def Qo(F:cG)(C:CT):{y:Y Tw // cy (tw F) C xr.bd=y}:=⟨_,by simp only[xr];walk_at "k55";rfl⟩
def Qp(F:cG)(C:CT):{y:Y Tw // cy (tw F) C zx.bd=y}:=⟨_,by simp only[zx];walk_at "k55";rfl⟩
def Qq(F:cG)(C:CT):{y:Y Tw // cy (tw F) C xv.bd=y}:=⟨_,by simp only[xv];walk_at "k55";rfl⟩
def Qr(F:cG)(C:CT):{y:Y Tw // cy (tw F) C zk.bd=y}:=⟨_,by simp only[zk];walk_at "k55";rfl⟩
def Qs(F:cG)(C:CT):{y:Y Tw // cy (tw F) C xo.bd=y}:=⟨_,by simp only[xo];walk_at "k55";rfl⟩
def Qt(F:cG)(C:CT):{y:Y Tw // cy (tw F) C Cw.bd=y}:=⟨_,by simp only[Cw];walk_at "k55";rfl⟩
def Qu(F:cG)(C:CT):{y:Y Tw // cy (tw F) C Cu.bd=y}:=⟨_,by simp only[Cu];walk_at "k55";rfl⟩
def Qv(F:cG)(C:CT):{y:Y Tw // cy (tw F) C Cv.bd=y}:=⟨_,by simp only[Cv];walk_at "k55";rfl⟩
def Qw(F:cG)(C:CT):{y:Y Tw // cy (tw F) C Cq.bd=y}:=⟨_,by simp only[Cq];walk_at "k55";rfl⟩
def Qx(F:cG)(C:CT):{y:Y Tw // cy (tw F) C uF.bd=y}:=⟨_,by simp only[uF];walk_at "k55";rfl⟩
def eu(a:Nat)(f:List V)(y:Y Tw)(as:List V)(s:St Tw):R Tw V:=bif Nat.beq as.length a then ri (y (as++f) s)else .none
def kD(F:cG)(C:CT)(f:Nat):List V->St Tw->R Tw V:=Bool.rec (fun _ _=>.none) (Bool.rec (Bool.rec (Bool.rec (Bool.rec (Bool.rec (Bool.rec (eu 1 [.no,.no,.no,.no,.no,.no,.no] (Qx F C).1) (eu 2 [.no,.no,.no,.no,.no,.no,.no] (Qw F C).1) (Nat.blt f 55)) (Bool.rec (eu 2 [.no,.no,.no,.no,.no,.no,.no,.no,.no,.no,.no,.no,.no,.no] (Qv F C).1) (eu 2 [.no,.no,.no,.no,.no,.no,.no,.no] (Qu F C).1) (Nat.blt f 53)) (Nat.blt f 54)) (Bool.rec (Bool.rec (eu 2 [.no,.no,.no,.no,.no] (Qt F C).1) (eu 3 [.no,.no,.no,.no,.no,.no,.no,.no,.no,.no,.no,.no,.no,.no,.no,.no,.no,.no,.no,.no,.no,.no,.no,.no,.no,.no,.no,.no] (Qs F C).1) (Nat.blt f 51)) (eu 4 [] (Qr F C).1) (Nat.blt f 50)) (Nat.blt f 52)) (Bool.rec (Bool.rec (Bool.rec (eu 3 [.no,.no,.no] (Qq F C).1) (eu 4 [.no] (Qp F C).1) (Nat.blt f 48)) (Bool.rec (eu 1 [.no,.no,.no,.no,.no,.no,.no,.no,.no,.no,.no,.no,.no] (Qo F C).1) (eu 1 [.no] (Qn F C).1) (Nat.blt f 46)) (Nat.blt f 47)) (Bool.rec (Bool.rec (eu 2 [.no,.no,.no,.no,.no,.no,.no,.no,.no,.no] (Qm F C).1) (eu 3 [] (Ql F C).1) (Nat.blt f 44)) (eu 4 [] (Qk F C).1) (Nat.blt f 43)) (Nat.blt f 45)) (Nat.blt f 49)) (Bool.rec (Bool.rec (Bool.rec (Bool.rec (eu 3 [.no,.no,.no,.no,.no,.no,.no,.no] (Qj F C).1) (eu 2 [.no,.no,.no,.no] (Qi F C).1) (Nat.blt f 41)) (Bool.rec (eu 2 [.no,.no,.no,.no,.no] (Qh F C).1) (eu 4 [.no,.no,.no,.no] (Qg F C).1) (Nat.blt f 39)) (Nat.blt f 40)) (Bool.rec (Bool.rec (eu 1 [.no,.no] (Qf F C).1) (eu 2 [.no] (Qe F C).1) (Nat.blt f 37)) (eu 3 [.no,.no,.no,.no,.no,.no,.no,.no,.no] (Qd F C).1) (Nat.blt f 36)) (Nat.blt f 38)) (Bool.rec (Bool.rec (Bool.rec (eu 3 [.no] (Qc F C).1) (eu 4 [.no,.no] (Qb F C).1) (Nat.blt f 34)) (Bool.rec (eu 5 [.no,.no] (Qa F C).1) (eu 2 [] (P9 F C).1) (Nat.blt f 32)) (Nat.blt f 33)) (Bool.rec (Bool.rec (eu 2 [.no,.no,.no,.no,.no] (P8 F C).1) (eu 3 [] (P7 F C).1) (Nat.blt f 30)) (eu 2 [] (P5 F C).1) (Nat.blt f 29)) (Nat.blt f 31)) (Nat.blt f 35)) (Nat.blt f 42)) (Bool.rec (Bool.rec (Bool.rec (Bool.rec (Bool.rec (eu 3 [] (P4 F C).1) (eu 2 [] (P0 F C).1) (Nat.blt f 27)) (Bool.rec (eu 2 [.no] (PZ F C).1) (eu 1 [] (PY F C).1) (Nat.blt f 25)) (Nat.blt f 26)) (Bool.rec (Bool.rec (eu 2 [.no,.no,.no] (PX F C).1) (eu 3 [] (PW F C).1) (Nat.blt f 23)) (eu 4 [] (PV F C).1) (Nat.blt f 22)) (Nat.blt f 24)) (Bool.rec (Bool.rec (Bool.rec (eu 2 [] (PU F C).1) (eu 3 [] (PT F C).1) (Nat.blt f 20)) (Bool.rec (eu 4 [.no,.no,.no] (PS F C).1) (eu 2 [.no,.no,.no] (PR F C).1) (Nat.blt f 18)) (Nat.blt f 19)) (Bool.rec (Bool.rec (eu 2 [.no,.no,.no,.no,.no] (PQ F C).1) (eu 3 [.no] (PO F C).1) (Nat.blt f 16)) (eu 2 [.no,.no,.no,.no] (PN F C).1) (Nat.blt f 15)) (Nat.blt f 17)) (Nat.blt f 21)) (Bool.rec (Bool.rec (Bool.rec (Bool.rec (eu 2 [] (PM F C).1) (eu 1 [.no,.no,.no,.no,.no] (PL F C).1) (Nat.blt f 13)) (Bool.rec (eu 1 [] (PK F C).1) (eu 1 [.no,.no,.no,.no] (PJ F C).1) (Nat.blt f 11)) (Nat.blt f 12)) (Bool.rec (Bool.rec (eu 1 [.no,.no,.no,.no,.no,.no,.no,.no,.no] (k9 F C).1) (eu 4 [] (k8 F C).1) (Nat.blt f 9)) (eu 1 [] (k7 F C).1) (Nat.blt f 8)) (Nat.blt f 10)) (Bool.rec (Bool.rec (Bool.rec (eu 1 [.no,.no,.no,.no,.no] (k6 F C).1) (eu 1 [.no,.no,.no,.no] (k5 F C).1) (Nat.blt f 6)) (Bool.rec (eu 1 [.no] (k4 F C).1) (eu 2 [] (k3 F C).1) (Nat.blt f 4)) (Nat.blt f 5)) (Bool.rec (Bool.rec (eu 2 [] (k2 F C).1) (eu 5 [] (k1 F C).1) (Nat.blt f 2)) (eu 1 [] (k0 F C).1) (Nat.blt f 1)) (Nat.blt f 3)) (Nat.blt f 7)) (Nat.blt f 14)) (Nat.blt f 28)) (Nat.blt f 56)
def HX(F:cG)(n:Nat):CT:=Nat.rec (fun _ _ _=>.none) (fun _ e=>kD F e) n
theorem ey(F:cG)(C:CT)(d:Fd){y:Y Tw}(h:cy (tw F) C d.bd=y)(as:List V)(s:St Tw):enter (tw F) C d as s=eu d.ar (fill (d.nl-d.ar)) y as s:=by rw[←h];rfl
theorem Wb(F:cG)(C:CT)(f:Nat)(h:Nat.blt f 56=false)(as:List V)(s:St Tw):kD F C f as s=.none:=by unfold kD;rw[h]
theorem aak(F:cG)(C:CT):∀(f:Nat)(as:List V)(s:St Tw),(match prog.fn f with|.none=>.none|some d=>enter (tw F) C d as s)=kD F C f as s
 |0,as,s=>ey F C DN (k0 F C).2 as s
 |1,as,s=>ey F C vy (k1 F C).2 as s
 |2,as,s=>ey F C xt (k2 F C).2 as s
 |3,as,s=>ey F C xu (k3 F C).2 as s
 |4,as,s=>ey F C zm (k4 F C).2 as s
 |5,as,s=>ey F C Dc (k5 F C).2 as s
 |6,as,s=>ey F C zo (k6 F C).2 as s
 |7,as,s=>ey F C zO (k7 F C).2 as s
 |8,as,s=>ey F C CB (k8 F C).2 as s
 |9,as,s=>ey F C CE (k9 F C).2 as s
 |10,as,s=>ey F C CC (PJ F C).2 as s
 |11,as,s=>ey F C zI (PK F C).2 as s
 |12,as,s=>ey F C CG (PL F C).2 as s
 |13,as,s=>ey F C zp (PM F C).2 as s
 |14,as,s=>ey F C Cr (PN F C).2 as s
 |15,as,s=>ey F C CY (PO F C).2 as s
 |16,as,s=>ey F C Cy (PQ F C).2 as s
 |17,as,s=>ey F C zq (PR F C).2 as s
 |18,as,s=>ey F C zt (PS F C).2 as s
 |19,as,s=>ey F C zr (PT F C).2 as s
 |20,as,s=>ey F C zh (PU F C).2 as s
 |21,as,s=>ey F C vw (PV F C).2 as s
 |22,as,s=>ey F C zi (PW F C).2 as s
 |23,as,s=>ey F C Cn (PX F C).2 as s
 |24,as,s=>ey F C zg (PY F C).2 as s
 |25,as,s=>ey F C xn (PZ F C).2 as s
 |26,as,s=>ey F C vu (P0 F C).2 as s
 |27,as,s=>ey F C xp (P4 F C).2 as s
 |28,as,s=>ey F C vr (P5 F C).2 as s
 |29,as,s=>ey F C xq (P7 F C).2 as s
 |30,as,s=>ey F C Cs (P8 F C).2 as s
 |31,as,s=>ey F C zf (P9 F C).2 as s
 |32,as,s=>ey F C um (Qa F C).2 as s
 |33,as,s=>ey F C pC (Qb F C).2 as s
 |34,as,s=>ey F C sA (Qc F C).2 as s
 |35,as,s=>ey F C uo (Qd F C).2 as s
 |36,as,s=>ey F C Cg (Qe F C).2 as s
 |37,as,s=>ey F C Ci (Qf F C).2 as s
 |38,as,s=>ey F C vt (Qg F C).2 as s
 |39,as,s=>ey F C Cp (Qh F C).2 as s
 |40,as,s=>ey F C Cj (Qi F C).2 as s
 |41,as,s=>ey F C Cm (Qj F C).2 as s
 |42,as,s=>ey F C Ct (Qk F C).2 as s
 |43,as,s=>ey F C CI (Ql F C).2 as s
 |44,as,s=>ey F C Cz (Qm F C).2 as s
 |45,as,s=>ey F C zj (Qn F C).2 as s
 |46,as,s=>ey F C xr (Qo F C).2 as s
 |47,as,s=>ey F C zx (Qp F C).2 as s
 |48,as,s=>ey F C xv (Qq F C).2 as s
 |49,as,s=>ey F C zk (Qr F C).2 as s
 |50,as,s=>ey F C xo (Qs F C).2 as s
 |51,as,s=>ey F C Cw (Qt F C).2 as s
 |52,as,s=>ey F C Cu (Qu F C).2 as s
 |53,as,s=>ey F C Cv (Qv F C).2 as s
 |54,as,s=>ey F C Cq (Qw F C).2 as s
 |55,as,s=>ey F C uF (Qx F C).2 as s
 |n+56,as,s=>by rw[Wb F C (n+56) (by cases h:Nat.blt (n+56) 56 with|false=>rfl|true=>have:=zW h;omega)];have:prog.fn (n+56)=.none:=rfl;rw[this]
theorem LN(F:cG):∀n:Nat,bH (tw F) n=HX F n
 |0=>rfl
 |n+1=>by
  funext f as s;show(match prog.fn f with|.none=>.none|some d=>enter (tw F) (bH (tw F) n) d as s)=kD F (HX F n) f as s
  rw[LN F n,aak]
def Jn(x:R Tw V):Bool:=match x with
 |some (.bool b,_)=>b
 |_=>false
theorem UZ{x:R Tw V}(h:Jn x=true):∃s,x=some (.bool true,s):=by
 unfold Jn at h;split at h
 ·subst h;exact⟨_,rfl⟩
 ·cases h
structure Cl where
 pick:Z
 lo:Int
 hi:Int
 gr:List (Int×Nat)
def fk(c:Nat):Cl:=match c with
 |0=>⟨.l 0,0,24,[(0,5)]⟩
 |1=>⟨.y 6 0,2,16,[(2,33),(7,34),(8,35),(9,36),(15,37),(16,38)]⟩
 |2=>⟨.y 6 0,1,14,[(1,39),(3,40),(4,41),(5,42),(6,43),(10,44),(11,45),(12,46),(13,47),(14,48)]⟩
 |3=>⟨.y 6 0,17,22,[(17,49),(18,50),(19,14),(20,15),(21,16),(22,17)]⟩
 |4=>⟨.l 23,0,24,[(23,4)]⟩
 |_=>⟨.l 24,0,24,[(24,3)]⟩
def yH(c:Cl)(o:Z)(e j:Int):cG:=⟨fun k=>bif Nat.blt k 1000 then[k]else c.gr.map (·.2),fun k=>match k with|6=>c.lo|_=>0,fun k=>match k with|4=>4|6=>c.hi|_=>2147483646,
 [(1,.y 0 0,.l 25,c.pick),(0,.y 0 0,.l 25,.y 2 0),(1,.y 2 0,.l 2,o),(1,.y 1 0,.l 2,.l e),(0,.y 1 0,.l 2,.y 3 0),(1,.y 3 0,.l 5,.y 4 0),(0,.y 1 0,.l 16,.y 5 0),(1,.y 5 0,.l 4,.l j),(1,.y 4 3,.l 4294967296,.y 4 3)],[(6,1000,c.gr)]⟩
def yI(kind:Int)(j:Z):cG:=⟨fun k=>bif Nat.blt k 1000 then[k]else[0],fun k=>match k with|3=>1|_=>0,fun k=>match k with|3=>2|4=>999|_=>2147483646,
 [(1,.y 0 0,.l 5,.l kind),(0,.y 0 0,.l 5,.y 2 0),(1,.y 2 0,.l 3,j),(1,.y 1 0,.l 1000,.y 4 0)],[]⟩
def yJ(j:Int)(z:Z):cG:=⟨fun k=>bif Nat.blt k 1000 then[k]else[0],fun k=>match k with|2=>1|_=>0,fun k=>match k with|2=>4999|_=>2147483646,
 [(1,.y 0 0,.l 2,.l j),(1,.y 1 0,.l 5000,z)],[]⟩
def rn(F:cG)(f:Nat):Bool:=Jn (HX F 12 f [.int (.y 0 0),.int (.y 1 0)] start)
def rt(c b t w:Nat):Bool:=rn (yH (fk c) (match b with|0=>.l 0|1=>.l 1|_=>.y 7 0) t w) 52
def re(k j:Nat):Bool:=rn (yI k (match j with|0=>.l 0|_=>.y 3 0)) 53
def rc(j z:Nat):Bool:=rn (yJ j (match z with|0=>.l 0|_=>.y 2 0)) 54
theorem XQ:rt 0 0 0 0=true:=by decide+kernel
theorem XR:rt 0 0 0 1=true:=by decide+kernel
theorem XS:rt 0 0 0 2=true:=by decide+kernel
theorem XT:rt 0 0 0 3=true:=by decide+kernel
theorem XU:rt 0 0 1 0=true:=by decide+kernel
theorem XW:rt 0 0 1 1=true:=by decide+kernel
theorem XX:rt 0 0 1 2=true:=by decide+kernel
theorem XY:rt 0 0 1 3=true:=by decide+kernel
theorem acb:∀t w,t<2->w<4->rt 0 0 t w=true
 |0,0,_,_=>XQ
 |0,1,_,_=>XR
 |0,2,_,_=>XS
 |0,3,_,_=>XT
 |1,0,_,_=>XU
 |1,1,_,_=>XW
 |1,2,_,_=>XX
 |1,3,_,_=>XY
 |0,_+4,_,h=>by omega
 |1,_+4,_,h=>by omega
 |_+2,_,h,_=>by omega
theorem XZ:rt 0 1 0 0=true:=by decide+kernel
theorem X0:rt 0 1 0 1=true:=by decide+kernel
theorem X1:rt 0 1 0 2=true:=by decide+kernel
theorem X2:rt 0 1 0 3=true:=by decide+kernel
theorem X3:rt 0 1 1 0=true:=by decide+kernel
theorem X4:rt 0 1 1 1=true:=by decide+kernel
theorem X5:rt 0 1 1 2=true:=by decide+kernel
theorem X6:rt 0 1 1 3=true:=by decide+kernel
theorem acd:∀t w,t<2->w<4->rt 0 1 t w=true
 |0,0,_,_=>XZ
 |0,1,_,_=>X0
 |0,2,_,_=>X1
 |0,3,_,_=>X2
 |1,0,_,_=>X3
 |1,1,_,_=>X4
 |1,2,_,_=>X5
 |1,3,_,_=>X6
 |0,_+4,_,h=>by omega
 |1,_+4,_,h=>by omega
 |_+2,_,h,_=>by omega
theorem X7:rt 1 0 0 0=true:=by decide+kernel
theorem X8:rt 1 0 0 1=true:=by decide+kernel
theorem X9:rt 1 0 0 2=true:=by decide+kernel
theorem Ya:rt 1 0 0 3=true:=by decide+kernel
theorem Yb:rt 1 0 1 0=true:=by decide+kernel
theorem Yc:rt 1 0 1 1=true:=by decide+kernel
theorem Yd:rt 1 0 1 2=true:=by decide+kernel
theorem Ye:rt 1 0 1 3=true:=by decide+kernel
theorem ace:∀t w,t<2->w<4->rt 1 0 t w=true
 |0,0,_,_=>X7
 |0,1,_,_=>X8
 |0,2,_,_=>X9
 |0,3,_,_=>Ya
 |1,0,_,_=>Yb
 |1,1,_,_=>Yc
 |1,2,_,_=>Yd
 |1,3,_,_=>Ye
 |0,_+4,_,h=>by omega
 |1,_+4,_,h=>by omega
 |_+2,_,h,_=>by omega
theorem Yf:rt 1 1 0 0=true:=by decide+kernel
theorem Yg:rt 1 1 0 1=true:=by decide+kernel
theorem Yh:rt 1 1 0 2=true:=by decide+kernel
theorem Yi:rt 1 1 0 3=true:=by decide+kernel
theorem Yj:rt 1 1 1 0=true:=by decide+kernel
theorem Yk:rt 1 1 1 1=true:=by decide+kernel
theorem Yl:rt 1 1 1 2=true:=by decide+kernel
theorem Ym:rt 1 1 1 3=true:=by decide+kernel
theorem acf:∀t w,t<2->w<4->rt 1 1 t w=true
 |0,0,_,_=>Yf
 |0,1,_,_=>Yg
 |0,2,_,_=>Yh
 |0,3,_,_=>Yi
 |1,0,_,_=>Yj
 |1,1,_,_=>Yk
 |1,2,_,_=>Yl
 |1,3,_,_=>Ym
 |0,_+4,_,h=>by omega
 |1,_+4,_,h=>by omega
 |_+2,_,h,_=>by omega
theorem Yn:rt 2 0 0 0=true:=by decide+kernel
theorem Yo:rt 2 0 0 1=true:=by decide+kernel
theorem Yp:rt 2 0 0 2=true:=by decide+kernel
theorem Yq:rt 2 0 0 3=true:=by decide+kernel
theorem Yr:rt 2 0 1 0=true:=by decide+kernel
theorem Ys:rt 2 0 1 1=true:=by decide+kernel
theorem Yt:rt 2 0 1 2=true:=by decide+kernel
theorem Yu:rt 2 0 1 3=true:=by decide+kernel
theorem acg:∀t w,t<2->w<4->rt 2 0 t w=true
 |0,0,_,_=>Yn
 |0,1,_,_=>Yo
 |0,2,_,_=>Yp
 |0,3,_,_=>Yq
 |1,0,_,_=>Yr
 |1,1,_,_=>Ys
 |1,2,_,_=>Yt
 |1,3,_,_=>Yu
 |0,_+4,_,h=>by omega
 |1,_+4,_,h=>by omega
 |_+2,_,h,_=>by omega
theorem Yv:rt 2 1 0 0=true:=by decide+kernel
theorem Yw:rt 2 1 0 1=true:=by decide+kernel
theorem Yx:rt 2 1 0 2=true:=by decide+kernel
theorem Yy:rt 2 1 0 3=true:=by decide+kernel
theorem Yz:rt 2 1 1 0=true:=by decide+kernel
theorem YA:rt 2 1 1 1=true:=by decide+kernel
theorem YB:rt 2 1 1 2=true:=by decide+kernel
theorem YC:rt 2 1 1 3=true:=by decide+kernel
theorem ach:∀t w,t<2->w<4->rt 2 1 t w=true
 |0,0,_,_=>Yv
 |0,1,_,_=>Yw
 |0,2,_,_=>Yx
 |0,3,_,_=>Yy
 |1,0,_,_=>Yz
 |1,1,_,_=>YA
 |1,2,_,_=>YB
 |1,3,_,_=>YC
 |0,_+4,_,h=>by omega
 |1,_+4,_,h=>by omega
 |_+2,_,h,_=>by omega
theorem YD:rt 3 2 0 0=true:=by decide+kernel
theorem YE:rt 3 2 0 1=true:=by decide+kernel
theorem YF:rt 3 2 0 2=true:=by decide+kernel
theorem YG:rt 3 2 0 3=true:=by decide+kernel
theorem YH:rt 3 2 1 0=true:=by decide+kernel
theorem YI:rt 3 2 1 1=true:=by decide+kernel
theorem YJ:rt 3 2 1 2=true:=by decide+kernel
theorem YK:rt 3 2 1 3=true:=by decide+kernel
theorem aci:∀t w,t<2->w<4->rt 3 2 t w=true
 |0,0,_,_=>YD
 |0,1,_,_=>YE
 |0,2,_,_=>YF
 |0,3,_,_=>YG
 |1,0,_,_=>YH
 |1,1,_,_=>YI
 |1,2,_,_=>YJ
 |1,3,_,_=>YK
 |0,_+4,_,h=>by omega
 |1,_+4,_,h=>by omega
 |_+2,_,h,_=>by omega
theorem YL:rt 4 2 0 0=true:=by decide+kernel
theorem YM:rt 4 2 0 1=true:=by decide+kernel
theorem YN:rt 4 2 0 2=true:=by decide+kernel
theorem YO:rt 4 2 0 3=true:=by decide+kernel
theorem YP:rt 4 2 1 0=true:=by decide+kernel
theorem YQ:rt 4 2 1 1=true:=by decide+kernel
theorem YR:rt 4 2 1 2=true:=by decide+kernel
theorem YS:rt 4 2 1 3=true:=by decide+kernel
theorem acj:∀t w,t<2->w<4->rt 4 2 t w=true
 |0,0,_,_=>YL
 |0,1,_,_=>YM
 |0,2,_,_=>YN
 |0,3,_,_=>YO
 |1,0,_,_=>YP
 |1,1,_,_=>YQ
 |1,2,_,_=>YR
 |1,3,_,_=>YS
 |0,_+4,_,h=>by omega
 |1,_+4,_,h=>by omega
 |_+2,_,h,_=>by omega
theorem YT:rt 5 2 0 0=true:=by decide+kernel
theorem YU:rt 5 2 0 1=true:=by decide+kernel
theorem YV:rt 5 2 0 2=true:=by decide+kernel
theorem YW:rt 5 2 0 3=true:=by decide+kernel
theorem YX:rt 5 2 1 0=true:=by decide+kernel
theorem YY:rt 5 2 1 1=true:=by decide+kernel
theorem YZ:rt 5 2 1 2=true:=by decide+kernel
theorem Y0:rt 5 2 1 3=true:=by decide+kernel
theorem ack:∀t w,t<2->w<4->rt 5 2 t w=true
 |0,0,_,_=>YT
 |0,1,_,_=>YU
 |0,2,_,_=>YV
 |0,3,_,_=>YW
 |1,0,_,_=>YX
 |1,1,_,_=>YY
 |1,2,_,_=>YZ
 |1,3,_,_=>Y0
 |0,_+4,_,h=>by omega
 |1,_+4,_,h=>by omega
 |_+2,_,h,_=>by omega
theorem acm:re 0 0=true:=by decide+kernel
theorem acn:re 0 1=true:=by decide+kernel
theorem aco:re 1 0=true:=by decide+kernel
theorem acp:re 1 1=true:=by decide+kernel
theorem acq:re 2 0=true:=by decide+kernel
theorem acr:re 2 1=true:=by decide+kernel
theorem acs:re 3 0=true:=by decide+kernel
theorem acu:re 3 1=true:=by decide+kernel
theorem acv:re 4 0=true:=by decide+kernel
theorem acw:re 4 1=true:=by decide+kernel
theorem acx:rc 0 0=true:=by decide+kernel
theorem acy:rc 0 1=true:=by decide+kernel
theorem acz:rc 1 0=true:=by decide+kernel
theorem acA:rc 1 1=true:=by decide+kernel
section
open PySem PySem.W PySem.Calls PyProof.Rows
def hN(s:Nat):Nat->Str:=fun _=>(ml[s]?).getD ""
theorem Wc{s:Nat}(hs:s<51):word (hN s) s=(ml[s]?).getD "":=by cases p:ml[s]? with|none=>have:=xY.mp p;rw[Hm]at this;omega|some t=>rw[zL _ p];rfl
theorem LO{s k:Nat}(hs:s<51)(hk:1000<=k):word (hN s) k=word (hN s) s:=by
 rw[Wc hs];have p:ml[k]?=none:=xU (by rw[Hm];omega);unfold word;rw[p];have:Nat.blt k 1000=false:=by cases q:Nat.blt k 1000 with|false=>rfl|true=>have:=zW q;omega
 rw[this];rfl
theorem DC{s:Nat}(hs:s<51)(k:Nat):PyData.strOk (hN s k)=true:=by
 show PyData.strOk ((ml[s]?).getD "")=true
 cases p:ml[s]? with|none=>have:=xY.mp p;rw[Hm]at this;omega|some t=>unfold PyData.strOk;rw[Array.all_eq_true'];intro x e;have:=Df p x e;simp;omega
theorem DD{s:Nat}(hs:s<51){cl:Nat->List Nat}{l:List Nat}(e:∀k,cl k=bif Nat.blt k 1000 then[k]else l)(hl:s∈l)(a:Nat):∃i∈cl a,i<1000/\word (hN s) a=word (hN s) i:=by
 rw[e];cases q:Nat.blt a 1000 with
 |true=>exact⟨a,kP.mpr rfl,zW q,rfl⟩
 |false=>
  have:1000<=a:=by
   by_cases h:a<1000
   ·rw[show Nat.blt a 1000=true from Am h]at q;cases q
   ·omega
  exact⟨s,hl,by omega,LO hs this⟩
theorem Oq{a b:Z}(h:a.beq b=true):a=b:=by
 cases a<;>cases b<;>simp only[Z.beq,cY,dM]at h<;>first|(cases h;done)|skip
 ·rw[h]
 ·rw[gc.mp h.1,h.2]
def Good(N:Nm)(e:Nat×Z×Z×Z):Prop:=e.2.2.1.val N≠0/\(e.1=0->Int.fdiv (e.2.1.val N) (e.2.2.1.val N)=e.2.2.2.val N)/\(e.1=1->Int.fmod (e.2.1.val N) (e.2.2.1.val N)=e.2.2.2.val N)
theorem CX{F:cG}{N:Nm}:∀{l:List (Nat×Z×Z×Z)}(_:∀e∈l,Good N e){o:Nat}{a b r:Z},F.fact o a b l=some r->Good N (o,a,b,r)
 |[],_,_,_,_,_,h=>by cases h
 |(o',j,q,y)::t,hl,o,a,b,r,h=>by unfold cG.fact at h;cases p:(Nat.beq o o'&&a.beq j&&b.beq q)with|true=>rw[p]at h;cases h;simp only[cY]at p;rw[gc.mp p.1.1,Oq p.1.2,Oq p.2];exact hl _ fB|false=>rw[p]at h;exact CX (fun e x=>hl e (hO _ x)) h
section
variable{w:World}{h₀:Heap}{mH:List Str}{mJ:ExcName->Option Value}{mg mb:Str->Option Value}
theorem LP{H:Type}{M:Mc H}{zv:Nat->Int}{s:Nat}(gd:Gd (iZ M zv (hN s) w h₀))(p:M.P=prog)(x:∀i,i<10->M.ok (.s i)=true){σ:St H}(j:∀n,M.get σ.h n=oH n){n f:Nat}{vs:List V}{is:List Int}
  (y:∀g us,us.length=is.length->(∀(k:Nat) i,is[k]?=some i->∃t,us[k]?=some (Value.int i t))->cE (ef zv (hN s)) g vs us) (o:∃bx,bH M n f vs σ=some (.bool true,bx)):nJ w h₀ (2*n) f is:=by
 obtain⟨bx,o⟩:=o;intro A T s us rm z B e q;exact Zf gd p x j o (.inl rfl) rm (y _ _ z B) e q
theorem Nx(e:(hd.heap_39 w.params).In h₀)(T:Top hd.view_39 mH mJ mg mb h₀):Gd (iZ mM (fun _=>0) (hN 0) w h₀):=
 DU mM (fun _=>0) (hN 0) w h₀ rfl e T (fun k=>⟨vJ _,vJ _⟩) (fun o a b r h=>by cases h) (fun k W l h=>by cases h) (DD (by decide) (fun _=>rfl) fB) fun k _=>DC (by decide) k
def BK:Hp:=⟨.free,.free,.free,.free,.free,.free,.free,.free,.free,.free,.free,.free,.free,.free,pO,fun _=>.free⟩
theorem Ml(n:Ad):mM.get BK n=oH n:=by
 cases n with
 |g k=>rfl
 |s i=>
  have e:∀i,pO i=oH (.s i):=fun i=>by
   show(bA uN i).getD .free=match bA uN i with|some o=>o|none=>.free
   cases bA uN i<;>rfl
  show jI BK (.s i)=_
  rcases xD i with k|k|k|k|k|k|k|k|k|k|k|k|k|k|k<;>first|(subst k;rfl)|(rw[tr _ _ k];exact e i)
theorem acB{N:Nm}{g:G}{a b c:Int}{us:List Value}(j:us.length=[a,b,c].length)(e:∀(k:Nat) i,[a,b,c][k]?=some i->∃t,us[k]?=some (Value.int i t)):cE N g [.int (.l a),.int (.l b),.int (.l c)] us:=by
 match us,j with|[x,y,z],_=>obtain⟨o,p⟩:=e 0 a rfl;obtain⟨q,B⟩:=e 1 b rfl;obtain⟨I,J⟩:=e 2 c rfl;cases p;cases B;cases J;exact⟨_,_,rfl,⟨o,rfl⟩,_,_,rfl,⟨q,rfl⟩,_,_,rfl,⟨I,rfl⟩,rfl⟩
theorem acC{N:Nm}{g:G}{a b:Int}{x y:Z}(j:x.val N=a)(o:y.val N=b){us:List Value}(p:us.length=[a,b].length)(e:∀(k:Nat) i,[a,b][k]?=some i->∃t,us[k]?=some (Value.int i t)):cE N g [.int x,.int y] us:=by
 match us,p with|[u,v],_=>obtain⟨q,z⟩:=e 0 a rfl;obtain⟨B,I⟩:=e 1 b rfl;cases z;cases I;exact⟨_,_,rfl,⟨q,by rw[j]⟩,_,_,rfl,⟨B,by rw[o]⟩,rfl⟩
theorem TK(e:(hd.heap_39 w.params).In h₀)(T:Top hd.view_39 mH mJ mg mb h₀)(a b c:Int):nJ w h₀ 24 50 [a,b,c]:=
 LP (n:=12) (σ:=⟨BK,0⟩) (Nx e T) rfl (fun _ _=>rfl) Ml (fun g us j o=>acB j o) (TJ 2 BK 0 a b c ⟨rfl,rfl,rfl,rfl,rfl,rfl,rfl,rfl,rfl,rfl,rfl,rfl,rfl,rfl,rfl⟩ (fun _ _=>rfl) (by decide))
theorem Tr.sE(k:Nat)(t:Tr)(i:Nat)(o:O)(j:Nat)(h:i+1<2^k)(e:j≠i):(Tr.set k t i o).get j=t.get j:=by rw[Tr.get_set _ _ _ _ _ h,bL e]
theorem TL(F:cG)(n:Ad):(tw F).get start.h n=oH n:=by
 cases n with
 |g k=>rfl
 |s i=>
  show(Ec uN 0 .e).get i=_
  match i with|0=>rfl|1=>rfl|2=>rfl|3=>rfl|4=>rfl|5=>rfl|6=>rfl|7=>rfl|8=>rfl|9=>rfl|i+10=>simp only[Ec,uN];refine(Tr.sE 12 _ 9 _ (i+10) (by decide) (by omega)).trans ?_;refine(Tr.sE 12 _ 8 _ (i+10) (by decide) (by omega)).trans ?_;refine(Tr.sE 12 _ 7 _ (i+10) (by decide) (by omega)).trans ?_;refine(Tr.sE 12 _ 6 _ (i+10) (by decide) (by omega)).trans ?_;refine(Tr.sE 12 _ 5 _ (i+10) (by decide) (by omega)).trans ?_;refine(Tr.sE 12 _ 4 _ (i+10) (by decide) (by omega)).trans ?_;refine(Tr.sE 12 _ 3 _ (i+10) (by decide) (by omega)).trans ?_;refine(Tr.sE 12 _ 2 _ (i+10) (by decide) (by omega)).trans ?_;refine(Tr.sE 12 _ 1 _ (i+10) (by decide) (by omega)).trans ?_;refine(Tr.sE 12 _ 0 _ (i+10) (by decide) (by omega)).trans ?_;rfl
theorem Wd{F:cG}{f:Nat}(h:rn F f=true):∃bx,bH (tw F) 12 f [.int (.y 0 0),.int (.y 1 0)] start=some (.bool true,bx):=by rw[LN];exact UZ h
theorem zN{F:cG}{zv:Nat->Int}{s f:Nat}{a b:Int}(gd:Gd (iZ (tw F) zv (hN s) w h₀))(e:zv 0=a)(j:zv 1=b)(h:rn F f=true):nJ w h₀ 24 f [a,b]:=
 LP (n:=12) gd rfl (fun i hi=>by show Nat.blt i 4000=true;exact Am (by omega)) (TL F) (fun g us=>acC (by show zv 0+0=a;omega) (by show zv 1+0=b;omega)) (Wd h)
end
end
def IF:S:=.as 1 (.lc (.bi .mod (.l 7) (.c (.int (.l 2147483647)))) (.nm 7) (.sl (.l 0) (.c .none) (.c (.int (.l 12)))) .none)
def EE:S:=.as 1 (.bi .add (.l 1) (.cb 2 [.cb 0 [.l 1],.c (.int (.l 12))]))
def Bg:S:=.tp [.nm 3,.nm 4,.nm 5,.nm 6] (.sl (.l 1) (.l 2) (.bi .add (.l 2) (.c (.int (.l 4)))))
def Bh:S:=.if (.an [.cm .lt (.bi .mod (.l 3) (.c (.int (.l 6)))) (.c (.int (.l 3))),.nt (.cf 50 [.l 4,.l 5,.l 6])]) [.rt (.c (.bool false))] []
def rY(k:Int)(f:Nat):S:=.if (.an [.cm .eq (.bi .mod (.l 3) (.c (.int (.l 6)))) (.c (.int (.l k))),.nt (.cf f [.l 4,.l 5])]) [.rt (.c (.bool false))] []
theorem aal:uF.bd=[IF,EE,.fo (.nm 2) (.rg [.c (.int (.l 0)),.c (.int (.l 12)),.c (.int (.l 4))]) [Bg,Bh,rY 3 52,rY 4 53,rY 5 54],.rt (.c (.bool true))]:=rfl
theorem acD{a b c:Int}(ha:inR a=true)(e:inR b=true)(j:inR c=true)(s:St Hp):n9 50 [.int (.l a),.int (.l b),.int (.l c)] s=some (.bool true,s):=by unfold n9;simp only[tN,xX,List.all_nil,ha,e,j];rfl
theorem acE{f:Nat}(hf:f=52∨f=53∨f=54){a b:Int}(ha:inR a=true)(e:inR b=true)(s:St Hp):n9 f [.int (.l a),.int (.l b)] s=some (.bool true,s):=by unfold n9;rcases hf with rfl|rfl|rfl<;>(simp only[tN,xX,List.all_nil,ha,e];rfl)
def acF:Hp:=⟨.free,.free,.free,.free,.free,.free,.free,.free,.free,.free,.free,.free,.free,.free,pO,fun _=>.free⟩
theorem acG(h:Hp)(r:Ad):eD mM h (.ref r)=match mM.get h r with
  |.list l=>some l
  |_=>.none:=rfl
theorem slL{h:Hp}{a:Ad}{l:List V}(n i j:Nat)(e:mM.get h a=.list l):qs mM (.ref a) (.int (.l (i:Int))) (.int (.l (j:Int))) ⟨h,n⟩=new mM .none (.list ((l.take j).drop i)) ⟨h,n⟩:=by unfold qs;simp only[e];rfl
local macro_rules |`(tactic|walk_at "k56")=>`(tactic|simp(disch:=walk_at "k21")only[el,fp,nX,fS,eZ,eF,NJ,oQ,yo,fG,lP,ky,ma,lQ,eN,eO,fN,eQ,pG,fC,fA,fe,gw,ij,wt,bA,bW,ft, *,n4,oM,oN,oR,oS,sV,qg,iA,Bc,Es,El,acG])
theorem lb1(h:Hp)(n:Nat)(k a b c:Int)(ha:inR a=true)(t:inR b=true)(x:inR c=true)(j o p q:V):
  eJ mM n9 Bh [j,o,p,.int (.l k),.int (.l a),.int (.l b),.int (.l c),q] ⟨h,n⟩=some ((.nx,[j,o,p,.int (.l k),.int (.l a),.int (.l b),.int (.l c),q]),⟨h,n⟩):=by
 have ho:=acD ha t x ⟨h,n⟩;unfold Bh;cases e:decide (Int.fmod k 6<3)with|true=>walk_at "k56";try rfl|false=>walk_at "k56";try rfl
theorem Jo(f:Nat)(j:Int)(hf:f=52∨f=53∨f=54)(h:Hp)(n:Nat)(k a b:Int)(ha:inR a=true)(y:inR b=true)(o p q t x:V):
  eJ mM n9 (rY j f) [o,p,q,.int (.l k),.int (.l a),.int (.l b),t,x] ⟨h,n⟩=some ((.nx,[o,p,q,.int (.l k),.int (.l a),.int (.l b),t,x]),⟨h,n⟩):=by
 have ho:=acE hf ha y ⟨h,n⟩;unfold rY;cases e:decide (Int.fmod k 6=j)with|true=>walk_at "k56";try rfl|false=>walk_at "k56";try rfl
theorem lb0(C:CH Hp)(h:Hp)(n p at_:Nat)(O:n<bu)(hf:h.g n=.free)(l:List V)(x y z u:V)(hp:h.g p=.list l)(q:p<n)(hl:(l.take (at_+4)).drop at_=[x,y,z,u])(e t B I J o:V):
  eJ mM C Bg [e,.ref (.g p),.int (.l (at_:Int)),t,B,I,J,o] ⟨h,n⟩=some ((.nx,[e,.ref (.g p),.int (.l (at_:Int)),x,y,z,u,o]),⟨{h with g:=fun j=>if j=n then .list [x,y,z,u]else h.g j},n+1⟩):=by
 have hs:=slL (h:=h) (a:=.g p) n at_ (at_+4) hp;rw[hl]at hs;have K:((at_+4:Nat):Int)=(at_:Int)+4:=by omega
 rw[K]at hs;clear hl hp;unfold Bg;walk_at "k56"
 try rfl
theorem Hg(h:Hp)(n p at_:Nat)(S:n<bu)(hf:h.g n=.free)(l:List V)(x y z u:Int)(e:inR y=true)(o:inR z=true)(hz:inR u=true)(hp:h.g p=.list l)(B:p<n)(hl:(l.take (at_+4)).drop at_=[.int (.l x),.int (.l y),.int (.l z),.int (.l u)])(q U I J K O t:V):
  dE mM (.nm 2) (cy mM n9 [Bg,Bh,rY 3 52,rY 4 53,rY 5 54]) (.int (.l (at_:Int))) [q,.ref (.g p),U,I,J,K,O,t] ⟨h,n⟩=
   some ((.nx,[q,.ref (.g p),.int (.l (at_:Int)),.int (.l x),.int (.l y),.int (.l z),.int (.l u),t]),⟨{h with g:=fun j=>if j=n then .list [.int (.l x),.int (.l y),.int (.l z),.int (.l u)]else h.g j},n+1⟩):=by
 show cy mM n9 _ [q,.ref (.g p),.int (.l (at_:Int)),I,J,K,O,t] ⟨h,n⟩=_
 refine(iU (lb0 n9 h n p at_ S hf l _ _ _ _ hp B hl q I J K O t)).trans ?_;refine(iU (lb1 _ _ x y z u e o hz _ _ _ _)).trans ?_;refine(iU (Jo 52 3 (by decide) _ _ x y z e o _ _ _ _ _)).trans ?_;refine(iU (Jo 53 4 (by decide) _ _ x y z e o _ _ _ _ _)).trans ?_;refine(iU (Jo 54 5 (by decide) _ _ x y z e o _ _ _ _ _)).trans ?_;rfl
theorem Le(a b:List Int):cD (a++b)=cD a++cD b:=lJ
theorem Mm{A:Ad}(f:Int->Int)(j:V->L->St Hp->R Hp (Option V))(l:L)(h:Hp)(n:Nat)(is:List Int)(p:mM.get h A=.list (cD is))(t:∀i,j (.int (.l i)) l ⟨h,n⟩=some (some (.int (.l (f i))),⟨h,n⟩))(hl:is.length<1000):
  ∀(k i:Nat),i+k=is.length+1->i<=is.length->jU mM (.li A) j k i (cD ((is.take i).map f)) l ⟨h,n⟩=some (cD (is.map f),⟨h,n⟩)
 |0,i,e,hi=>by omega
 |k+1,i,e,hi=>by
  unfold jU;simp only[hX,p]
  by_cases q:i<is.length
  ·have o:bA (cD is) i=some (.int (.l is[i])):=by rw[pF];simp[cD,q]
   simp only[o,t];have x:Nat.blt (cD ((is.take i).map f)).length bu=true:=lq (by simp[cD];show _<100000;omega);rw[x,gG];have y:cD ((is.take i).map f)++[.int (.l (f is[i]))]=cD ((is.take (i+1)).map f):=by rw[List.take_succ_eq_append_getElem q,lJ,Le];rfl
   rw[y];exact Mm f j l h n is p t hl k (i+1) (by omega) (by omega)
  ·have o:bA (cD is) i=none:=by rw[pF];simp[cD];omega
   simp only[o];rw[DH (by omega)]
def yh(is:List Int):List Int:=(is.take 12).map (fun i=>Int.fmod i 2147483647)++eR ((is.take 12).length:Int) (12-(is.take 12).length)
theorem TM(is:List Int):(yh is).length=12:=by unfold yh;simp[tn];omega
theorem MN:∀(n:Nat)(a:Int),0<=a->a+n<2147483647->∀i∈eR a n,inR i=true
 |0,a,_,_,i,h=>by cases h
 |n+1,a,e,j,i,h=>by
  rcases gx.mp h with h|h
  ·subst h;unfold inR;rw[cY,iG,iG];omega
  ·exact MN n (a+1) (by omega) (by omega) i h
theorem U0(is:List Int):∀i∈yh is,inR i=true:=fun i h=>by
 rcases pJ.mp h with h|h
 ·obtain⟨j,_,rfl⟩:=kq.mp h;have:=qT j 2147483647 (by omega);unfold inR;rw[cY,iG,iG];exact this
 ·refine MN _ _ (by omega) ?_ i h;have:(is.take 12).length<=12:=by simp;omega
  omega
def pg(is:List Int):Hp:={acF with t:=fun j=>if j=10 then .list (cD is)else pO j}
def Bi(is:List Int):Hp:={pg is with g:=fun j=>if j=0 then .list (cD (is.take 12))else .free}
def oX(is:List Int):Hp:={pg is with g:=fun j=>if j=1 then .list (cD ((is.take 12).map fun i=>Int.fmod i 2147483647))else if j=0 then .list (cD (is.take 12))else .free}
theorem la0(C:CH Hp)(is:List Int)(hl:is.length<=63):
  eJ mM C IF [.ref (.s 10),.no,.no,.no,.no,.no,.no,.no] ⟨pg is,0⟩=some ((.nx,[.ref (.s 10),.ref (.g 1),.no,.no,.no,.no,.no,.no]),⟨oX is,2⟩):=by
 have p:mM.get (pg is) (.s 10)=.list (cD is):=rfl;have hs:qs mM (.ref (.s 10)) .none (.int (.l 12)) ⟨pg is,0⟩=new mM .none (.list (cD (is.take 12))) ⟨pg is,0⟩:=by
  unfold qs;simp only[p];show new mM .none (.list ((cD is).take 12)) _=_
  unfold cD;rw[List.map_take]
 have q:=Mm (A:=.g 0) (fun i=>Int.fmod i 2147483647) (dE mM (.nm 7) (xQ mM none (b9 mM C (.bi .mod (.l 7) (.c (.int (.l 2147483647))))))) [.ref (.s 10),.no,.no,.no,.no,.no,.no,.no] (Bi is) 1 (is.take 12) rfl (fun i=>rfl) (by simp;omega) ((is.take 12).length+1) 0 (by omega) (by omega);have e:(cD (is.take 12)).length=(is.take 12).length:=by simp[cD]
 have j:new mM .none (.list (cD (is.take 12))) ⟨pg is,0⟩=some (.ref (.g 0),⟨Bi is,1⟩):=iA _ _ _ rfl (by decide);have o:new mM .none (.list (cD ((is.take 12).map fun i=>Int.fmod i 2147483647))) ⟨Bi is,1⟩=some (.ref (.g 1),⟨oX is,2⟩):=iA _ _ _ rfl (by decide);have t:b9 mM C (.sl (.l 0) (.c .none) (.c (.int (.l 12)))) [.ref (.s 10),.no,.no,.no,.no,.no,.no,.no] ⟨pg is,0⟩=some (.ref (.g 0),⟨Bi is,1⟩):=hs.trans j;have x:b9 mM C (.lc (.bi .mod (.l 7) (.c (.int (.l 2147483647)))) (.nm 7) (.sl (.l 0) (.c .none) (.c (.int (.l 12)))) .none) [.ref (.s 10),.no,.no,.no,.no,.no,.no,.no] ⟨pg is,0⟩=some (.ref (.g 1),⟨oX is,2⟩):=by
  rw[Nq,t];show bO (jU mM (.li (.g 0)) _ ((cD (is.take 12)).length+1) 0 [] _ ⟨Bi is,1⟩) _=_
  rw[e];exact(lu (fun z=>bO z _) q).trans o
 unfold IF;rw[fY,x];rfl
def Bj(is:List Int):Hp:={pg is with g:=fun j=>if j=3 then .list (cD (yh is))else if j=2 then .list (cD (eR ((is.take 12).length:Int) (12-(is.take 12).length)))else(oX is).g j}
theorem gN{h:Hp}{n j:Nat}{o x:O}(p:j≠n)(e:h.g j=x):({h with g:=fun i=>if i=n then o else h.g i}:Hp).g j=x:=(bL p).trans e
theorem gP{h:Hp}{n:Nat}{o:O}:({h with g:=fun i=>if i=n then o else h.g i}:Hp).g n=o:=df rfl
theorem acH(C:CH Hp)(h j e:Hp)(x:V)(k:Int)(o:builtin mM 0 [.ref (.g 1)] ⟨h,2⟩=some (.int (.l k),⟨h,2⟩))(p:builtin mM 2 [.int (.l k),.int (.l 12)] ⟨h,2⟩=some (.ref (.g 2),⟨j,3⟩))(q:q9 mM .add (.ref (.g 1)) (.ref (.g 2)) ⟨j,3⟩=some (.ref (.g 3),⟨e,4⟩)):
  eJ mM C EE [.ref (.s 10),.ref (.g 1),.no,.no,.no,.no,.no,.no] ⟨h,2⟩=some ((.nx,[.ref (.s 10),.ref (.g 3),.no,.no,.no,.no,.no,.no]),⟨e,4⟩):=by
 have t:b9 mM C (.bi .add (.l 1) (.cb 2 [.cb 0 [.l 1],.c (.int (.l 12))])) [.ref (.s 10),.ref (.g 1),.no,.no,.no,.no,.no,.no] ⟨h,2⟩=some (.ref (.g 3),⟨e,4⟩):=by simp only[oQ,eF,bA,eQ,el,ky,eO,eN,eZ,o,p,q]
 unfold EE;rw[fY,t];rfl
theorem la1(C:CH Hp)(is:List Int)(hl:is.length<=63):
  eJ mM C EE [.ref (.s 10),.ref (.g 1),.no,.no,.no,.no,.no,.no] ⟨oX is,2⟩=some ((.nx,[.ref (.s 10),.ref (.g 3),.no,.no,.no,.no,.no,.no]),⟨Bj is,4⟩):=by
 have x:(is.take 12).length<=12:=by simp;omega
 have e:(cD ((is.take 12).map fun i=>Int.fmod i 2147483647)).length=(is.take 12).length:=by simp[cD]
 have o:(cD ((is.take 12).map fun i=>Int.fmod i 2147483647)).length+(cD (eR ((is.take 12).length:Int) (12-(is.take 12).length))).length<bu:=by simp[cD,tn];show _<100000;omega
 have p:(oX is).g 1=.list (cD ((is.take 12).map fun i=>Int.fmod i 2147483647)):=rfl;have y:builtin mM 0 [.ref (.g 1)] ⟨oX is,2⟩=some (.int (.l ((is.take 12).length:Int)),⟨oX is,2⟩):=by
  rw[AI,qg,p];show some (V.int (.l ((cD ((is.take 12).map fun i=>Int.fmod i 2147483647)).length:Int)),_)=_
  rw[e]
 have z:Bj is={oX is with g:=fun j=>if j=3 then .list (cD ((is.take 12).map fun i=>Int.fmod i 2147483647)++cD (eR ((is.take 12).length:Int) (12-(is.take 12).length)))else if j=2 then .list (cD (eR ((is.take 12).length:Int) (12-(is.take 12).length)))else(oX is).g j}:=by rw[←Le];rfl
 rw[z];have B:(oX is).g 2=.free:=rfl;have I:(oX is).g 3=.free:=rfl;generalize(is.take 12).length=k at*;have q:=Bf (oX is) 2 (k:Int) (12-(k:Int)) (by omega) (by omega) (by omega) (by omega) B (by decide);rw[show(k:Int)+(12-(k:Int))=12 by omega,show(12-(k:Int)).toNat=12-k by omega]at q;generalize eR (k:Int) (12-k)=t at*;generalize cD ((is.take 12).map fun i=>Int.fmod i 2147483647)=aa at*;have J:=Mh {oX is with g:=fun j=>if j=2 then .list (cD t)else(oX is).g j} 3 1 2 aa (cD t) (gN (by decide) p) gP o (gN (by decide) I) (by decide);exact acH C _ _ _ (.ref (.s 10)) k y q J
theorem We(is:List Int)(hl:is.length<=63):∃I W,cy mM n9 uF.bd [.ref (.s 10),.no,.no,.no,.no,.no,.no,.no] ⟨pg is,0⟩=some ((.rt (.bool true),I),W):=by
 rw[aal];have J:=TM is;have e:=U0 is;have y:(Bj is).g 3=.list (cD (yh is)):=rfl;have hf:∀j,4<=j->(Bj is).g j=.free:=fun j hj=>(bL (by omega)).trans ((bL (by omega)).trans ((bL (by omega)).trans (bL (by omega))))
 have e1:=la1 n9 is hl;generalize Bj is=o at y hf e1;generalize yh is=ns at J e y
 match ns,J,e,y with
 |[p,q,t,x,K,O,S,U,Y,Z,z,B],_,e,y=>
  simp only[Dr]at e;obtain⟨_,i1,i2,i3,_,i5,i6,i7,_,i9,aa,ab,_⟩:=e;have t1:=Hg o 4 3 0 (by decide) (hf 4 (by omega)) _ p q t x i1 i2 i3 y (by omega) rfl (.ref (.s 10)) .no .no .no .no .no .no;have t2:=Hg {o with g:=fun i=>if i=4 then .list [.int (.l p),.int (.l q),.int (.l t),.int (.l x)]else o.g i} 5 3 4 (by decide) (gN (by decide) (hf 5 (by decide))) (cD [p,q,t,x,K,O,S,U,Y,Z,z,B]) K O S U i5 i6 i7 (gN (by decide) y) (by omega) rfl (.ref (.s 10)) (.int (.l ((0:Nat):Int))) (.int (.l p)) (.int (.l q)) (.int (.l t)) (.int (.l x)) .no;have t3:=Hg {o with g:=fun i=>if i=5 then .list [.int (.l K),.int (.l O),.int (.l S),.int (.l U)]else if i=4 then .list [.int (.l p),.int (.l q),.int (.l t),.int (.l x)]else o.g i} 6 3 8 (by decide) (gN (h:={o with g:=fun i=>if i=4 then .list [.int (.l p),.int (.l q),.int (.l t),.int (.l x)]else o.g i}) (by decide) (gN (by decide) (hf 6 (by decide)))) (cD [p,q,t,x,K,O,S,U,Y,Z,z,B]) Y Z z B i9 aa ab (gN (h:={o with g:=fun i=>if i=4 then .list [.int (.l p),.int (.l q),.int (.l t),.int (.l x)]else o.g i}) (by decide) (gN (by decide) y)) (by omega) rfl (.ref (.s 10)) (.int (.l ((4:Nat):Int))) (.int (.l K)) (.int (.l O)) (.int (.l S)) (.int (.l U)) .no;have e2:∃I W,eJ mM n9 (.fo (.nm 2) (.rg [.c (.int (.l 0)),.c (.int (.l 12)),.c (.int (.l 4))]) [Bg,Bh,rY 3 52,rY 4 53,rY 5 54]) [.ref (.s 10),.ref (.g 3),.no,.no,.no,.no,.no,.no] ⟨o,4⟩=some ((.nx,I),W):=by
   refine⟨?_,?_,?_⟩
   rotate_left 2
   rw[mK];show eU mM (.tu [.int (.l ((0:Nat):Int)),.int (.l ((4:Nat):Int)),.int (.l ((8:Nat):Int))]) _ 4 0 _ _=_
   unfold eU;simp only[hX,bA];rw[t1];unfold eU;simp only[hX,bA];rw[t2];unfold eU;simp only[hX,bA];rw[t3];rfl
  obtain⟨I,⟨h',n'⟩,e2⟩:=e2;exact⟨I,⟨h',n'⟩,(iU (la0 n9 is hl)).trans ((iU e1).trans ((iU e2).trans (AN rfl)))⟩
section
open PySem PySem.W PySem.Calls PyProof.Rows
def zT(a b:Int):Nat->Int
 |0=>a
 |1=>b
 |2=>Int.fdiv a 25
 |3=>Int.fdiv b 2
 |4=>Int.fmod (Int.fdiv b 2) 5
 |5=>Int.fdiv b 16
 |6=>Int.fmod a 25
 |7=>Int.fmod (Int.fdiv a 25) 2
 |_=>0
def zE(a b:Int):Nat->Int
 |0=>a
 |1=>b
 |2=>Int.fdiv a 5
 |3=>bif Int.fmod (Int.fdiv a 5) 3==0 then 1 else Int.fmod (Int.fdiv a 5) 3
 |4=>Int.fmod b 1000
 |_=>0
def zC(a b:Int):Nat->Int
 |0=>a
 |1=>b
 |2=>bif Int.fmod b 5000==0 then 1 else Int.fmod b 5000
 |_=>0
theorem Ff{a:Int}(m:Int)(e:0<m)(j:0<=a)(o:a<=2147483646):0<=Int.fdiv a m/\Int.fdiv a m<=2147483646:=by rw[Int.fdiv_eq_ediv_of_nonneg _ (Int.le_of_lt e)];exact⟨Int.ediv_nonneg j (Int.le_of_lt e),Int.le_trans (Int.ediv_le_self _ j) o⟩
theorem pS{a:Int}(m:Int)(e:0<m):0<=Int.fmod a m/\Int.fmod a m<m:=⟨Int.fmod_nonneg_of_pos _ e,Int.fmod_lt_of_pos _ e⟩
theorem SJ{a m:Int}(e:0<=a)(j:a<m):Int.fmod a m=a:=by rw[uB _ (by omega)];exact Int.emod_eq_of_lt e j
section
variable{w:World}{h₀:Heap}{mH:List Str}{mJ:ExcName->Option Value}{mg mb:Str->Option Value}{a b:Int}
theorem acI(J:(hd.heap_39 w.params).In h₀)(T:Top hd.view_39 mH mJ mg mb h₀)(ha:0<=a/\a<=2147483646)(p:0<=b/\b<=2147483646)(c:Cl){s:Nat}(hs:s<51){q:Z}{tu wh:Int}
  (hp:c.pick.val (ef (zT a b) (hN s))=Int.fmod a 25) (t:c.lo<=Int.fmod a 25/\Int.fmod a 25<=c.hi) (B:(Int.fmod a 25,s)∈c.gr) (z:q.val (ef (zT a b) (hN s))=Int.fmod (Int.fdiv a 25) 2) (K:Int.fmod b 2=tu) (O:Int.fmod (Int.fdiv b 16) 4=wh):
  Gd (iZ (tw (yH c q tu wh)) (zT a b) (hN s) w h₀):=by
 have j:∀x:Int,x+0=x:=fun x=>by omega
 refine DU (tw (yH c q tu wh)) (zT a b) (hN s) w h₀ rfl J T (fun k=>?_) (fun o x y r h=>?_) (fun k W l h=>?_) (DD hs (fun _=>rfl) (kq.mpr ⟨_,B,rfl⟩)) fun k _=>DC hs k
 ·match k with|0=>exact ha|1=>exact p|2=>exact Ff 25 (by decide) ha.1 ha.2|3=>exact Ff 2 (by decide) p.1 p.2|4=>exact⟨(pS 5 (by decide)).1,Int.le_of_lt_add_one (pS 5 (by decide)).2⟩|5=>exact Ff 16 (by decide) p.1 p.2|6=>exact t|7=>have:=pS (a:=Int.fdiv a 25) 2 (by decide);exact⟨this.1,show Int.fmod (Int.fdiv a 25) 2<=2147483646 by omega⟩|k+8=>exact⟨vJ _,by show(0:Int)<=2147483646;decide⟩
 ·refine CX (N:=ef (zT a b) (hN s)) (F:=yH c q tu wh) (l:=(yH c q tu wh).op) (fun e I=>?_) h;simp only[yH,gx,vV,or_false]at I;rcases I with rfl|rfl|rfl|rfl|rfl|rfl|rfl|rfl|rfl
  ·exact⟨by show(25:Int)≠0;decide,fun h=>absurd h (show¬(1:Nat)=0 by decide),fun _=>by rw[hp];show Int.fmod (a+0) 25=_;rw[j]⟩
  ·exact⟨by show(25:Int)≠0;decide,fun _=>by show Int.fdiv (a+0) 25=Int.fdiv a 25+0;rw[j,j],fun h=>absurd h (by decide)⟩
  ·exact⟨by show(2:Int)≠0;decide,fun h=>absurd h (show¬(1:Nat)=0 by decide),fun _=>by rw[z];show Int.fmod (Int.fdiv a 25+0) 2=_;rw[j]⟩
  ·exact⟨by show(2:Int)≠0;decide,fun h=>absurd h (show¬(1:Nat)=0 by decide),fun _=>by show Int.fmod (b+0) 2=tu;rw[j,K]⟩
  ·exact⟨by show(2:Int)≠0;decide,fun _=>by show Int.fdiv (b+0) 2=Int.fdiv b 2+0;rw[j,j],fun h=>absurd h (by decide)⟩
  ·exact⟨by show(5:Int)≠0;decide,fun h=>absurd h (show¬(1:Nat)=0 by decide),fun _=>by show Int.fmod (Int.fdiv b 2+0) 5=Int.fmod (Int.fdiv b 2) 5+0;rw[j,j]⟩
  ·exact⟨by show(16:Int)≠0;decide,fun _=>by show Int.fdiv (b+0) 16=Int.fdiv b 16+0;rw[j,j],fun h=>absurd h (by decide)⟩
  ·exact⟨by show(4:Int)≠0;decide,fun h=>absurd h (show¬(1:Nat)=0 by decide),fun _=>by show Int.fmod (Int.fdiv b 16+0) 4=wh;rw[j,O]⟩
  ·refine⟨by show(4294967296:Int)≠0;decide,fun h=>absurd h (show¬(1:Nat)=0 by decide),fun _=>?_⟩;show Int.fmod (Int.fmod (Int.fdiv b 2) 5+3) 4294967296=Int.fmod (Int.fdiv b 2) 5+3
   have:=pS (a:=Int.fdiv b 2) 5 (by decide);exact SJ (by omega) (by omega)
 ·have h:(k,W,l)∈[(6,1000,c.gr)]:=h;rw[kP]at h;cases h;exact⟨_,s,B,rfl,LO hs (by decide)⟩
theorem Hy(o:(hd.heap_39 w.params).In h₀)(T:Top hd.view_39 mH mJ mg mb h₀)(ha:0<=a/\a<=2147483646)(p:0<=b/\b<=2147483646)(c bn:Nat){s:Nat}(hs:s<51)
  (hp:(fk c).pick.val (ef (zT a b) (hN s))=Int.fmod a 25) (e:(fk c).lo<=Int.fmod a 25/\Int.fmod a 25<=(fk c).hi) (q:(Int.fmod a 25,s)∈(fk c).gr) (j:Z.val (ef (zT a b) (hN s)) (match bn with|0=>.l 0|1=>.l 1|_=>.y 7 0)=Int.fmod (Int.fdiv a 25) 2)
  (hr:∀t w,t<2->w<4->rt c bn t w=true):nJ w h₀ 24 52 [a,b]:=by
 have x:=pS (a:=b) 2 (by decide);have y:=pS (a:=Int.fdiv b 16) 4 (by decide);refine zN (acI o T ha p (fk c) hs (tu:=((Int.fmod b 2).toNat:Int)) (wh:=((Int.fmod (Int.fdiv b 16) 4).toNat:Int)) hp e q j (by omega) (by omega)) rfl rfl (hr _ _ (by omega) (by omega))
theorem Hh(o:(hd.heap_39 w.params).In h₀)(T:Top hd.view_39 mH mJ mg mb h₀)(ha:0<=a/\a<=2147483646)(p:0<=b/\b<=2147483646)(c:Nat){s:Nat}(hs:s<51)
  (hp:(fk c).pick.val (ef (zT a b) (hN s))=Int.fmod a 25) (j:(fk c).lo<=Int.fmod a 25/\Int.fmod a 25<=(fk c).hi) (q:(Int.fmod a 25,s)∈(fk c).gr)
  (x:∀t w,t<2->w<4->rt c 0 t w=true) (y:∀t w,t<2->w<4->rt c 1 t w=true):nJ w h₀ 24 52 [a,b]:=by
 have z:=pS (a:=Int.fdiv a 25) 2 (by decide)
 by_cases e:Int.fmod (Int.fdiv a 25) 2=0
 ·exact Hy o T ha p c 0 hs hp j q (by rw[e];rfl) x
 ·exact Hy o T ha p c 1 hs hp j q (by rw[show Int.fmod (Int.fdiv a 25) 2=1 by omega];rfl) y
theorem GS(j:(hd.heap_39 w.params).In h₀)(T:Top hd.view_39 mH mJ mg mb h₀)(ha:0<=a/\a<=2147483646)(o:0<=b/\b<=2147483646)(c:Nat){s:Nat}(hs:s<51)
  (hp:(fk c).pick.val (ef (zT a b) (hN s))=Int.fmod a 25) (e:(fk c).lo<=Int.fmod a 25/\Int.fmod a 25<=(fk c).hi) (p:(Int.fmod a 25,s)∈(fk c).gr)
  (q:∀t w,t<2->w<4->rt c 2 t w=true):nJ w h₀ 24 52 [a,b]:=
 Hy j T ha o c 2 hs hp e p (by show Int.fmod (Int.fdiv a 25) 2+0=_;omega) q
theorem TN(q:(hd.heap_39 w.params).In h₀)(T:Top hd.view_39 mH mJ mg mb h₀)(ha:0<=a/\a<=2147483646)(t:0<=b/\b<=2147483646):nJ w h₀ 24 52 [a,b]:=by
 have x:=pS (a:=a) 25 (by decide);have lit:∀{s}{i:Int},Int.fmod a 25=i->Z.val (ef (zT a b) (hN s)) (.l i)=Int.fmod a 25:=fun h=>h.symm
 have j:∀{s},Z.val (ef (zT a b) (hN s)) (.y 6 0)=Int.fmod a 25:=by intro s;show Int.fmod a 25+0=_;omega
 have y:Int.fmod a 25=0∨(Int.fmod a 25=23)∨(Int.fmod a 25=24)∨(∃s,s<51/\(Int.fmod a 25,s)∈(fk 1).gr)∨(∃s,s<51/\(Int.fmod a 25,s)∈(fk 2).gr)∨(∃s,s<51/\(Int.fmod a 25,s)∈(fk 3).gr):=by
  generalize Int.fmod a 25=p at x;have:p=0∨p=1∨p=2∨p=3∨p=4∨p=5∨p=6∨p=7∨p=8∨p=9∨p=10∨p=11∨p=12∨p=13∨p=14∨p=15∨p=16∨p=17∨p=18∨p=19∨p=20∨p=21∨p=22∨p=23∨p=24:=by omega
  rcases this with rfl|rfl|rfl|rfl|rfl|rfl|rfl|rfl|rfl|rfl|rfl|rfl|rfl|rfl|rfl|rfl|rfl|rfl|rfl|rfl|rfl|rfl|rfl|rfl|rfl
  ·exact .inl rfl
  ·exact .inr (.inr (.inr (.inr (.inl ⟨39,by decide,by simp[fk]⟩))))
  ·exact .inr (.inr (.inr (.inl ⟨33,by decide,by simp[fk]⟩)))
  ·exact .inr (.inr (.inr (.inr (.inl ⟨40,by decide,by simp[fk]⟩))))
  ·exact .inr (.inr (.inr (.inr (.inl ⟨41,by decide,by simp[fk]⟩))))
  ·exact .inr (.inr (.inr (.inr (.inl ⟨42,by decide,by simp[fk]⟩))))
  ·exact .inr (.inr (.inr (.inr (.inl ⟨43,by decide,by simp[fk]⟩))))
  ·exact .inr (.inr (.inr (.inl ⟨34,by decide,by simp[fk]⟩)))
  ·exact .inr (.inr (.inr (.inl ⟨35,by decide,by simp[fk]⟩)))
  ·exact .inr (.inr (.inr (.inl ⟨36,by decide,by simp[fk]⟩)))
  ·exact .inr (.inr (.inr (.inr (.inl ⟨44,by decide,by simp[fk]⟩))))
  ·exact .inr (.inr (.inr (.inr (.inl ⟨45,by decide,by simp[fk]⟩))))
  ·exact .inr (.inr (.inr (.inr (.inl ⟨46,by decide,by simp[fk]⟩))))
  ·exact .inr (.inr (.inr (.inr (.inl ⟨47,by decide,by simp[fk]⟩))))
  ·exact .inr (.inr (.inr (.inr (.inl ⟨48,by decide,by simp[fk]⟩))))
  ·exact .inr (.inr (.inr (.inl ⟨37,by decide,by simp[fk]⟩)))
  ·exact .inr (.inr (.inr (.inl ⟨38,by decide,by simp[fk]⟩)))
  ·exact .inr (.inr (.inr (.inr (.inr ⟨49,by decide,by simp[fk]⟩))))
  ·exact .inr (.inr (.inr (.inr (.inr ⟨50,by decide,by simp[fk]⟩))))
  ·exact .inr (.inr (.inr (.inr (.inr ⟨14,by decide,by simp[fk]⟩))))
  ·exact .inr (.inr (.inr (.inr (.inr ⟨15,by decide,by simp[fk]⟩))))
  ·exact .inr (.inr (.inr (.inr (.inr ⟨16,by decide,by simp[fk]⟩))))
  ·exact .inr (.inr (.inr (.inr (.inr ⟨17,by decide,by simp[fk]⟩))))
  ·exact .inr (.inl rfl)
  ·exact .inr (.inr (.inl rfl))
 rcases y with e|e|e|⟨s,hs,o⟩|⟨s,hs,o⟩|⟨s,hs,o⟩
 ·exact Hh q T ha t 0 (s:=5) (by decide) (lit e) (by simp only[fk];omega) (by rw[e];simp[fk]) acb acd
 ·exact GS q T ha t 4 (s:=4) (by decide) (lit e) (by simp only[fk];omega) (by rw[e];simp[fk]) acj
 ·exact GS q T ha t 5 (s:=3) (by decide) (lit e) (by simp only[fk];omega) (by rw[e];simp[fk]) ack
 ·exact Hh q T ha t 1 hs j (by simp[fk]at o⊢;omega) o ace acf
 ·exact Hh q T ha t 2 hs j (by simp[fk]at o⊢;omega) o acg ach
 ·exact GS q T ha t 3 hs j (by simp[fk]at o⊢;omega) o aci
theorem Ot(t:(hd.heap_39 w.params).In h₀)(T:Top hd.view_39 mH mJ mg mb h₀)(ha:0<=a/\a<=2147483646)(z:0<=b/\b<=2147483646){k:Int}{j:Z}(hk:Int.fmod a 5=k)(B:j.val (ef (zE a b) (hN 0))=Int.fmod (Int.fdiv a 5) 3):
  Gd (iZ (tw (yI k j)) (zE a b) (hN 0) w h₀):=by
 have p:∀x:Int,x+0=x:=fun x=>by omega
 refine DU (tw (yI k j)) (zE a b) (hN 0) w h₀ rfl t T (fun k=>?_) (fun o x y r h=>?_) (fun k W l h=>by cases h) (DD (by decide) (fun _=>rfl) fB) fun k _=>DC (by decide) k
 ·match k with
  |0=>exact ha
  |1=>exact z
  |2=>exact Ff 5 (by decide) ha.1 ha.2
  |3=>
   show 1<=(bif Int.fmod (Int.fdiv a 5) 3==0 then 1 else Int.fmod (Int.fdiv a 5) 3)/\(bif Int.fmod (Int.fdiv a 5) 3==0 then 1 else Int.fmod (Int.fdiv a 5) 3)<=2
   have:=pS (a:=Int.fdiv a 5) 3 (by decide);generalize Int.fmod (Int.fdiv a 5) 3=x at this;cases e:(x==0)with
   |true=>simp
   |false=>
    have:x≠0:=by simpa using e
    simp only[jg];omega
  |4=>exact⟨(pS 1000 (by decide)).1,Int.le_of_lt_add_one (pS 1000 (by decide)).2⟩
  |k+5=>exact⟨vJ _,by show(0:Int)<=2147483646;decide⟩
 ·refine CX (N:=ef (zE a b) (hN 0)) (F:=yI k j) (l:=(yI k j).op) (fun e q=>?_) h;simp only[yI,gx,vV,or_false]at q;rcases q with rfl|rfl|rfl|rfl
  ·exact⟨by show(5:Int)≠0;decide,fun h=>absurd h (show¬(1:Nat)=0 by decide),fun _=>by show Int.fmod (a+0) 5=k;rw[p,hk]⟩
  ·exact⟨by show(5:Int)≠0;decide,fun _=>by show Int.fdiv (a+0) 5=Int.fdiv a 5+0;rw[p,p],fun h=>absurd h (by decide)⟩
  ·exact⟨by show(3:Int)≠0;decide,fun h=>absurd h (show¬(1:Nat)=0 by decide),fun _=>by rw[B];show Int.fmod (Int.fdiv a 5+0) 3=_;rw[p]⟩
  ·exact⟨by show(1000:Int)≠0;decide,fun h=>absurd h (show¬(1:Nat)=0 by decide),fun _=>by show Int.fmod (b+0) 1000=Int.fmod b 1000+0;rw[p,p]⟩
theorem SK(p:(hd.heap_39 w.params).In h₀)(T:Top hd.view_39 mH mJ mg mb h₀)(ha:0<=a/\a<=2147483646)(t:0<=b/\b<=2147483646):nJ w h₀ 24 53 [a,b]:=by
 have z:=pS (a:=a) 5 (by decide);have o:∀n:Nat,Int.fmod a 5=n->re n 0=true->re n 1=true->nJ w h₀ 24 53 [a,b]:=fun n e x y=>by
  by_cases q:Int.fmod (Int.fdiv a 5) 3=0
  ·exact zN (Ot p T ha t e (by rw[q];rfl)) rfl rfl x
  ·refine zN (Ot p T ha t (j:=.y 3 0) e ?_) rfl rfl y;show(bif Int.fmod (Int.fdiv a 5) 3==0 then 1 else Int.fmod (Int.fdiv a 5) 3)+0=_
   rw[show(Int.fmod (Int.fdiv a 5) 3==0)=false from km.mpr q];simp
 have:Int.fmod a 5=(0:Nat)∨Int.fmod a 5=(1:Nat)∨Int.fmod a 5=(2:Nat)∨Int.fmod a 5=(3:Nat)∨Int.fmod a 5=(4:Nat):=by omega
 rcases this with e|e|e|e|e
 ·exact o 0 e acm acn
 ·exact o 1 e aco acp
 ·exact o 2 e acq acr
 ·exact o 3 e acs acu
 ·exact o 4 e acv acw
theorem Ou(t:(hd.heap_39 w.params).In h₀)(T:Top hd.view_39 mH mJ mg mb h₀)(ha:0<=a/\a<=2147483646)(z:0<=b/\b<=2147483646){k:Int}{j:Z}(hk:Int.fmod a 2=k)(B:j.val (ef (zC a b) (hN 0))=Int.fmod b 5000):
  Gd (iZ (tw (yJ k j)) (zC a b) (hN 0) w h₀):=by
 have p:∀x:Int,x+0=x:=fun x=>by omega
 refine DU (tw (yJ k j)) (zC a b) (hN 0) w h₀ rfl t T (fun k=>?_) (fun o x y r h=>?_) (fun k W l h=>by cases h) (DD (by decide) (fun _=>rfl) fB) fun k _=>DC (by decide) k
 ·match k with
  |0=>exact ha
  |1=>exact z
  |2=>
   show 1<=(bif Int.fmod b 5000==0 then 1 else Int.fmod b 5000)/\(bif Int.fmod b 5000==0 then 1 else Int.fmod b 5000)<=4999
   have:=pS (a:=b) 5000 (by decide);generalize Int.fmod b 5000=x at this;cases e:(x==0)with
   |true=>simp
   |false=>
    have:x≠0:=by simpa using e
    simp only[jg];omega
  |k+3=>exact⟨vJ _,by show(0:Int)<=2147483646;decide⟩
 ·refine CX (N:=ef (zC a b) (hN 0)) (F:=yJ k j) (l:=(yJ k j).op) (fun e q=>?_) h;simp only[yJ,gx,vV,or_false]at q;rcases q with rfl|rfl
  ·exact⟨by show(2:Int)≠0;decide,fun h=>absurd h (show¬(1:Nat)=0 by decide),fun _=>by show Int.fmod (a+0) 2=k;rw[p,hk]⟩
  ·exact⟨by show(5000:Int)≠0;decide,fun h=>absurd h (show¬(1:Nat)=0 by decide),fun _=>by rw[B];show Int.fmod (b+0) 5000=_;rw[p]⟩
theorem SM(p:(hd.heap_39 w.params).In h₀)(T:Top hd.view_39 mH mJ mg mb h₀)(ha:0<=a/\a<=2147483646)(t:0<=b/\b<=2147483646):nJ w h₀ 24 54 [a,b]:=by
 have z:=pS (a:=a) 2 (by decide);have o:∀n:Nat,Int.fmod a 2=n->rc n 0=true->rc n 1=true->nJ w h₀ 24 54 [a,b]:=fun n e x y=>by
  by_cases q:Int.fmod b 5000=0
  ·exact zN (Ou p T ha t e (by rw[q];rfl)) rfl rfl x
  ·refine zN (Ou p T ha t (j:=.y 2 0) e ?_) rfl rfl y;show(bif Int.fmod b 5000==0 then 1 else Int.fmod b 5000)+0=_
   rw[show(Int.fmod b 5000==0)=false from km.mpr q];simp
 have:Int.fmod a 2=(0:Nat)∨Int.fmod a 2=(1:Nat):=by omega
 rcases this with e|e
 ·exact o 0 e acx acy
 ·exact o 1 e acz acA
theorem xJ{i:Int}(h:inR i=true):0<=i/\i<=2147483646:=by unfold inR at h;rw[cY,iG,iG]at h;omega
theorem aam(e:(hd.heap_39 w.params).In h₀)(T:Top hd.view_39 mH mJ mg mb h₀):MY w h₀ 24:=
 ⟨fun x y z _ _ _=>TK e T x y z,fun _ _ j o=>⟨TN e T (xJ j) (xJ o),SK e T (xJ j) (xJ o),SM e T (xJ j) (xJ o)⟩⟩
end
def gL(P:Params)(a:Addr):G where
 ad:=fun n b=>match n with|.s 10=>bif b then none else some a|n=>(jz P).ad n b
 tp:=(jz P).tp
theorem Al{P:Params}{a x:Addr}{n:Ad}{b:Bool}(e:(gL P a).ad n b=some x):(n=.s 10/\b=false/\x=a)∨(jz P).ad n b=some x:=by
 unfold gL at e;simp only at e;split at e
 ·cases b with|true=>cases e|false=>cases e;exact .inl ⟨rfl,rfl,rfl⟩
 ·exact .inr e
theorem Wf(P:Params)(b:Bool):(jz P).ad (.s 10) b=none:=by cases b<;>rfl
theorem Ny{P:Params}{a x:Addr}{n:Ad}{b:Bool}(e:(jz P).ad n b=some x):(gL P a).ad n b=some x:=by
 by_cases h:n=.s 10
 ·subst h;rw[Wf]at e;cases e
 ·unfold gL;simp only[h];exact e
theorem Wg{P:Params}{a:Addr}{n:Ad}(h:n≠ .s 10)(b:Bool)(e:(jz P).ad n b=none):(gL P a).ad n b=none:=by unfold gL;simp only[h];exact e
theorem Wh{is:List Int}{n:Ad}(h:n≠ .s 10):mM.get (pg is) n=oH n:=by
 rw[←Ml];cases n with
 |g k=>rfl
 |s i=>
  show jI (pg is) (.s i)=jI BK (.s i)
  rcases xD i with k|k|k|k|k|k|k|k|k|k|k|k|k|k|k<;>first|(subst k;rfl)|skip
  rw[tr _ _ k,tr _ _ k];exact bL fun e=>h (by rw[e])
theorem LQ{N:Nm}{g:G}:∀{vs:List Value}{is:List Int},IntsAre vs is->cE N g (cD is) vs
 |_,_,.nil=>rfl
 |_,_,.cons n t h=>⟨_,_,rfl,⟨t,rfl⟩,LQ h⟩
section
variable{w:World}{h₀ bG:Heap}{mH:List Str}{mJ:ExcName->Option Value}{mg mb:Str->Option Value}
theorem TO{P:Params}{h:Heap}{a:Addr}{d:WData}{ys:List WData}(x:Well P h (.ref a) d)(e:d=.list ys):∃vs k,h.get? a=some {cls:=.type "list",data:=.seq vs k}:=by
 cases x<;>first|(cases e;done)|skip
 rename_i h;exact⟨_,_,h⟩
theorem Wi(z:(hd.heap_39 w.params).In h₀)(T:Top hd.view_39 mH mJ mg mb h₀){a:Addr}{vs:List Value}{is:List Int}{k:Nat}(ha:h₀.get? a=some {cls:=.type "list",data:=.seq vs.toArray k})(B:IntsAre vs is)(hl:is.length<=63)(j:∀b o,h₀.get? b=some o->bG.get? b=some o):
  Rel (iZ mM (fun _=>0) (hN 0) w h₀) (gL w.params a) ⟨pg is,0⟩ bG where
 inj:=fun n b n' I x e J y=>by
  rcases Al e with⟨rfl,_⟩|e
  ·cases y
  ·obtain⟨i,hi,rfl,_⟩:=sI w e;have:16<=i:=nU (show Nat.ble 16 i=true from y);omega
 obj:=fun n=>by
  by_cases h:n=.s 10
  ·subst h;exact⟨a,vs.toArray,k,rfl,rfl,j _ _ ha,by simpa using LQ B,by simp[cD];show _<=100000;omega⟩
  ·show gS _ _ _ _ (mM.get (pg is) n)
   rw[Wh h];exact(L0 mM (fun _=>0) (hN 0) w h₀ (fun a o e=>j _ _ (z a o e)) n).mono (fun _ _ _ e=>Ny e) (fun b e=>Wg h b e) fun _ _ e=>e
 tup:=fun x vs e=>ur (DV w h₀ z e) (j x)
 old:=j
 fresh:=fun n b x e y=>by
  rcases Al e with⟨rfl,_⟩|e
  ·cases y
  ·obtain⟨i,hi,rfl,_⟩:=sI w e;have:16<=i:=nU (show Nat.ble 16 i=true from y);omega
 ok:=fun _ _ _ _=>rfl
 sys:=fun n b e=>by
  rcases Al e with⟨rfl,_,e⟩|e
  ·have S:=T.seer (by decide+kernel);obtain⟨K,⟨o,es,ep,h,p,_⟩,_⟩:=S.mods;rw[e,ha]at h;cases h;cases p
  ·obtain⟨i,hi,rfl,_,t⟩:=sI w e;have:=gR.mp Dh _ (iw t);simp at this
 sep:=fun n b x e=>by
  rcases Al e with⟨rfl,_,rfl⟩|e
  ·show rU _ x=none
   cases q:rU (hd.heap_39 w.params) x with
   |none=>rfl
   |some us=>obtain⟨o,t,p,_⟩:=DV w h₀ z q;rw[ha]at t;cases t;have p:Value.type "list"=.type "tuple":=p;injection p with p;exact absurd p (by decide)
  ·obtain⟨i,hi,rfl,_,t⟩:=sI w e;have:=gR.mp Dh _ (iw t);rw[cY,pI,pI]at this;show rU _ x=none
   unfold rU;rw[this.2];rfl
 oY:=fun _ _ _ e=>Ny e
 oZ:=fun _ _ e=>e
def aan:List (Nat×Str):=DS 0 ((OO[55]?.getD []).map Str.ofString)
def yi(e:Scope):Fi:=⟨e.names,aan,false⟩
def Nz(e:Scope):Bool:=(yi e).ok&&e.names.all (fun p=>!(p.2==.cell)&&!(p.2==.free))&&(yi e).ko (Str.ofString "script")==some .local
theorem ae0(I:(hd.heap_39 w.params).In h₀)(T:Top hd.view_39 mH mJ mg mb h₀){a:Addr}{vs:List Value}{is:List Int}{d:WData}{ys:List WData}(hW:Well w.params h₀ (.ref a) d)(W:d=.list ys)(hL:h₀.IsList a vs.toArray)(hI:IntsAre vs is)(hl:is.length<=63)
  {m:Str->Option Value} (F:Fr h₀ h₀.objs.size bG m) (hm:m (Str.ofString "script")=some (.ref a)) {name:Str} {t:Scope} {fa:Addr} {cd:Value} (hk:t.kind=.function) (dG:Nz t=true) {body:List Stmt} (hb:uT Tb (yi t) uF.bd body=true)
  {Q:Flow->Shared->Prop} {E:cV} {s:Shared} (hs:s.heap=bG) (q:∀h' Y tk,Fr h₀ h₀.objs.size h' Y->Q (.ret (.bool true)) {s with heap:=h',toks:=tk}):
  wpAny (model Challenge.rw_nm0051_01.row.prog w) (callerA.deeper (envOf name t h₀.objs.size fa cd)) (execs body (envOf name t h₀.objs.size fa cd)) Q E s:=by
 obtain⟨us,k,ha⟩:=TO hW W;have Z:us=vs.toArray:=by obtain⟨o,j,_,n,B⟩:=hL;rw[ha]at j;cases j;cases B;rfl
 subst Z;subst hs;unfold Nz at dG;rw[cY,cY,dM]at dG;obtain⟨⟨aa,J⟩,ab⟩:=dG;have K:∀y,¬(yi t).isFree y=true:=fun y h=>by
  unfold Fi.isFree at h;rw[m7,dM,dM]at h;rcases h with h|h
  ·have:=gR.mp J _ (nG h);simp at this
  ·have:=gR.mp J _ (nG h);simp at this
 have R:=Wi I T ha hI hl F.keep;obtain⟨l',bx,hx⟩:=We is hl;have U:h₀.get? h₀.objs.size=none:=m4;have G:Gd (iZ mM (fun _=>0) (hN 0) w h₀):=Nx I T;have fo:jw (iZ mM (fun _=>0) (hN 0) w h₀) (envOf name t h₀.objs.size fa cd) (yi t):=⟨hk,rfl,rfl,rfl,aa,fun y hy=>absurd hy (K y),fun h=>by cases h⟩
 have O:Loc (iZ mM (fun _=>0) (hN 0) w h₀) (envOf name t h₀.objs.size fa cd) (yi t).nm (gL w.params a) s.heap [.ref (.s 10),.no,.no,.no,.no,.no,.no,.no]:=by
  refine⟨⟨m,F.ns,fun i x y j B e3=>?_⟩,fun n b e=>?_,?_,U,fun y p e=>by cases e⟩
  ·match i,j with|0,j=>cases j;have e3:some (Str.ofString "script")=some y:=e3;cases e3;exact .inl ⟨(jw.ko fo _).trans ab,_,hm,a,rfl,rfl⟩|1,j=>cases j;exact absurd rfl B|2,j=>cases j;exact absurd rfl B|3,j=>cases j;exact absurd rfl B|4,j=>cases j;exact absurd rfl B|5,j=>cases j;exact absurd rfl B|6,j=>cases j;exact absurd rfl B|7,j=>cases j;exact absurd rfl B|n+8,j=>cases j
  ·have e:(gL w.params a).ad n b=some h₀.objs.size:=e;rcases Al e with⟨_,_,e⟩|e
   ·rw[←e]at ha;rw[U]at ha;cases ha
   ·obtain⟨o,h⟩:=MX w.params e;have:=I _ _ h;rw[U]at this;cases this
  ·show rU _ h₀.objs.size=none
   cases z:rU (hd.heap_39 w.params) h₀.objs.size with|none=>rfl|some us=>obtain⟨o,h,_⟩:=DV w h₀ I z;rw[U]at h;cases h
 have rm:Rm (callerA.deeper (envOf name t h₀.objs.size fa cd)) 25:=⟨rfl,by show 1+claimMargin+1+10*25+20<recursionLimit;decide,by show 4+3+100*25+200<cLine;decide⟩
 refine vA G (Ms _ _ mM rfl w h₀) rm (Tp (aam I T)) fo uF.bd body hb _ _ _ _ _ _ _ _ _ R O hx fun g' h' tk f S R' F' V=>?_
 obtain⟨u,rfl,hu⟩:=V;have hu:u=.bool true:=hu;subst hu;obtain⟨Y,hn,_⟩:=F'.ns;exact q h' Y tk ⟨hn,R'.old,F.above⟩
end
end
end
end Mine
open PySem PySem.W PyProof.Rows
set_option maxHeartbeats 8000000 in
theorem PySem.Challenge.cw_nm0051_01_holds : PySem.Challenge.rw_nm0051_01.Holds := by
  exact hd (by
    k_go0
    rename_i hI _ hc _ _ _ _ _ _
    refine Mine.ae0 (by assumption) (by assumption) (by assumption) (by rfl) (by assumption) (by assumption) (by omega) (by assumption) (by rfl) (by rfl) (by with_unfolding_all rfl) (by with_unfolding_all rfl) rfl fun h' m' tk F' => ?_
    refine goodW_bool F' (by assumption) (raisesW_false ?_) ?_
    · wrow_none_raised
    · wrow_post)
