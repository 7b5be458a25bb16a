import PyProof.Rows.All
import Wide.All
import OpenK.AllK
import Wide.FinOn
import KE.KBytesCut
import KE.KBytesWalk
import PyProof.ExcBaseAll.Exception
import PyProof.NsDelKeeps
import PyProof.ExcAttrAll.Exception
import KE.BitLaws
import Lean
import PySem.Challenge.RW_rg0336_01
set_option Elab.async false
set_option maxRecDepth 100000
set_option maxHeartbeats 0
set_option linter.all false
set_option genInjectivity false
set_option genSizeOf false
set_option genSizeOfSpec false
set_option genCtorIdx false
set_option bootstrap.genMatcherCode false
set_option tactic.hygienic false
namespace Mine
noncomputable section
open PySem PySem.W
open PyProof.Rows hiding st dl lo cnt scan K
open PySem.W.SL _root_.Int PySem.Builtin.List PySem.SeqAt PySem.Challenge PySem.Builtin.Slice PySem.Builtin.ObjectAttr PySem.Calls PySem.Builtin.Tuple
open _root_.List hiding all and cons get head nil or replace set
open _root_.Nat hiding all succ zero
open PySem.Heap hiding Ns mk staticsOk update
open _root_.Bool hiding and decide_eq_false decide_eq_true false not or or_false toNat toNat_le true
open PySem.W.Fast hiding base code
open PySem.F hiding entry_tuple_getitem slot_list_getitem slot_tuple_getitem
open PySem.Builtin.Range hiding small
open PySem.Builtin (bitAnd bitOr)
open _root_.Array (getElem?_toList length_toList toList_append toList_push)
open PySem.PyData (canLay0 canLayAll0 depthAll eqv keyHash tuple)
open PySem.Str (empty ofString)
open PySem.Value (builtin ref type)
open _root_.Option (bind_some isSome_iff_exists map_eq_some_iff)
open PySem.Obj (mapSeq putName)
section
universe u
def Cb{P:Prop}(h:none=some x):P:=by injection h
def noN{P:Prop}(h:some x=none):P:=by injection h
def Ec{P:Prop}(h:false=true):P:=by injection h
def tS{P:Prop}(h:true=false):P:=by injection h
def dac{P:Prop}(h:some a=some c)(k:c=a->P):P:=by (injection h with h;subst h);exact k rfl
set_option genCtorIdx true in
inductive FV where|none|bool (b:Bool)|int (i:Int)|str (s:Str)|bytes (b:List Nat)|tup (vs:List FV)|lst (vs:List FV)
inductive AV where|v (f:FV)|o (i:Nat)
set_option genCtorIdx true in
inductive Slot where|u|a (x:AV)|own (l:List FV)
inductive PO where|inst (c:Nat) (fs:List (Nat×AV))|dl (l:List FV)
noncomputable abbrev ia:=List PO
abbrev Res(a:Type):=Option (Except FV a×ia)
def bnd(m:Res b)(k:b->ia->Res c):Res c:=match m with|some (.ok a,st)=>k a st|some (.error e,st)=>some (.error e,st)|none=>none
def ok(a:b)(st:ia):Res b:=some (.ok a,st)
def lift(x:Option b)(st:ia):Res b:=match x with|some a=>some (.ok a,st)|none=>none
mutual
noncomputable def FV.py:FV->Option PyData
 | .none=>some .none| .bool b=>some (.bool b)| .int i=>some (.int i)| .str s=>some (.str s)| .bytes x=> .none| .tup vs=>match FV.pys vs with|some l=>some (.tuple l)| .none=> .none
 | .lst vs=>match FV.pys vs with|some l=>some (.list l)| .none=> .none
noncomputable def FV.pys:List FV->Option (List PyData)| []=>some []|x::xs=>match FV.py x,FV.pys xs with|some a,some l=>some (a::l)|y,b=> .none
end
noncomputable def br(b:Bool)(x y:a):a:=match b with|true=>x|false=>y
noncomputable def Qy(a:Int):Bool:=decide (-18446744073709551616<a)&&decide (a<18446744073709551616)
def rN:∃f:Int->Bool,f=Qy:=⟨_,rfl⟩
noncomputable def small:Int->Bool:=Classical.choose rN
def Yb(a:Int):small a=Qy a:=congrFun (Classical.choose_spec rN) a
noncomputable def big:Nat:=10000
noncomputable def isNone:FV->Bool| .none=>true|x=>false
def gd(c:Bool)(x:a):Option a:=br c (some x) none
def ze{x r:a}{P:Prop}(h:gd c x=some r)(k:c=true->x=r->P):P:=by induction c with|true=>exact k rfl (Option.some.inj h)|false=>exact Cb h
noncomputable def Iy(a:FV)(k:Int->Option b):Option b:=match a with| .int x=>k x|y=>none
noncomputable def yt(a:FV)(k:List Nat->Option b):Option b:=match a with| .bytes x=>k x|y=>none
noncomputable def onStr(a:FV)(k:Str->Option b):Option b:=match a with| .str x=>k x|y=>none
noncomputable def Ky(a:FV)(k:List FV->Option b):Option b:=match a with| .lst x=>k x|y=>none
section
variable {α:Type} {a b:FV} {r:α} {P:Prop}
def Ql(h:Iy a k=some r)(H:∀x,a= .int x->k x=some r->P):P:=by cases a with|int x=>exact H x rfl h| _=>exact Cb h
def wk(h:yt a k=some r)(H:∀x,a= .bytes x->k x=some r->P):P:=by cases a with|bytes x=>exact H x rfl h| _=>exact Cb h
def bC(h:onStr a k=some r)(H:∀x,a= .str x->k x=some r->P):P:=by cases a with|str x=>exact H x rfl h| _=>exact Cb h
def YB(h:Ky a k=some r)(H:∀x,a= .lst x->k x=some r->P):P:=by cases a with|lst x=>exact H x rfl h| _=>exact Cb h
def Tf(a b:FV)(k:Int->Int->Option α):Option α:=Iy a λx=>Iy b λy=>k x y
def AO(h:Tf a b k=some r)(H:∀x y,a= .int x->b= .int y->k x y=some r->P):P:=Ql h λx e h=>Ql h λy c h=>H x y e c h
end
def Gab(a b:FV):Option FV:=(Tf a b λx y=>some (.int (x+y))).or ((yt a λx=>yt b λy=>gd (decide (x.length+y.length<=big)) (.bytes (x++y))).or (Ky a λx=>Ky b λy=>gd (decide (x.length+y.length<=big)) (.lst (x++y))))
def Ia(c:Operator)(a b:FV):Option FV:=match c with| .Add=>Gab a b| .Sub=>Tf a b λa b=>some (.int (a-b))| .Mult=>Tf a b λa b=>gd (small a&&small b) (.int (a*b))| .FloorDiv=>Tf a b λa b=>gd (!decide (b=0)&&decide (b.natAbs<1073741824)) (.int (a.fdiv b))| .Mod=>Tf a b λa b=>gd (!decide (b=0)) (.int (a.fmod b))| .LShift=>Tf a b λa b=>gd (decide (0<=b)&&decide (b<=64)&&small a) (.int (a*2^b.toNat))| .RShift=>Tf a b λa b=>gd (decide (0<=b)) (.int (a.fdiv (2^b.toNat)))| .BitAnd=>Tf a b λa b=>some (.int (bitAnd a b))| .BitOr=>Tf a b λa b=>some (.int (bitOr a b))| .Pow=>Tf a b λa b=>gd (decide (0<=b)&&decide (b<=64)&&small a) (.int (a^b.toNat))|x=>none
noncomputable def Ug(a:Option b)(k:b->Option c):Option c:=match a with|some x=>k x|none=>none
def Ke{k:b->Option c}{P:Prop}(h:Ug a k=some r)(H:∀x,a=some x->k x=some r->P):P:=by induction a with|some x=>exact H x rfl h|none=>exact Cb h
def Ao{r:e}{P:Prop}(h:a.or b=some r)(c:a=some r->P)(d:b=some r->P):P:=by induction a with|some x=>exact c h|none=>exact d h
def PR(a b:FV):Option Bool:=Ug a.py λx=>Ug b.py λy=>gd (shaped x&&shaped y) (eqv x y)
def Oh(a b:FV):Option Bool:=(onStr a λx=>onStr b λy=>some (x==y)).or ((PR a b).or (yt a λx=>yt b λy=>some (x==y)))
def Fd:List FV->Option (List Int)| []=>some []|x::r=>Iy x λi=>Ug (Fd r) λl=>some (i::l)
def inF(x:Int)(b:FV):Option Bool:=(yt b λl=>gd (decide (0<=x)&&decide (x<256)) (l.any λy=>decide ((y:Int)=x))).or (match b with| .tup l=>Ug (Fd l) λl=>some (l.any λy=>decide (y=x))|a=>none)
def yb(c:CmpOp)(a b:FV):Option Bool:=match c with| .Lt=>Tf a b λx y=>some (decide (x<y))| .LtE=>Tf a b λx y=>some (decide (x<=y))| .Gt=>Tf a b λx y=>some (decide (x>y))| .GtE=>Tf a b λx y=>some (decide (x≥y))| .Eq=>Oh a b| .NotEq=>(Oh a b).map not| .Is=>gd (isNone b) (isNone a)| .IsNot=>gd (isNone b) (!isNone a)| .In=>Iy a λx=>inF x b| .NotIn=>none
noncomputable def MR(a:Option Int)(n:Nat):Nat:=a.elim 0 (clipAt n)
def cut(l:List c)(a b:Option Int):List c:=(l.drop (MR a l.length)).take (b.elim l.length (clipAt l.length)-MR a l.length)
def Va(a:FV)(c b:Option Int):Option FV:=match a with
 | .bytes l=>if l.length<=big then some (.bytes (cut l c b)) else none| .lst l=>if l.length<=big then some (.lst (cut l c b)) else none| .tup l=>match c,b with|none,some k=>if decide (0<=k)&&decide (l.length<=big) then some (.tup (l.take k.toNat)) else none|x,y=>none
 |x=>none
def jc(a:FV)(i:Int):Option FV:=if i<0 then (match a with| .lst l=>if decide (l.length<=big)&&decide (0<=i+l.length) then l[(i+l.length).toNat]? else none|y=>none) else match a with| .bytes l=>if l.length<=big then (l[i.toNat]?).map (λ(x:Nat)=>FV.int (x:Int)) else none| .lst l=>if l.length<=big then l[i.toNat]? else none| .tup l=>if l.length<=big then l[i.toNat]? else none|y=>none
def Iw:FV->Option Nat| .bytes l=>if l.length<=big then some l.length else none| .lst l=>if l.length<=big then some l.length else none| .tup l=>if l.length<=big then some l.length else none|x=>none
def pb:FV->Option (List FV)| .bytes l=>if l.length<=big then some (l.map λ(x:Nat)=>FV.int (x:Int)) else none| .lst l=>if l.length<=big then some l else none| .tup l=>if l.length<=big then some l else none|a=>none
def Jj:FV->Option FV
 | .lst l=>match Fd l with|some ns=>if ns.all (λn=>decide (0<=n)&&decide (n<256))&&decide (ns.length<=big) then some (.bytes (ns.map toNat)) else none|none=>none
 |x=>none
def sumF:FV->Option FV
 | .tup l=>match Fd l with|some ns=>if ns.length<=big then some (.int ns.sum) else none|none=>none
 |x=>none
noncomputable def mid(n:Int):Bool:=decide (-10000<=n)&&decide (n<=10000)
noncomputable def Ye(a b:Int):List FV:=(range (b-a).toNat).map λ(k:Nat)=> .int (a+k)
noncomputable def numbered:Nat->List FV->List FV|a,[]=> []|n,x::r=> .tup [.int n,x]::numbered (n+1) r
set_option genCtorIdx true in
inductive E where|cst (c:FV)|var (i:Nat)|glob (x:Nat)|bin (op:Operator) (a b:E)|cmp (op:CmpOp) (a b:E)|cmp2 (p q:CmpOp) (a b c:E)|and (a b:E)|or (a b:E)|not (a:E)|ite (c a b:E)|neg (n:Nat)|idx (a i:E)|idxv (x:Nat) (i:E)|slc (a lo hi:E)|rev (a:E)|tup (es:E)|lst (es:E)|nil|cons (a es:E)|call (f:Nat) (es:E)|len (a:E)|lenv (x:Nat)|listf (a:E)|bytesf (a:E)|intf (a:E)|sumf (a:E)|make (c:Nat) (es:E)|meth (a:E) (m:Nat) (es:E)|attr (a:E) (m:Nat)|pop (x:Nat)|emptyq (x:Nat)|rng (a:E)|rng2 (a b:E)|enm (a:E)|comp (elt it:E) (caps:List Nat)
structure wb where
 glob:Nat->Option FV
 call:Nat->List AV->ia->Res AV
 meth:Nat->Nat->List AV->ia->Res AV
 fresh:Nat->List AV->ia->Res (List FV)
noncomputable def Fw:List (Nat×Nat):= [(0,1),(0,2),(0,3),(0,4),(0,5),(1,9),(2,12),(2,13),(2,2),(2,14),(3,13),(3,16),(3,1)]
noncomputable def BF:List (Nat×Nat):= [(0,999),(0,10),(0,6),(0,7),(0,8),(0,11),(1,999),(1,0),(2,999),(2,0),(2,15),(3,999),(3,0)]
def sd(c m:Nat):Bool:=Fw.any λp=>beq p.1 c&&beq p.2 m
def Nb(c m:Nat):Bool:=BF.any λp=>beq p.1 c&&beq p.2 m
noncomputable def fv:AV->Option FV| .v f=>some f| .o x=>none
def qW{P:AV->Prop}(h:fv x=some f)(H:P (.v f)):P x:=by induction x with|v g=>exact Option.some.inj h▸H|o a=>exact Cb h
def onV(m:Res AV)(k:FV->ia->Res b):Res b:=bnd m λx st=>match x with| .v f=>k f st| .o a=>none
def retV(x:Option FV)(st:ia):Res AV:=match x with|some f=>some (.ok (.v f),st)|none=>none
def retB(x:Option Bool)(st:ia):Res AV:=match x with|some b=>some (.ok (.v (.bool b)),st)|none=>none
def onB(m:Res AV)(k:Bool->ia->Res c):Res c:=bnd m λx st=>match x with| .v (.bool b)=>k b st|a=>none
def onI(m:Res AV)(k:Int->ia->Res b):Res b:=bnd m λx st=>match x with| .v (.int i)=>k i st|a=>none
def fvs:List AV->Option (List FV)| []=>some []|x::r=>Ug (fv x) λf=>Ug (fvs r) λl=>some (f::l)
def foldC(f:FV->ia->Res AV):List FV->ia->Res (List FV)| [],st=>ok [] st|x::r,st=>onV (f x st) λy st=>bnd (foldC f r st) λl st=>ok (y::l) st
noncomputable def Lb:Option Slot->Option AV|some (.a x)=>some x|y=>none
def Kj(sl:List Slot):List Nat->Option (List Slot)| []=>some []|i::r=>match Lb sl[i]?,Kj sl r with|some x,some l=>some (.a x::l)|y,b=>none
noncomputable def zy:List (Nat×AV)->Nat->Option AV| [],a=>none|(k,x)::r,m=>if k=m then some x else zy r m
def VP:FV->Option FV| .lst l=>if l.length<=big then some (.lst l.reverse) else none|x=>none
def AL:Option (List FV)->Option FV|some l=>if l.length<=big then some (.tup l) else none|none=>none
def yF:Option (List FV)->Option FV|some l=>if l.length<=big then some (.lst l) else none|none=>none
def Rg(x:FV):Option FV:=match Iw x with|some n=>some (.int n)|none=>none
def nv(x:FV):Option FV:=match pb x with|some l=>some (.lst l)|none=>none
noncomputable def isNil(e:E):Bool:=beq e.ctorIdx 17
def fB(e:E)(r:Res AV)(st:ia):Res (Option Int):=match isNil e with|true=>ok none st|false=>onI r λx st=>ok (some x) st
def cQ(r:Res AV):Res (List FV):=onI r λn st=>if mid n then ok (Ye 0 n) st else none
def SK(r:Res AV)(f:ia->Res AV):Res (List FV):=onI r λn st=>onI (f st) λm st=>if mid n&&mid m then ok (Ye n m) st else none
def oE(r:Res AV):Res (List FV):=onV r λx st=>match x with| .lst l=>if l.length<=big then ok (numbered 0 l) st else none|a=>none
def kS(r:Res (List FV)):Res AV:=bnd r λl st=>ok (.v (.lst l)) st
def unL(r:Res AV):Res (List FV):=onV r λx st=>match x with| .lst l=>ok l st|a=>none
def itR(r:Res AV):Res (List FV):=onV r λx st=>match pb x with|some l=>ok l st|none=>none
noncomputable def isJ(e:E):Bool:=beq e.ctorIdx 31||beq e.ctorIdx 32||beq e.ctorIdx 33
def iR(it:E)(r:Res AV):Res (List FV):=match isJ it with|true=>unL r|false=>itR r
mutual
noncomputable def pa(O:wb):E->List Slot->ia->Res AV
 | .cst c,t,st=>ok (.v c) st| .var i,sl,st=>lift (Lb sl[i]?) st| .glob x,t,st=>retV (O.glob x) st| .bin o a b,sl,st=>onV (pa O a sl st) λx st=>onV (pa O b sl st) λy st=>retV (Ia o x y) st| .cmp o a b,sl,st=>onV (pa O a sl st) λx st=>onV (pa O b sl st) λy st=>retB (yb o x y) st| .cmp2 p q a b c,sl,st=>onV (pa O a sl st) λx st=>onV (pa O b sl st) λy st=>match yb p x y with|some u=>br u (onV (pa O c sl st) λz st=>retB (yb q y z) st) (ok (.v (.bool false)) st)|none=>none
 | .and a b,sl,st=>onB (pa O a sl st) λx st=>match x with|true=>onB (pa O b sl st) λy st=>ok (.v (.bool y)) st|false=>ok (.v (.bool false)) st
 | .or a b,sl,st=>onB (pa O a sl st) λx st=>match x with|true=>ok (.v (.bool true)) st|false=>onB (pa O b sl st) λy st=>ok (.v (.bool y)) st
 | .not a,sl,st=>onB (pa O a sl st) λx st=>ok (.v (.bool (!x))) st| .ite c a b,sl,st=>onB (pa O c sl st) λx st=>match x with|true=>pa O a sl st|false=>pa O b sl st
 | .neg n,t,st=>ok (.v (.int (-(n:Int)))) st| .idx a i,sl,st=>onV (pa O a sl st) λx st=>onI (pa O i sl st) λk st=>retV (jc x k) st| .idxv x i,sl,st=>match sl[x]? with|some (.own l)=>onI (pa O i sl st) λk st=>retV (jc (.lst l) k) st|t=>none
 | .slc a w v,sl,st=>onV (pa O a sl st) λx st=>bnd (fB w (pa O w sl st) st) λl st=>bnd (fB v (pa O v sl st) st) λh st=>retV (Va x l h) st| .rev a,sl,st=>onV (pa O a sl st) λx st=>retV (VP x) st| .tup es,sl,st=>bnd (Ef O es sl st) λl st=>retV (AL (fvs l)) st| .lst es,sl,st=>bnd (Ef O es sl st) λl st=>retV (yF (fvs l)) st| .call f es,sl,st=>bnd (Ef O es sl st) λl st=>O.call f l st| .len a,sl,st=>onV (pa O a sl st) λx st=>retV (Rg x) st| .lenv x,sl,st=>match sl[x]? with|some (.own l)=>if l.length<=big then ok (.v (.int l.length)) st else none|t=>none
 | .listf a,sl,st=>onV (pa O a sl st) λx st=>retV (nv x) st| .bytesf a,sl,st=>onV (pa O a sl st) λx st=>retV (Jj x) st| .intf a,sl,st=>onI (pa O a sl st) λx st=>ok (.v (.int x)) st| .sumf a,sl,st=>onV (pa O a sl st) λx st=>retV (sumF x) st| .make c es,sl,st=>if Nb c 999 then bnd (Ef O es sl st) λl st=>bnd (O.meth c 999 (.o st.length::l) (st++ [.inst c []])) λx st'=>match x with| .v .none=>ok (.o st.length) st'|t=>none
  else none
 | .meth a m es,sl,st=>bnd (pa O a sl st) λx st=>match x with
  | .o i=>match st[i]? with|some (.inst c t)=>if Nb c m then bnd (Ef O es sl st) λl st=>O.meth c m (.o i::l) st else none|t=>none
  | .v t=>none
 | .attr a m,sl,st=>bnd (pa O a sl st) λx st=>match x with
  | .o i=>match st[i]? with|some (.inst c fs)=>if sd c m then lift (zy fs m) st else none|t=>none
  | .v t=>none
 | .pop x,sl,st=>match sl[x]? with
  |some (.a (.o i))=>match st[i]? with
   |some (.dl l)=>match l.getLast? with|some y=>if l.length<=big then ok (.v y) (st.set i (.dl l.dropLast)) else none|none=>none
   |t=>none
  |t=>none
 | .emptyq x,sl,st=>match sl[x]? with
  |some (.a (.o i))=>match st[i]? with|some (.dl l)=>retB (Oh (.lst l) (.lst [])) st|t=>none
  |t=>none
 | .comp g it e,sl,st=>bnd (iR it (pa O it sl st)) λl st=>match Kj sl e with|some c=>if l.length<=big then (match foldC (λx st=>pa O g (c++ [.a (.v x)]) st) l st with|some (.ok r,st)=>ok (.v (.lst r)) st|t=>none) else none|none=>none
 | .rng a,sl,st=>kS (cQ (pa O a sl st))| .rng2 a b,sl,st=>kS (SK (pa O a sl st) λst=>pa O b sl st)| .enm a,sl,st=>kS (oE (pa O a sl st))| .nil,t,s=>none| .cons t s,j,d=>none
noncomputable def Ef(O:wb):E->List Slot->ia->Res (List AV)| .nil,y,st=>ok [] st| .cons a es,sl,st=>bnd (pa O a sl st) λx st=>bnd (Ef O es sl st) λl st=>ok (x::l) st|y,b,z=>none
end
def QR(O:wb)(e:E)(sl:List Slot)(st:ia):Res (Option Int):=fB e (pa O e sl st) st
def Sd(O:wb)(it:E)(sl:List Slot)(st:ia):Res (List FV):=iR it (pa O it sl st)
def qB(r:Res (List FV)):unL (kS r)=r:=by induction r with|none=>rfl|some x=>obtain ⟨y,st⟩:=x;induction y<;>rfl
def LB:Sd O (.rng a) sl st=cQ (pa O a sl st):=qB _
def ey:Sd O (.rng2 a b) sl st=SK (pa O a sl st) λst=>pa O b sl st:=qB _
def JB:Sd O (.enm a) sl st=oE (pa O a sl st):=qB _
section
variable {O:wb} {sl:List Slot} {st:ia} {a es e:E} {i N:Nat}
end
inductive T where|v (i:Nat)|a (m:Nat)
inductive S where|skip|seq (a b:S)|frz (i:Nat)|asg (i:Nat) (e:E)|own (i:Nat)|ownl (i:Nat) (e:E)|share (i:Nat) (f:Nat) (es:E)|asgs (ts:List (Nat×Bool)) (es:E)|unp (ts:List T) (e:E)|asgA (m:Nat) (e:E)|aug (i:Nat) (op:Operator) (e:E)|app (i:Nat) (e:E)|ext (i:Nat) (e:E)|rvs (i:Nat)|oapp (i:Nat) (e:E)|exp (e:E)|ifs (c:E) (a b:S)|whl (c:E) (b:S)|fors (ts:List Nat) (it:E) (b:S)|ret (e:E)|brk|rai (e:E)|bad|tryr (i:Nat) (e:E)
inductive Fl where|next|brk|ret (x:AV)|exc (t:FV)
abbrev Bb:=Option (Fl×List Slot×ia)
def sE(m:Res b)(sl:List Slot)(k:b->ia->Bb):Bb:=match m with|some (.ok a,st)=>k a st|some (.error e,st)=>some (.exc e,sl,st)|none=>none
def sV(m:Res AV)(sl:List Slot)(k:FV->ia->Bb):Bb:=sE m sl λx st=>match x with| .v f=>k f st| .o a=>none
noncomputable def consO(y:Slot):Option (List Slot)->Option (List Slot)|some r=>some (y::r)|none=>none
def put:List Slot->Nat->Slot->Option (List Slot)| [],a,b=>none|a::r,0,x=>some (x::r)|y::r,i+1,x=>consO y (put r i x)
theorem mh:∀{sl d:List Slot} {i:Nat} {z:Slot},put sl i z=some d->i<sl.length/\d=sl.set i z| [],a,b,c,h=>by injection h|a::b,c,0,u,h=>by (injection h with h;subst h);exact ⟨succ_pos _,rfl⟩|y::r,a,i+1,x,h=>by induction q:put r i x with|none=>rw [put,q] at h;injection h|some g=>rw [put,q] at h;(injection h with h;subst h);obtain ⟨e,f⟩:=mh q;exact ⟨succ_lt_succ e,by rw [f];rfl⟩
def Hi(sl:Option (List Slot))(st:ia):Bb:=match sl with|some sl=>some (.next,sl,st)|none=>none
noncomputable def qg:List (Nat×AV)->Nat->AV->List (Nat×AV)| [],m,x=> [(m,x)]|(k,y)::r,m,x=>if k=m then (k,x)::r else (k,y)::qg r m x
def Hb(sl:List Slot)(st:ia)(m:Nat)(x:AV):Option ia:=match (sl[0]? :Option Slot) with
 |some (.a (.o i))=>match st[i]? with|some (.inst c fs)=>if sd c m&&decide (fs.length<90) then some (st.set i (.inst c (qg fs m x))) else none|y=>none
 |y=>none
def UZ(t:T)(x:AV)(sl:List Slot)(st:ia):Option (List Slot×ia):=match t with
 | .v i=>match put sl i (.a x) with|some sl=>some (sl,st)|none=>none
 | .a m=>match Hb sl st m x with|some st=>some (sl,st)|none=>none
def Nf:List T->List AV->List Slot->ia->Option (List Slot×ia)
 | [],[],sl,st=>some (sl,st)|t::c,x::xs,sl,st=>match UZ t x sl st with|some (sl,st)=>Nf c xs sl st|none=>none
 |a,y,b,z=>none
def bindL:List Nat->FV->List Slot->Option (List Slot)
 | [i],x,sl=>put sl i (.a (.v x))| [i,j],.tup [x,y],sl=>match put sl i (.a (.v x)) with|some sl=>put sl j (.a (.v y))|none=>none
 |b,z,c=>none
def vd(O:wb):List (Nat×Bool)->E->List Slot->ia->Res (List Slot)| [],.nil,y,st=>ok [] st|(y,false)::d,.cons a es,sl,st=>bnd (pa O a sl st) λx st=>bnd (vd O d es sl st) λl st=>ok (.a x::l) st|(y,true)::d,.cons (.lst .nil) es,sl,st=>bnd (vd O d es sl st) λl st=>ok (.own []::l) st|y,b,z,c=>none
def Sl:List (Nat×Bool)->List Slot->List Slot->Option (List Slot)
 | [],[],sl=>some sl|(i,a)::r,x::xs,sl=>match put sl i x with|some sl=>Sl r xs sl|none=>none
 |a,y,b=>none
def ai(r:Bb)(k:List Slot->ia->Bb):Bb:=match r with|some (.next,sl,st)=>k sl st|some (.brk,sl,st)=>some (.next,sl,st)|z=>z
def runs(b:List Slot->ia->Bb)(a:List Nat):List FV->List Slot->ia->Bb| [],sl,st=>some (.next,sl,st)|x::r,sl,st=>match bindL a x sl with|none=>none|some sl=>ai (b sl st) (runs b a r)
def loops(c:List Slot->ia->Res AV)(b:List Slot->ia->Bb):Nat->List Slot->ia->Bb|0,y,z=>none|n+1,sl,st=>sE (Mine.onB (c sl st) λu st=>ok u st) sl λx st=>match x with|true=>ai (b sl st) (loops c b n)|false=>some (.next,sl,st)
noncomputable def FE(x:Nat):List (Nat×Bool)->Bool| []=>true|(y,a)::r=> !(x==y)&&FE x r
def distinct:List (Nat×Bool)->Bool| []=>true|(x,a)::r=>FE x r&&distinct r
theorem NB:∀{l:List (Nat×Bool)},FE x l=true->x∉l.map (·.1)
 | [],a=>by simp|(y,a)::r,h=>by
  obtain ⟨c,d⟩:=and_eq_true_iff.mp h;intro b;rcases mem_cons.mp b with e|b;·rw [show (x==y)=true from beq_iff_eq.mpr e] at c;injection c
  ·exact NB d b
theorem Jr:∀{l:List (Nat×Bool)},distinct l=true->(l.map (·.1)).Nodup| [],x=>nodup_nil|(x,a)::y,h=>by obtain ⟨b,c⟩:=and_eq_true_iff.mp h;exact nodup_cons.mpr ⟨NB b,Jr c⟩
noncomputable def wO(sl:List Slot)(i:Nat):Option Slot->Option (List Slot)|some (.own l)=>some (sl.set i (.a (.v (.lst l))))|x=>none
noncomputable def rz(c:Operator):FV->FV->Option FV
 | .int x,.int y=>match c with| .Add=>some (.int (x+y))| .Sub=>some (.int (x-y))|a=>none
 |a,b=>none
def tf(l:List FV)(x:FV):Option (List FV):=if l.length<big then some (l++ [x]) else none
def Pg(l:List FV):FV->Option (List FV)| .lst m=>if l.length+m.length<=big then some (l++m) else none|x=>none
def Ak(sl:List Slot)(i:Nat)(l:Option (List FV))(st:ia):Bb:=match l with|some l=>some (.next,sl.set i (.own l),st)|none=>none
def ua(O:wb)(n:Nat):S->List Slot->ia->Bb
 | .skip,sl,st=>some (.next,sl,st)| .seq a b,sl,st=>match ua O n a sl st with|some (.next,sl,st)=>ua O n b sl st|z=>z
 | .frz i,sl,st=>Hi (wO sl i sl[i]?) st| .asg i e,sl,st=>sE (pa O e sl st) sl λx st=>Hi (put sl i (.a x)) st| .own i,sl,st=>Hi (put sl i (.own [])) st| .ownl i e,sl,st=>sV (pa O e sl st) sl λx st=>Hi ((pb x).bind λl=>put sl i (.own l)) st| .share i f es,sl,st=>sE (Ef O es sl st) sl λl st=>sE (O.fresh f l st) sl λl st=>Hi (put sl i (.a (.o st.length))) (st++ [.dl l])| .asgs d es,sl,st=>sE (vd O d es sl st) sl λl st=>br (distinct d) (Hi (Sl d l sl) st) none| .unp d e,sl,st=>sV (pa O e sl st) sl λx st=>match x with
  | .tup l=>match Nf d (l.map .v) sl st with|some (sl,st)=>some (.next,sl,st)|none=>none
  |k=>none
 | .asgA m e,sl,st=>sE (pa O e sl st) sl λx st=>match Hb sl st m x with|some st=>some (.next,sl,st)|none=>none
 | .aug i g e,sl,st=>match Lb sl[i]? with|some (.v (.int x))=>sV (pa O e sl st) sl λy st=>Hi ((rz g (.int x) y).bind λz=>put sl i (.a (.v z))) st|k=>none
 | .app i e,sl,st=>match sl[i]? with|some (.own l)=>sV (pa O e sl st) sl λx st=>Ak sl i (tf l x) st|k=>none
 | .ext i e,sl,st=>match sl[i]? with|some (.own l)=>sV (pa O e sl st) sl λx st=>Ak sl i (Pg l x) st|k=>none
 | .rvs i,sl,st=>match sl[i]? with|some (.own l)=>if l.length<=big then some (.next,sl.set i (.own l.reverse),st) else none|k=>none
 | .oapp x e,sl,st=>match Lb sl[x]? with
  |some (.o i)=>match st[i]? with
   |some (.dl k)=>sV (pa O e sl st) sl λy st=>match st[i]? with|some (.dl l)=>if l.length<big then some (.next,sl,st.set i (.dl (l++ [y]))) else none|k=>none
   |k=>none
  |k=>none
 | .exp e,sl,st=>sE (pa O e sl st) sl λk st=>some (.next,sl,st)| .ifs c a b,sl,st=>sV (pa O c sl st) sl λx st=>match x with| .bool u=>br u (ua O n a sl st) (ua O n b sl st)|k=>none
 | .whl c b,sl,st=>loops (pa O c) (ua O n b) n sl st| .fors d it b,sl,st=>sE (Sd O it sl st) sl λl st=>runs (ua O n b) d l sl st| .ret e,sl,st=>sE (pa O e sl st) sl λx st=>some (.ret x,sl,st)| .brk,sl,st=>some (.brk,sl,st)| .rai e,sl,st=>sV (pa O e sl st) sl λx st=>some (.exc x,sl,st)| .bad,k,p=>none| .tryr k e,sl,st=>match pa O e sl st with|some (.ok x,st)=>some (.ret x,sl,st)|some (.error (.tup [t,k]),st)=>some (.ret (.v (.tup [.lst [],t])),sl,st)|k=>none
section
variable {O:wb} {sl:List Slot} {st:ia} {e:E} {i N:Nat} {op:Operator}
end
structure Fn where
 npar:Nat
 nslot:Nat
 dflt:List FV
 body:S
def Ed(O:wb)(n:Nat)(f:Fn)(b:List AV)(st:ia):Res AV:=let b:=b++((f.dflt.drop (b.length+f.dflt.length-f.npar)).map AV.v)
 match b.length==f.npar with|true=>(match ua O n f.body (b.map Slot.a++replicate (f.nslot-f.npar) Slot.u) st with|some (.ret x,a,st)=>some (.ok x,st)|some (.next,a,st)=>some (.ok (.v .none),st)|some (.exc e,a,st)=>some (.error e,st)|a=>none)|false=>none
end
noncomputable def c0:Str:=ofString "be"
noncomputable def c1:Str:=ofString "odd end"
noncomputable def c2:Str:=ofString "low"
noncomputable def c3:Str:=ofString ""
noncomputable def c4:Str:=ofString "high"
noncomputable def c5:Str:=ofString "le"
noncomputable def c6:Str:=ofString "surrogate"
noncomputable def c7:Str:=ofString "beyond"
noncomputable def c8:Str:=ofString "trail"
noncomputable def c9:Str:=ofString "code"
noncomputable def c10:Str:=ofString "short"
noncomputable def c11:Str:=ofString "a sign that may not stand for itself"
noncomputable def c12:Str:=ofString "a run without signs"
noncomputable def JV:Str:=ofString "bits that are left over"
noncomputable def xB:Str:=ofString "a surrogate without its other half"
noncomputable def KV:Str:=ofString "a run that isn't closed"
noncomputable def YH:Str:=ofString "a code in a run that stands for itself"
noncomputable def c17:Str:=ofString "a run straight behind another one"
noncomputable def LV:Str:=ofString "a trail octet without a lead"
noncomputable def MV:Str:=ofString "an octet that never stands"
noncomputable def PL:Str:=ofString "a sequence that breaks off"
noncomputable def Rk:Str:=ofString "a sequence that is cut short"
noncomputable def c22:Str:=ofString "a lone surrogate"
noncomputable def c23:Str:=ofString "a pair of surrogates"
noncomputable def c24:Str:=ofString "a sequence of four octets"
noncomputable def c25:Str:=ofString "a code 0 of one octet"
def JE:List FV:= [(.int 1114111),(.int 55296),(.int 56319),(.int 56320),(.int 57343),(.int 65533),(.int 65279),(.int 65536),(.int 43),(.int 38),(.int 45),(.int 44),(.int 47),(.bytes [39,40,41,44,45,46,47,58,63,9,10,13,32]),(.bytes [33,34,35,36,37,38,42,59,60,61,62,64,91,93,94,95,96,123,124,125]),(.int 6),(.int 16),(.str c11),(.str c12),(.str JV),(.str xB),(.str KV),(.str YH),(.str c17),(.int 32),(.int 255),(.int 64),(.int 128),(.int 144),(.int 64),(.tup [(.int 43),(.int 3),(.int 1)]),(.int 243),(.int 13),(.int 12352),(.int 12447),(.int 12400),(.int 19968),(.int 40869),(.int 44032),(.int 55203),(.str c0),(.int 10),(.int 1023),(.str LV),(.str MV),(.str PL),(.str Rk),(.str c22),(.str c23),(.str c24),(.str c25),(.int 128),(.int 65536),(.int 55296),(.int 56320),(.lst [(.lst [(.int 65),(.int 10),(.int 128),(.int 191),(.int 194),(.int 192),(.int 224),(.int 160),(.int 237),(.int 159),(.int 240),(.int 144),(.int 244),(.int 143),(.int 176),(.int 0)]),(.lst [(.int 43),(.int 38),(.int 45),(.int 65),(.int 79),(.int 107),(.int 50),(.int 68),(.int 47),(.int 44),(.int 126),(.int 32),(.int 48),(.int 51),(.int 101),(.int 10)]),(.lst [(.int 144),(.int 80),(.int 208),(.int 211),(.int 251),(.int 254),(.int 33),(.int 79),(.int 255),(.int 32),(.int 13),(.int 10),(.int 5),(.int 28),(.int 128),(.int 7)]),(.lst [(.int 0),(.int 65),(.int 216),(.int 220),(.int 254),(.int 255),(.int 10),(.int 16),(.int 219),(.int 223),(.int 61),(.int 1),(.int 128),(.int 32),(.int 13),(.int 43)])]),(.lst [(.int 65),(.int 233),(.int 8364),(.int 128512),(.int 1114111),(.int 65279),(.int 0),(.int 65533)]),(.int 10)]
noncomputable def iM:Fn:=⟨1,1,[],(.seq (.ret (.cmp2 .LtE .LtE (.cst (.int 0)) (.var 0) (.glob 0))) .skip)⟩
noncomputable def jM:Fn:=⟨1,1,[],(.seq (.ret (.cmp2 .LtE .LtE (.glob 1) (.var 0) (.glob 2))) .skip)⟩
noncomputable def rO:Fn:=⟨1,1,[],(.seq (.ret (.cmp2 .LtE .LtE (.glob 3) (.var 0) (.glob 4))) .skip)⟩
noncomputable def Jz:Fn:=⟨1,1,[],(.seq (.ret (.cmp2 .LtE .LtE (.glob 1) (.var 0) (.glob 4))) .skip)⟩
noncomputable def yH:Fn:=⟨1,1,[],(.seq (.ret (.and (.call 0 (.cons (.var 0) .nil)) (.not (.call 3 (.cons (.var 0) .nil))))) .skip)⟩
noncomputable def fy:Fn:=⟨1,2,[],(.seq (.fors [1] (.var 0) (.seq (.ifs (.not (.call 4 (.cons (.var 1) .nil))) (.seq .bad .skip) .skip) .skip)) .skip)⟩
noncomputable def AE:Fn:=⟨2,2,[],(.seq (.ifs (.cmp2 .LtE .LtE (.cst (.int 65)) (.var 0) (.cst (.int 90))) (.seq (.ret (.bin .Sub (.var 0) (.cst (.int 65)))) .skip) .skip) (.seq (.ifs (.cmp2 .LtE .LtE (.cst (.int 97)) (.var 0) (.cst (.int 122))) (.seq (.ret (.bin .Add (.bin .Sub (.var 0) (.cst (.int 97))) (.cst (.int 26)))) .skip) .skip) (.seq (.ifs (.cmp2 .LtE .LtE (.cst (.int 48)) (.var 0) (.cst (.int 57))) (.seq (.ret (.bin .Add (.bin .Sub (.var 0) (.cst (.int 48))) (.cst (.int 52)))) .skip) .skip) (.seq (.ifs (.cmp .Eq (.var 0) (.glob 8)) (.seq (.ret (.cst (.int 62))) .skip) .skip) (.seq (.ret (.ite (.cmp .Eq (.var 0) (.ite (.var 1) (.glob 11) (.glob 12))) (.cst (.int 63)) (.cst .none))) .skip)))))⟩
noncomputable def Bw:Fn:=⟨2,2,[],(.seq (.ifs (.not (.cmp2 .LtE .Lt (.cst (.int 0)) (.var 0) (.cst (.int 128)))) (.seq (.ret (.cst (.bool false))) .skip) .skip) (.seq (.ifs (.or (.cmp2 .LtE .LtE (.cst (.int 65)) (.var 0) (.cst (.int 90))) (.or (.cmp2 .LtE .LtE (.cst (.int 97)) (.var 0) (.cst (.int 122))) (.or (.cmp2 .LtE .LtE (.cst (.int 48)) (.var 0) (.cst (.int 57))) (.cmp .In (.var 0) (.glob 13))))) (.seq (.ret (.cst (.bool true))) .skip) .skip) (.seq (.ret (.and (.var 1) (.cmp .In (.var 0) (.glob 14)))) .skip)))⟩
noncomputable def yn:Fn:=⟨1,1,[],(.seq (.ret (.and (.cmp2 .LtE .LtE (.cst (.int 32)) (.var 0) (.cst (.int 126))) (.cmp .NotEq (.var 0) (.glob 9)))) .skip)⟩
noncomputable def Mz:Fn:=⟨3,3,[],(.seq (.whl (.and (.cmp .Lt (.var 1) (.len (.var 0))) (.cmp .IsNot (.call 6 (.cons (.idx (.var 0) (.var 1)) (.cons (.var 2) .nil))) (.cst .none))) (.seq (.aug 1 .Add (.cst (.int 1))) .skip)) (.seq (.ret (.var 1)) .skip))⟩
noncomputable def Cw:Fn:=⟨4,8,[],(.seq (.asgs [(4,true),(5,false),(6,false)] (.cons (.lst .nil) (.cons (.cst (.int 0)) (.cons (.cst (.int 0)) .nil)))) (.seq (.fors [7] (.slc (.var 0) (.var 1) (.var 2)) (.seq (.asg 5 (.bin .BitOr (.bin .LShift (.var 5) (.glob 15)) (.call 6 (.cons (.var 7) (.cons (.var 3) .nil))))) (.seq (.aug 6 .Add (.glob 15)) (.seq (.ifs (.cmp .GtE (.var 6) (.glob 16)) (.seq (.aug 6 .Sub (.glob 16)) (.seq (.app 4 (.bin .RShift (.var 5) (.var 6))) (.seq (.asg 5 (.bin .BitAnd (.var 5) (.bin .Sub (.bin .LShift (.cst (.int 1)) (.var 6)) (.cst (.int 1))))) .skip))) .skip) .skip)))) (.seq (.frz 4) (.seq (.ret (.tup (.cons (.var 4) (.cons (.and (.cmp .Lt (.var 6) (.glob 15)) (.cmp .Eq (.var 5) (.cst (.int 0)))) .nil)))) .skip))))⟩
noncomputable def yh:Fn:=⟨4,11,[],(.seq (.unp [.v 4,.v 5] (.call 10 (.cons (.var 0) (.cons (.var 1) (.cons (.var 2) (.cons (.var 3) .nil)))))) (.seq (.asgs [(6,true),(7,true),(8,false)] (.cons (.lst .nil) (.cons (.lst .nil) (.cons (.cst (.int 0)) .nil)))) (.seq (.whl (.cmp .Lt (.var 8) (.len (.var 4))) (.seq (.asgs [(9,false),(10,false)] (.cons (.idx (.var 4) (.var 8)) (.cons (.bin .Add (.var 1) (.bin .FloorDiv (.bin .Mult (.var 8) (.glob 16)) (.glob 15))) .nil))) (.seq (.ifs (.and (.call 1 (.cons (.var 9) .nil)) (.and (.cmp .Lt (.bin .Add (.var 8) (.cst (.int 1))) (.len (.var 4))) (.call 2 (.cons (.idx (.var 4) (.bin .Add (.var 8) (.cst (.int 1)))) .nil)))) (.seq (.app 6 (.bin .Sub (.bin .Add (.bin .Add (.cst (.int 65536)) (.bin .LShift (.bin .Sub (.var 9) (.cst (.int 55296))) (.cst (.int 10)))) (.idx (.var 4) (.bin .Add (.var 8) (.cst (.int 1))))) (.cst (.int 56320)))) (.seq (.aug 8 .Add (.cst (.int 2))) .skip)) (.seq (.ifs (.or (.call 1 (.cons (.var 9) .nil)) (.call 2 (.cons (.var 9) .nil))) (.seq (.app 7 (.tup (.cons (.var 10) (.cons (.glob 20) .nil)))) (.seq (.app 6 (.cst .none)) .skip)) (.seq (.app 6 (.var 9)) (.seq (.ifs (.and (.var 3) (.or (.call 8 (.cons (.var 9) .nil)) (.cmp .Eq (.var 9) (.glob 9)))) (.seq (.app 7 (.tup (.cons (.var 10) (.cons (.glob 22) .nil)))) .skip) .skip) .skip))) (.seq (.aug 8 .Add (.cst (.int 1))) .skip))) .skip))) (.seq (.ifs (.not (.var 5)) (.seq (.app 7 (.tup (.cons (.bin .Sub (.var 2) (.cst (.int 1))) (.cons (.glob 19) .nil)))) (.seq (.app 6 (.cst .none)) .skip)) .skip) (.seq (.frz 6) (.seq (.frz 7) (.seq (.ret (.tup (.cons (.var 6) (.cons (.var 7) .nil)))) .skip)))))))⟩
noncomputable def AH:Fn:=⟨2,7,[],(.seq (.asg 2 (.idx (.var 0) (.var 1))) (.seq (.ifs (.cmp .NotEq (.var 2) (.glob 8)) (.seq (.ifs (.call 7 (.cons (.var 2) (.cons (.cst (.bool true)) .nil))) (.seq (.ret (.tup (.cons (.lst (.cons (.var 2) .nil)) (.cons (.lst .nil) (.cons (.bin .Add (.var 1) (.cst (.int 1))) .nil))))) .skip) .skip) (.seq (.ret (.tup (.cons (.lst (.cons (.cst .none) .nil)) (.cons (.lst (.cons (.tup (.cons (.var 1) (.cons (.glob 17) .nil))) .nil)) (.cons (.bin .Add (.var 1) (.cst (.int 1))) .nil))))) .skip)) .skip) (.seq (.asg 3 (.call 9 (.cons (.var 0) (.cons (.bin .Add (.var 1) (.cst (.int 1))) (.cons (.cst (.bool false)) .nil))))) (.seq (.asg 4 (.and (.cmp .Lt (.var 3) (.len (.var 0))) (.cmp .Eq (.idx (.var 0) (.var 3)) (.glob 10)))) (.seq (.ifs (.cmp .Eq (.var 3) (.bin .Add (.var 1) (.cst (.int 1)))) (.seq (.ifs (.var 4) (.seq (.ret (.tup (.cons (.lst (.cons (.glob 8) .nil)) (.cons (.lst .nil) (.cons (.bin .Add (.var 3) (.cst (.int 1))) .nil))))) .skip) .skip) (.seq (.ret (.tup (.cons (.lst (.cons (.cst .none) .nil)) (.cons (.lst (.cons (.tup (.cons (.var 1) (.cons (.glob 18) .nil))) .nil)) (.cons (.var 3) .nil))))) .skip)) .skip) (.seq (.unp [.v 5,.v 6] (.call 11 (.cons (.var 0) (.cons (.bin .Add (.var 1) (.cst (.int 1))) (.cons (.var 3) (.cons (.cst (.bool false)) .nil)))))) (.seq (.ret (.tup (.cons (.var 5) (.cons (.var 6) (.cons (.ite (.var 4) (.bin .Add (.var 3) (.cst (.int 1))) (.var 3)) .nil))))) .skip)))))))⟩
noncomputable def YC:Fn:=⟨1,5,[],(.seq (.asgs [(1,true),(2,false)] (.cons (.lst .nil) (.cons (.cst (.int 0)) .nil))) (.seq (.whl (.cmp .Lt (.var 2) (.len (.var 0))) (.seq (.unp [.v 3,.v 4,.v 2] (.call 12 (.cons (.var 0) (.cons (.var 2) .nil)))) (.seq (.ifs (.cmp .NotEq (.var 4) (.lst .nil)) (.seq (.rai (.idx (.var 4) (.cst (.int 0)))) .skip) .skip) (.seq (.ext 1 (.var 3)) .skip)))) (.seq (.frz 1) (.seq (.ret (.var 1)) .skip))))⟩
noncomputable def ym:Fn:=⟨1,5,[],(.seq (.asgs [(1,true),(2,false)] (.cons (.lst .nil) (.cons (.cst (.int 0)) .nil))) (.seq (.whl (.cmp .Lt (.var 2) (.len (.var 0))) (.seq (.unp [.v 3,.v 4,.v 2] (.call 12 (.cons (.var 0) (.cons (.var 2) .nil)))) (.seq (.ext 1 (.comp (.ite (.cmp .Is (.var 0) (.cst .none)) (.glob 5) (.var 0)) (.var 3) [])) .skip))) (.seq (.frz 1) (.seq (.ret (.var 1)) .skip))))⟩
noncomputable def xh:Fn:=⟨3,7,[],(.seq (.asg 3 (.call 9 (.cons (.var 0) (.cons (.bin .Add (.var 1) (.cst (.int 1))) (.cons (.cst (.bool true)) .nil))))) (.seq (.asg 4 (.and (.cmp .Lt (.var 3) (.len (.var 0))) (.cmp .Eq (.idx (.var 0) (.var 3)) (.glob 10)))) (.seq (.ifs (.and (.cmp .Eq (.var 3) (.bin .Add (.var 1) (.cst (.int 1)))) (.var 4)) (.seq (.ret (.tup (.cons (.lst (.cons (.glob 9) .nil)) (.cons (.bin .Add (.var 3) (.cst (.int 1))) .nil)))) .skip) .skip) (.seq (.ifs (.cmp .Eq (.var 1) (.var 2)) (.seq (.rai (.tup (.cons (.var 1) (.cons (.glob 23) .nil)))) .skip) .skip) (.seq (.ifs (.cmp .Eq (.var 3) (.bin .Add (.var 1) (.cst (.int 1)))) (.seq (.rai (.tup (.cons (.var 1) (.cons (.glob 18) .nil)))) .skip) .skip) (.seq (.unp [.v 5,.v 6] (.call 11 (.cons (.var 0) (.cons (.bin .Add (.var 1) (.cst (.int 1))) (.cons (.var 3) (.cons (.cst (.bool true)) .nil)))))) (.seq (.ifs (.cmp .NotEq (.var 6) (.lst .nil)) (.seq (.rai (.idx (.var 6) (.cst (.int 0)))) .skip) .skip) (.seq (.ifs (.not (.var 4)) (.seq (.rai (.tup (.cons (.var 3) (.cons (.glob 21) .nil)))) .skip) .skip) (.seq (.ret (.tup (.cons (.var 5) (.cons (.bin .Add (.var 3) (.cst (.int 1))) .nil)))) .skip)))))))))⟩
noncomputable def Aw:Fn:=⟨1,7,[],(.seq (.asgs [(1,true),(2,false),(3,false)] (.cons (.lst .nil) (.cons (.cst (.int 0)) (.cons (.cst .none) .nil)))) (.seq (.whl (.cmp .Lt (.var 2) (.len (.var 0))) (.seq (.asg 4 (.idx (.var 0) (.var 2))) (.seq (.ifs (.cmp .Eq (.var 4) (.glob 9)) (.seq (.unp [.v 5,.v 6] (.call 15 (.cons (.var 0) (.cons (.var 2) (.cons (.var 3) .nil))))) (.seq (.asg 3 (.ite (.cmp .Gt (.var 6) (.bin .Add (.var 2) (.cst (.int 2)))) (.var 6) (.cst .none))) (.seq (.ext 1 (.var 5)) (.seq (.asg 2 (.var 6)) .skip)))) (.seq (.ifs (.call 8 (.cons (.var 4) .nil)) (.seq (.app 1 (.var 4)) (.seq (.aug 2 .Add (.cst (.int 1))) .skip)) (.seq (.rai (.tup (.cons (.var 2) (.cons (.glob 17) .nil)))) .skip)) .skip)) .skip))) (.seq (.frz 1) (.seq (.ret (.var 1)) .skip))))⟩
noncomputable def uE:Fn:=⟨1,4,[],(.seq (.asgs [(1,false),(2,false)] (.cons (.bin .Sub (.glob 29) (.cst (.int 1))) (.cons (.glob 31) .nil))) (.seq (.fors [3] (.slc (.glob 30) .nil (.var 0)) (.seq (.asg 1 (.bin .Add (.var 1) (.bin .Mult (.var 3) (.var 2)))) (.seq (.asg 2 (.bin .Mult (.var 2) (.glob 31))) .skip))) (.seq (.ret (.var 1)) .skip)))⟩
noncomputable def tE:Fn:=⟨1,1,[],(.seq (.ifs (.cmp2 .LtE .LtE (.glob 33) (.var 0) (.glob 34)) (.seq (.ret (.glob 35)) .skip) .skip) (.seq (.ifs (.cmp2 .LtE .LtE (.glob 36) (.var 0) (.glob 37)) (.seq (.ret (.bin .Add (.bin .Add (.glob 36) (.call 17 (.cons (.cst (.int 1)) .nil))) (.cst (.int 1)))) .skip) .skip) (.seq (.ifs (.cmp2 .LtE .LtE (.glob 38) (.var 0) (.glob 39)) (.seq (.ret (.bin .FloorDiv (.bin .Add (.glob 38) (.glob 39)) (.cst (.int 2)))) .skip) .skip) (.seq (.ret (.bin .Add (.bin .Mult (.bin .FloorDiv (.var 0) (.glob 27)) (.glob 27)) (.glob 26))) .skip))))⟩
noncomputable def WC:Fn:=⟨1,1,[],(.seq (.ifs (.cmp .Gt (.var 0) (.glob 24)) (.seq (.ret (.bin .Sub (.var 0) (.glob 32))) .skip) .skip) (.seq (.ifs (.cmp2 .LtE .LtE (.cst (.int 1)) (.var 0) (.cst (.int 6))) (.seq (.ret (.bin .Sub (.var 0) (.cst (.int 1)))) .skip) .skip) (.seq (.ifs (.cmp2 .LtE .LtE (.cst (.int 16)) (.var 0) (.cst (.int 25))) (.seq (.ret (.bin .Add (.bin .Sub (.var 0) (.cst (.int 16))) (.cst (.int 6)))) .skip) .skip) (.seq (.ifs (.cmp2 .LtE .LtE (.cst (.int 28)) (.var 0) (.cst (.int 31))) (.seq (.ret (.bin .Add (.bin .Sub (.var 0) (.cst (.int 28))) (.cst (.int 16)))) .skip) .skip) (.seq (.ret (.cst .none)) .skip)))))⟩
noncomputable def Hv:Fn:=⟨2,2,[],(.seq (.ifs (.var 1) (.seq (.ret (.bin .Sub (.bin .Sub (.glob 28) (.glob 29)) (.sumf (.slc (.glob 30) .nil (.bin .Sub (.var 0) (.cst (.int 1))))))) .skip) .skip) (.seq (.ret (.bin .Add (.bin .Add (.glob 28) (.glob 29)) (.sumf (.slc (.glob 30) .nil (.bin .Sub (.var 0) (.cst (.int 1))))))) .skip))⟩
noncomputable def xH:Fn:=⟨1,6,[],(.seq (.ifs (.cmp2 .LtE .Lt (.bin .Sub (.glob 28) (.glob 29)) (.var 0) (.bin .Add (.glob 28) (.glob 29))) (.seq (.ret (.tup (.cons (.cst (.int 0)) (.cons (.bin .Sub (.var 0) (.glob 28)) .nil)))) .skip) .skip) (.seq (.asg 1 (.cmp .Lt (.var 0) (.glob 28))) (.seq (.asg 2 (.cst (.int 1))) (.seq (.whl (.and (.cmp .Lt (.var 2) (.len (.glob 30))) (.not (.call 22 (.cons (.var 0) (.cons (.var 2) (.cons (.var 1) .nil)))))) (.seq (.asg 2 (.bin .Add (.var 2) (.cst (.int 1)))) .skip)) (.seq (.asg 3 (.cst (.int 1))) (.seq (.fors [4] (.rng (.var 2)) (.seq (.asg 3 (.bin .Mult (.var 3) (.glob 31))) .skip)) (.seq (.asg 5 (.bin .Mult (.bin .Sub (.var 0) (.call 20 (.cons (.var 2) (.cons (.var 1) .nil)))) (.var 3))) (.seq (.ret (.tup (.cons (.var 2) (.cons (.ite (.var 1) (.bin .Sub (.bin .Sub (.var 5) (.call 17 (.cons (.bin .Sub (.var 2) (.cst (.int 1))) .nil))) (.cst (.int 1))) (.bin .Add (.bin .Add (.var 5) (.call 17 (.cons (.bin .Sub (.var 2) (.cst (.int 1))) .nil))) (.cst (.int 1)))) .nil)))) .skip))))))))⟩
noncomputable def Iv:Fn:=⟨3,4,[],(.seq (.asg 3 (.call 20 (.cons (.var 1) (.cons (.var 2) .nil)))) (.seq (.ifs (.var 2) (.seq (.ret (.cmp2 .LtE .Lt (.bin .Sub (.var 3) (.idx (.glob 30) (.bin .Sub (.var 1) (.cst (.int 1))))) (.var 0) (.var 3))) .skip) .skip) (.seq (.ret (.cmp2 .LtE .Lt (.var 3) (.var 0) (.bin .Add (.var 3) (.idx (.glob 30) (.bin .Sub (.var 1) (.cst (.int 1))))))) .skip)))⟩
noncomputable def XC:Fn:=⟨1,1,[],(.seq (.ret (.meth (.make 1 .nil) 0 (.cons (.var 0) (.cons (.cst (.bool true)) .nil)))) .skip)⟩
noncomputable def gD:Fn:=⟨1,4,[],(.seq (.exp (.call 5 (.cons (.var 0) .nil))) (.seq (.own 1) (.seq (.fors [2] (.var 0) (.seq (.ifs (.cmp .Lt (.var 2) (.glob 7)) (.seq (.app 1 (.var 2)) .skip) (.seq (.asg 3 (.bin .Sub (.var 2) (.glob 7))) (.seq (.app 1 (.bin .Add (.glob 1) (.bin .RShift (.var 3) (.glob 41)))) (.seq (.app 1 (.bin .Add (.glob 3) (.bin .BitAnd (.var 3) (.glob 42)))) .skip)))) .skip)) (.seq (.frz 1) (.seq (.ret (.var 1)) .skip)))))⟩
noncomputable def Kz:Fn:=⟨2,2,[],(.seq (.ret (.bin .Add (.bin .Add (.glob 7) (.bin .LShift (.bin .Sub (.var 0) (.glob 1)) (.glob 41))) (.bin .Sub (.var 1) (.glob 3)))) .skip)⟩
noncomputable def Lz:Fn:=⟨2,2,[],(.seq (.ret (.ite (.cmp .Eq (.var 1) (.glob 40)) (.lst (.cons (.bin .RShift (.var 0) (.cst (.int 8))) (.cons (.bin .BitAnd (.var 0) (.cst (.int 255))) .nil))) (.lst (.cons (.bin .BitAnd (.var 0) (.cst (.int 255))) (.cons (.bin .RShift (.var 0) (.cst (.int 8))) .nil))))) .skip)⟩
noncomputable def yE:Fn:=⟨3,3,[],(.seq (.ret (.ite (.cmp .Eq (.var 2) (.glob 40)) (.bin .BitOr (.bin .LShift (.idx (.var 0) (.var 1)) (.cst (.int 8))) (.idx (.var 0) (.bin .Add (.var 1) (.cst (.int 1))))) (.bin .BitOr (.bin .LShift (.idx (.var 0) (.bin .Add (.var 1) (.cst (.int 1)))) (.cst (.int 8))) (.idx (.var 0) (.var 1))))) .skip)⟩
def Hz:Fn:=⟨3,5,[(.str c0),(.bool false)],(.seq (.own 3) (.seq (.fors [4] (.bin .Add (.ite (.var 2) (.lst (.cons (.glob 6) .nil)) (.lst .nil)) (.call 24 (.cons (.var 0) .nil))) (.seq (.ext 3 (.call 26 (.cons (.var 4) (.cons (.var 1) .nil)))) .skip)) (.seq (.frz 3) (.seq (.ret (.bytesf (.var 3))) .skip))))⟩
def xE:Fn:=⟨3,5,[],(.seq (.ifs (.cmp .Gt (.bin .Add (.var 1) (.cst (.int 2))) (.len (.var 0))) (.seq (.ret (.tup (.cons (.cst .none) (.cons (.len (.var 0)) (.cons (.cst (.str c1)) .nil))))) .skip) .skip) (.seq (.asg 3 (.call 27 (.cons (.var 0) (.cons (.var 1) (.cons (.var 2) .nil))))) (.seq (.ifs (.call 2 (.cons (.var 3) .nil)) (.seq (.ret (.tup (.cons (.cst .none) (.cons (.bin .Add (.var 1) (.cst (.int 2))) (.cons (.cst (.str c2)) .nil))))) .skip) .skip) (.seq (.ifs (.not (.call 1 (.cons (.var 3) .nil))) (.seq (.ret (.tup (.cons (.var 3) (.cons (.bin .Add (.var 1) (.cst (.int 2))) (.cons (.cst (.str c3)) .nil))))) .skip) .skip) (.seq (.ifs (.cmp .LtE (.bin .Add (.var 1) (.cst (.int 4))) (.len (.var 0))) (.seq (.asg 4 (.call 27 (.cons (.var 0) (.cons (.bin .Add (.var 1) (.cst (.int 2))) (.cons (.var 2) .nil))))) (.seq (.ifs (.call 2 (.cons (.var 4) .nil)) (.seq (.ret (.tup (.cons (.call 25 (.cons (.var 3) (.cons (.var 4) .nil))) (.cons (.bin .Add (.var 1) (.cst (.int 4))) (.cons (.cst (.str c3)) .nil))))) .skip) .skip) .skip)) .skip) (.seq (.ret (.tup (.cons (.cst .none) (.cons (.bin .Add (.var 1) (.cst (.int 2))) (.cons (.cst (.str c4)) .nil))))) .skip))))))⟩
def eD:Fn:=⟨2,2,[],(.seq (.ifs (.cmp .IsNot (.var 1) (.cst .none)) (.seq (.ret (.tup (.cons (.var 1) (.cons (.cst (.int 0)) .nil)))) .skip) .skip) (.seq (.ifs (.cmp .Eq (.slc (.var 0) .nil (.cst (.int 2))) (.cst (.bytes [255,254]))) (.seq (.ret (.tup (.cons (.cst (.str c5)) (.cons (.cst (.int 2)) .nil)))) .skip) .skip) (.seq (.ret (.tup (.cons (.glob 40) (.cons (.ite (.cmp .Eq (.slc (.var 0) .nil (.cst (.int 2))) (.cst (.bytes [254,255]))) (.cst (.int 2)) (.cst (.int 0))) .nil)))) .skip)))⟩
noncomputable def Fz:Fn:=⟨2,7,[.none],(.seq (.unp [.v 1,.v 2] (.call 30 (.cons (.var 0) (.cons (.var 1) .nil)))) (.seq (.own 3) (.seq (.whl (.cmp .Lt (.var 2) (.len (.var 0))) (.seq (.unp [.v 4,.v 5,.v 6] (.call 29 (.cons (.var 0) (.cons (.var 2) (.cons (.var 1) .nil))))) (.seq (.ifs (.cmp .Is (.var 4) (.cst .none)) (.seq (.rai (.tup (.cons (.var 2) (.cons (.var 6) .nil)))) .skip) .skip) (.seq (.app 3 (.var 4)) (.seq (.asg 2 (.var 5)) .skip))))) (.seq (.frz 3) (.seq (.ret (.var 3)) .skip)))))⟩
noncomputable def Ik:Fn:=⟨2,6,[.none],(.seq (.unp [.v 1,.v 2] (.call 30 (.cons (.var 0) (.cons (.var 1) .nil)))) (.seq (.own 3) (.seq (.whl (.cmp .Lt (.var 2) (.len (.var 0))) (.seq (.unp [.v 4,.v 2,.v 5] (.call 29 (.cons (.var 0) (.cons (.var 2) (.cons (.var 1) .nil))))) (.seq (.app 3 (.ite (.cmp .Is (.var 4) (.cst .none)) (.glob 5) (.var 4))) .skip))) (.seq (.frz 3) (.seq (.ret (.var 3)) .skip)))))⟩
def Iz:Fn:=⟨3,6,[(.str c0),(.bool false)],(.seq (.exp (.call 5 (.cons (.var 0) .nil))) (.seq (.own 3) (.seq (.fors [4] (.bin .Add (.ite (.var 2) (.lst (.cons (.glob 6) .nil)) (.lst .nil)) (.listf (.var 0))) (.seq (.asg 5 (.lst (.cons (.cst (.int 0)) (.cons (.bin .RShift (.var 4) (.cst (.int 16))) (.cons (.bin .BitAnd (.bin .RShift (.var 4) (.cst (.int 8))) (.cst (.int 255))) (.cons (.bin .BitAnd (.var 4) (.cst (.int 255))) .nil)))))) (.seq (.ext 3 (.ite (.cmp .Eq (.var 1) (.glob 40)) (.var 5) (.rev (.var 5)))) .skip))) (.seq (.frz 3) (.seq (.ret (.bytesf (.var 3))) .skip)))))⟩
def zE:Fn:=⟨3,5,[],(.seq (.ownl 3 (.slc (.var 0) (.var 1) (.bin .Add (.var 1) (.cst (.int 4))))) (.seq (.ifs (.cmp .Lt (.lenv 3) (.cst (.int 4))) (.seq (.ret (.tup (.cons (.cst .none) (.cons (.len (.var 0)) (.cons (.cst (.str c1)) .nil))))) .skip) .skip) (.seq (.ifs (.cmp .NotEq (.var 2) (.glob 40)) (.seq (.rvs 3) .skip) .skip) (.seq (.asg 4 (.bin .BitOr (.bin .BitOr (.bin .BitOr (.bin .LShift (.idxv 3 (.cst (.int 0))) (.cst (.int 24))) (.bin .LShift (.idxv 3 (.cst (.int 1))) (.cst (.int 16)))) (.bin .LShift (.idxv 3 (.cst (.int 2))) (.cst (.int 8)))) (.idxv 3 (.cst (.int 3))))) (.seq (.ifs (.call 4 (.cons (.var 4) .nil)) (.seq (.ret (.tup (.cons (.var 4) (.cons (.bin .Add (.var 1) (.cst (.int 4))) (.cons (.cst (.str c3)) .nil))))) .skip) .skip) (.seq (.ret (.tup (.cons (.cst .none) (.cons (.bin .Add (.var 1) (.cst (.int 4))) (.cons (.ite (.call 3 (.cons (.var 4) .nil)) (.cst (.str c6)) (.cst (.str c7))) .nil))))) .skip))))))⟩
def iD:Fn:=⟨2,2,[],(.seq (.ifs (.cmp .IsNot (.var 1) (.cst .none)) (.seq (.ret (.tup (.cons (.var 1) (.cons (.cst (.int 0)) .nil)))) .skip) .skip) (.seq (.ifs (.cmp .Eq (.slc (.var 0) .nil (.cst (.int 4))) (.cst (.bytes [255,254,0,0]))) (.seq (.ret (.tup (.cons (.cst (.str c5)) (.cons (.cst (.int 4)) .nil)))) .skip) .skip) (.seq (.ret (.tup (.cons (.glob 40) (.cons (.ite (.cmp .Eq (.slc (.var 0) .nil (.cst (.int 4))) (.cst (.bytes [0,0,254,255]))) (.cst (.int 4)) (.cst (.int 0))) .nil)))) .skip)))⟩
noncomputable def Gz:Fn:=⟨2,7,[.none],(.seq (.unp [.v 1,.v 2] (.call 35 (.cons (.var 0) (.cons (.var 1) .nil)))) (.seq (.own 3) (.seq (.whl (.cmp .Lt (.var 2) (.len (.var 0))) (.seq (.unp [.v 4,.v 5,.v 6] (.call 34 (.cons (.var 0) (.cons (.var 2) (.cons (.var 1) .nil))))) (.seq (.ifs (.cmp .Is (.var 4) (.cst .none)) (.seq (.rai (.tup (.cons (.var 2) (.cons (.var 6) .nil)))) .skip) .skip) (.seq (.app 3 (.var 4)) (.seq (.asg 2 (.var 5)) .skip))))) (.seq (.frz 3) (.seq (.ret (.var 3)) .skip)))))⟩
noncomputable def Jk:Fn:=⟨2,6,[.none],(.seq (.unp [.v 1,.v 2] (.call 35 (.cons (.var 0) (.cons (.var 1) .nil)))) (.seq (.own 3) (.seq (.whl (.cmp .Lt (.var 2) (.len (.var 0))) (.seq (.unp [.v 4,.v 2,.v 5] (.call 34 (.cons (.var 0) (.cons (.var 2) (.cons (.var 1) .nil))))) (.seq (.app 3 (.ite (.cmp .Is (.var 4) (.cst .none)) (.glob 5) (.var 4))) .skip))) (.seq (.frz 3) (.seq (.ret (.var 3)) .skip)))))⟩
noncomputable def kD:Fn:=⟨1,2,[],(.seq (.ifs (.cmp .Lt (.var 0) (.cst (.int 128))) (.seq (.ret (.lst (.cons (.var 0) .nil))) .skip) .skip) (.seq (.ifs (.cmp .Lt (.var 0) (.cst (.int 2048))) (.seq (.ret (.lst (.cons (.bin .BitOr (.cst (.int 192)) (.bin .RShift (.var 0) (.cst (.int 6)))) (.cons (.bin .BitOr (.glob 51) (.bin .BitAnd (.var 0) (.cst (.int 63)))) .nil)))) .skip) .skip) (.seq (.ifs (.cmp .Lt (.var 0) (.glob 52)) (.seq (.ret (.lst (.cons (.bin .BitOr (.cst (.int 224)) (.bin .RShift (.var 0) (.cst (.int 12)))) (.cons (.bin .BitOr (.glob 51) (.bin .BitAnd (.bin .RShift (.var 0) (.cst (.int 6))) (.cst (.int 63)))) (.cons (.bin .BitOr (.glob 51) (.bin .BitAnd (.var 0) (.cst (.int 63)))) .nil))))) .skip) .skip) (.seq (.asg 1 (.lst (.cons (.bin .BitOr (.cst (.int 240)) (.bin .RShift (.var 0) (.cst (.int 18)))) (.cons (.bin .BitOr (.glob 51) (.bin .BitAnd (.bin .RShift (.var 0) (.cst (.int 12))) (.cst (.int 63)))) .nil)))) (.seq (.ret (.bin .Add (.var 1) (.lst (.cons (.bin .BitOr (.glob 51) (.bin .BitAnd (.bin .RShift (.var 0) (.cst (.int 6))) (.cst (.int 63)))) (.cons (.bin .BitOr (.glob 51) (.bin .BitAnd (.var 0) (.cst (.int 63)))) .nil))))) .skip)))))⟩
noncomputable def cD:Fn:=⟨1,3,[],(.seq (.own 1) (.seq (.fors [2] (.var 0) (.seq (.ifs (.not (.call 4 (.cons (.var 2) .nil))) (.seq .bad .skip) .skip) (.seq (.ext 1 (.call 38 (.cons (.var 2) .nil))) .skip))) (.seq (.frz 1) (.seq (.ret (.bytesf (.var 1))) .skip))))⟩
noncomputable def BH:Fn:=⟨1,1,[],(.seq (.ifs (.cmp .Lt (.var 0) (.cst (.int 128))) (.seq (.ret (.tup (.cons (.cst (.int 1)) (.cons (.cst (.int 0)) (.cons (.cst (.int 0)) .nil))))) .skip) .skip) (.seq (.ifs (.cmp2 .LtE .LtE (.cst (.int 194)) (.var 0) (.cst (.int 223))) (.seq (.ret (.tup (.cons (.cst (.int 2)) (.cons (.cst (.int 128)) (.cons (.cst (.int 191)) .nil))))) .skip) .skip) (.seq (.ifs (.cmp2 .LtE .LtE (.cst (.int 224)) (.var 0) (.cst (.int 239))) (.seq (.ret (.tup (.cons (.cst (.int 3)) (.cons (.ite (.cmp .Eq (.var 0) (.cst (.int 224))) (.cst (.int 160)) (.cst (.int 128))) (.cons (.ite (.cmp .Eq (.var 0) (.cst (.int 237))) (.cst (.int 159)) (.cst (.int 191))) .nil))))) .skip) .skip) (.seq (.ifs (.cmp2 .LtE .LtE (.cst (.int 240)) (.var 0) (.cst (.int 244))) (.seq (.ret (.tup (.cons (.cst (.int 4)) (.cons (.ite (.cmp .Eq (.var 0) (.cst (.int 240))) (.cst (.int 144)) (.cst (.int 128))) (.cons (.ite (.cmp .Eq (.var 0) (.cst (.int 244))) (.cst (.int 143)) (.cst (.int 191))) .nil))))) .skip) .skip) (.seq (.ret (.cst .none)) .skip)))))⟩
def DE:Fn:=⟨2,9,[],(.seq (.asg 2 (.call 40 (.cons (.idx (.var 0) (.var 1)) .nil))) (.seq (.ifs (.cmp .Is (.var 2) (.cst .none)) (.seq (.ret (.tup (.cons (.cst (.int 1)) (.cons (.cst .none) (.cons (.ite (.cmp .Lt (.idx (.var 0) (.var 1)) (.cst (.int 192))) (.glob 43) (.glob 44)) .nil))))) .skip) .skip) (.seq (.unp [.v 3,.v 4,.v 5] (.var 2)) (.seq (.ifs (.cmp .Eq (.var 3) (.cst (.int 1))) (.seq (.ret (.tup (.cons (.cst (.int 1)) (.cons (.idx (.var 0) (.var 1)) (.cons (.cst (.str c3)) .nil))))) .skip) .skip) (.seq (.asg 6 (.bin .BitAnd (.idx (.var 0) (.var 1)) (.bin .RShift (.cst (.int 127)) (.var 3)))) (.seq (.fors [7] (.rng2 (.cst (.int 1)) (.var 3)) (.seq (.ifs (.cmp .GtE (.bin .Add (.var 1) (.var 7)) (.len (.var 0))) (.seq (.ret (.tup (.cons (.var 7) (.cons (.cst .none) (.cons (.glob 46) .nil))))) .skip) .skip) (.seq (.asg 8 (.idx (.var 0) (.bin .Add (.var 1) (.var 7)))) (.seq (.ifs (.not (.cmp2 .LtE .LtE (.var 4) (.var 8) (.var 5))) (.seq (.ret (.tup (.cons (.var 7) (.cons (.cst .none) (.cons (.glob 45) .nil))))) .skip) .skip) (.seq (.asg 6 (.bin .BitOr (.bin .LShift (.var 6) (.cst (.int 6))) (.bin .BitAnd (.var 8) (.cst (.int 63))))) (.seq (.asgs [(4,false),(5,false)] (.cons (.cst (.int 128)) (.cons (.cst (.int 191)) .nil))) .skip)))))) (.seq (.ret (.tup (.cons (.var 3) (.cons (.var 6) (.cons (.cst (.str c3)) .nil))))) .skip)))))))⟩
noncomputable def ZC:Fn:=⟨1,6,[],(.seq (.asgs [(1,true),(2,false)] (.cons (.lst .nil) (.cons (.cst (.int 0)) .nil))) (.seq (.whl (.cmp .Lt (.var 2) (.len (.var 0))) (.seq (.unp [.v 3,.v 4,.v 5] (.call 41 (.cons (.var 0) (.cons (.var 2) .nil)))) (.seq (.ifs (.cmp .Is (.var 4) (.cst .none)) (.seq (.rai (.tup (.cons (.var 2) (.cons (.var 5) .nil)))) .skip) .skip) (.seq (.app 1 (.var 4)) (.seq (.asg 2 (.bin .Add (.var 2) (.var 3))) .skip))))) (.seq (.frz 1) (.seq (.ret (.var 1)) .skip))))⟩
noncomputable def zm:Fn:=⟨1,6,[],(.seq (.asgs [(1,true),(2,false)] (.cons (.lst .nil) (.cons (.cst (.int 0)) .nil))) (.seq (.whl (.cmp .Lt (.var 2) (.len (.var 0))) (.seq (.unp [.v 3,.v 4,.v 5] (.call 41 (.cons (.var 0) (.cons (.var 2) .nil)))) (.seq (.app 1 (.ite (.cmp .Is (.var 4) (.cst .none)) (.glob 5) (.var 4))) (.seq (.asg 2 (.bin .Add (.var 2) (.var 3))) .skip)))) (.seq (.frz 1) (.seq (.ret (.var 1)) .skip))))⟩
noncomputable def jD:Fn:=⟨2,2,[],(.seq (.ret (.bin .Add (.bin .Add (.glob 52) (.bin .LShift (.bin .Sub (.var 0) (.glob 53)) (.cst (.int 10)))) (.bin .Sub (.var 1) (.glob 54)))) .skip)⟩
def Lv:Fn:=⟨2,2,[],(.seq (.ifs (.and (.cmp .Eq (.idx (.var 0) (.var 1)) (.cst (.int 237))) (.and (.cmp .Lt (.bin .Add (.var 1) (.cst (.int 2))) (.len (.var 0))) (.cmp2 .LtE .LtE (.cst (.int 160)) (.idx (.var 0) (.bin .Add (.var 1) (.cst (.int 1)))) (.cst (.int 191))))) (.seq (.ifs (.cmp2 .LtE .LtE (.cst (.int 128)) (.idx (.var 0) (.bin .Add (.var 1) (.cst (.int 2)))) (.cst (.int 191))) (.seq (.ret (.tup (.cons (.cst (.int 3)) (.cons (.bin .BitOr (.bin .BitOr (.cst (.int 53248)) (.bin .LShift (.bin .BitAnd (.idx (.var 0) (.bin .Add (.var 1) (.cst (.int 1)))) (.cst (.int 63))) (.cst (.int 6)))) (.bin .BitAnd (.idx (.var 0) (.bin .Add (.var 1) (.cst (.int 2)))) (.cst (.int 63)))) (.cons (.cst (.str c3)) .nil))))) .skip) .skip) .skip) .skip) (.seq (.ret (.call 41 (.cons (.var 0) (.cons (.var 1) .nil)))) .skip))⟩
noncomputable def Kv:Fn:=⟨2,3,[],(.seq (.ifs (.cmp .GtE (.var 1) (.len (.var 0))) (.seq (.ret (.cst .none)) .skip) .skip) (.seq (.asg 2 (.idx (.call 45 (.cons (.var 0) (.cons (.var 1) .nil))) (.cst (.int 1)))) (.seq (.ret (.ite (.and (.cmp .IsNot (.var 2) (.cst .none)) (.call 2 (.cons (.var 2) .nil))) (.var 2) (.cst .none))) .skip)))⟩
noncomputable def Ez:Fn:=⟨1,7,[],(.seq (.asgs [(1,true),(2,false)] (.cons (.lst .nil) (.cons (.cst (.int 0)) .nil))) (.seq (.whl (.cmp .Lt (.var 2) (.len (.var 0))) (.seq (.unp [.v 3,.v 4,.v 5] (.call 45 (.cons (.var 0) (.cons (.var 2) .nil)))) (.seq (.ifs (.cmp .Is (.var 4) (.cst .none)) (.seq (.rai (.tup (.cons (.var 2) (.cons (.var 5) .nil)))) .skip) .skip) (.seq (.ifs (.cmp .Eq (.var 3) (.cst (.int 4))) (.seq (.rai (.tup (.cons (.var 2) (.cons (.glob 49) .nil)))) .skip) .skip) (.seq (.ifs (.call 1 (.cons (.var 4) .nil)) (.seq (.asg 6 (.call 46 (.cons (.var 0) (.cons (.bin .Add (.var 2) (.cst (.int 3))) .nil)))) (.seq (.ifs (.cmp .Is (.var 6) (.cst .none)) (.seq (.rai (.tup (.cons (.var 2) (.cons (.glob 47) .nil)))) .skip) .skip) (.seq (.asgs [(4,false),(3,false)] (.cons (.call 44 (.cons (.var 4) (.cons (.var 6) .nil))) (.cons (.cst (.int 6)) .nil))) .skip))) (.seq (.ifs (.call 2 (.cons (.var 4) .nil)) (.seq (.rai (.tup (.cons (.var 2) (.cons (.glob 47) .nil)))) .skip) .skip) .skip)) (.seq (.app 1 (.var 4)) (.seq (.asg 2 (.bin .Add (.var 2) (.var 3))) .skip))))))) (.seq (.frz 1) (.seq (.ret (.var 1)) .skip))))⟩
def wm:Fn:=⟨1,7,[],(.seq (.asgs [(1,true),(2,false)] (.cons (.lst .nil) (.cons (.cst (.int 0)) .nil))) (.seq (.whl (.cmp .Lt (.var 2) (.len (.var 0))) (.seq (.ifs (.cmp .Eq (.slc (.var 0) (.var 2) (.bin .Add (.var 2) (.cst (.int 2)))) (.cst (.bytes [192,128]))) (.seq (.asgs [(3,false),(4,false),(5,false)] (.cons (.cst (.int 2)) (.cons (.cst (.int 0)) (.cons (.cst (.str c3)) .nil)))) .skip) (.seq (.ifs (.cmp .Eq (.idx (.var 0) (.var 2)) (.cst (.int 0))) (.seq (.rai (.tup (.cons (.var 2) (.cons (.glob 50) .nil)))) .skip) (.seq (.unp [.v 3,.v 4,.v 5] (.call 45 (.cons (.var 0) (.cons (.var 2) .nil)))) .skip)) .skip)) (.seq (.ifs (.cmp .Is (.var 4) (.cst .none)) (.seq (.rai (.tup (.cons (.var 2) (.cons (.var 5) .nil)))) .skip) .skip) (.seq (.ifs (.cmp .Eq (.var 3) (.cst (.int 4))) (.seq (.rai (.tup (.cons (.var 2) (.cons (.glob 49) .nil)))) .skip) .skip) (.seq (.asg 6 (.ite (.call 1 (.cons (.var 4) .nil)) (.call 46 (.cons (.var 0) (.cons (.bin .Add (.var 2) (.cst (.int 3))) .nil))) (.cst .none))) (.seq (.ifs (.cmp .IsNot (.var 6) (.cst .none)) (.seq (.asgs [(4,false),(3,false)] (.cons (.call 44 (.cons (.var 4) (.cons (.var 6) .nil))) (.cons (.cst (.int 6)) .nil))) .skip) .skip) (.seq (.app 1 (.var 4)) (.seq (.asg 2 (.bin .Add (.var 2) (.var 3))) .skip)))))))) (.seq (.frz 1) (.seq (.ret (.var 1)) .skip))))⟩
noncomputable def bD:Fn:=⟨1,6,[],(.seq (.asgs [(1,true),(2,false)] (.cons (.lst .nil) (.cons (.cst (.int 0)) .nil))) (.seq (.whl (.cmp .Lt (.var 2) (.len (.var 0))) (.seq (.unp [.v 3,.v 4,.v 5] (.call 45 (.cons (.var 0) (.cons (.var 2) .nil)))) (.seq (.ifs (.cmp .Is (.var 4) (.cst .none)) (.seq (.rai (.tup (.cons (.var 2) (.cons (.var 5) .nil)))) .skip) .skip) (.seq (.ifs (.and (.call 1 (.cons (.var 4) .nil)) (.cmp .IsNot (.call 46 (.cons (.var 0) (.cons (.bin .Add (.var 2) (.cst (.int 3))) .nil))) (.cst .none))) (.seq (.rai (.tup (.cons (.var 2) (.cons (.glob 48) .nil)))) .skip) .skip) (.seq (.app 1 (.var 4)) (.seq (.asg 2 (.bin .Add (.var 2) (.var 3))) .skip)))))) (.seq (.frz 1) (.seq (.ret (.var 1)) .skip))))⟩
noncomputable def vf:Fn:=⟨1,1,[],(.seq (.ret (.rev (.comp (.bin .Mod (.intf (.var 0)) (.bin .Pow (.cst (.int 10)) (.cst (.int 40)))) (.slc (.var 0) .nil (.cst (.int 60))) []))) .skip)⟩
noncomputable def CJ:Fn:=⟨2,3,[],(.seq (.ifs (.emptyq 0) (.seq (.ret (.cst (.int 0))) .skip) .skip) (.seq (.asg 2 (.pop 0)) (.seq (.ifs (.cmp .GtE (.var 2) (.cst (.int 1000))) (.seq (.oapp 0 (.bin .FloorDiv (.var 2) (.var 1))) .skip) .skip) (.seq (.ret (.bin .Mod (.var 2) (.var 1))) .skip))))⟩
noncomputable def DJ:Fn:=⟨2,4,[],(.seq (.own 2) (.seq (.fors [3] (.rng (.call 51 (.cons (.var 0) (.cons (.cst (.int 8)) .nil)))) (.seq (.app 2 (.ite (.cmp .Lt (.var 1) (.cst (.int 4))) (.idx (.idx (.glob 55) (.var 1)) (.call 51 (.cons (.var 0) (.cons (.cst (.int 16)) .nil)))) (.call 51 (.cons (.var 0) (.cons (.cst (.int 256)) .nil))))) .skip)) (.seq (.frz 2) (.seq (.ret (.bytesf (.var 2))) .skip))))⟩
noncomputable def sO:Fn:=⟨3,3,[],(.seq (.ifs (.cmp .Eq (.var 1) (.cst (.int 0))) (.seq (.ret (.call 42 (.cons (.var 0) .nil))) .skip) .skip) (.seq (.ifs (.cmp .Eq (.var 1) (.cst (.int 1))) (.seq (.ret (.call 47 (.cons (.var 0) .nil))) .skip) .skip) (.seq (.ifs (.cmp .Eq (.var 1) (.cst (.int 2))) (.seq (.ret (.call 48 (.cons (.var 0) .nil))) .skip) .skip) (.seq (.ifs (.cmp .Eq (.var 1) (.cst (.int 3))) (.seq (.ret (.call 49 (.cons (.var 0) .nil))) .skip) .skip) (.seq (.ifs (.cmp .Eq (.var 1) (.cst (.int 4))) (.seq (.ret (.call 13 (.cons (.var 0) .nil))) .skip) .skip) (.seq (.ifs (.cmp .Eq (.var 1) (.cst (.int 5))) (.seq (.ret (.call 23 (.cons (.var 0) .nil))) .skip) .skip) (.seq (.ifs (.cmp .Eq (.var 1) (.cst (.int 6))) (.seq (.ret (.call 16 (.cons (.var 0) .nil))) .skip) .skip) (.seq (.ret (.ite (.cmp .Eq (.var 1) (.cst (.int 7))) (.call 31 (.cons (.var 0) (.cons (.var 2) .nil))) (.call 36 (.cons (.var 0) (.cons (.var 2) .nil))))) .skip))))))))⟩
noncomputable def EJ:Fn:=⟨3,4,[],(.seq (.tryr 3 (.tup (.cons (.call 53 (.cons (.var 0) (.cons (.var 1) (.cons (.var 2) .nil)))) (.cons (.cst .none) .nil)))) .skip)⟩
noncomputable def vE:Fn:=⟨3,3,[],(.seq (.ifs (.cmp .Eq (.var 1) (.cst (.int 0))) (.seq (.ret (.call 43 (.cons (.var 0) .nil))) .skip) .skip) (.seq (.ifs (.cmp .Eq (.var 1) (.cst (.int 4))) (.seq (.ret (.call 14 (.cons (.var 0) .nil))) .skip) .skip) (.seq (.ret (.ite (.cmp .Eq (.var 1) (.cst (.int 7))) (.call 32 (.cons (.var 0) (.cons (.var 2) .nil))) (.call 37 (.cons (.var 0) (.cons (.var 2) .nil))))) .skip)))⟩
noncomputable def kM:Fn:=⟨2,2,[],(.seq (.ret (.bin .Add (.comp (.slc (.var 1) .nil (.bin .Mult (.bin .FloorDiv (.len (.var 1)) (.var 0)) (.var 0))) (.slc (.var 0) .nil (.neg 1)) [1]) (.slc (.var 0) (.neg 1) .nil))) .skip)⟩
noncomputable def zH:Fn:=⟨2,4,[],(.seq (.asg 2 (.idx (.var 0) (.cst (.int 0)))) (.seq (.fors [3] (.slc (.var 0) (.cst (.int 1)) .nil) (.seq (.asg 2 (.bin .Add (.bin .Add (.var 2) (.var 1)) (.var 3))) .skip)) (.seq (.ret (.var 2)) .skip)))⟩
noncomputable def Nr:Fn:=⟨4,10,[],(.seq (.asgs [(4,false),(5,false)] (.cons (.lst .nil) (.cons (.cst (.int 0)) .nil))) (.seq (.fors [6,7] (.enm (.var 0)) (.seq (.unp [.v 8,.v 9] (.call 54 (.cons (.var 7) (.cons (.var 2) (.cons (.var 3) .nil))))) (.seq (.ifs (.cmp .IsNot (.var 9) (.cst .none)) (.seq (.ret (.cmp .Eq (.call 54 (.cons (.call 57 (.cons (.var 0) (.cons (.var 1) .nil))) (.cons (.var 2) (.cons (.var 3) .nil)))) (.tup (.cons (.lst .nil) (.cons (.bin .Add (.var 5) (.var 9)) .nil))))) .skip) .skip) (.seq (.asg 4 (.bin .Add (.bin .Add (.var 4) (.ite (.cmp .Gt (.var 6) (.cst (.int 0))) (.lst (.cons (.ite (.cmp .Eq (.var 2) (.cst (.int 6))) (.cst (.int 47)) (.glob 57)) .nil)) (.lst .nil))) (.var 8))) (.seq (.asg 5 (.bin .Add (.bin .Add (.var 5) (.len (.var 7))) (.len (.var 1)))) .skip))))) (.seq (.ret (.cmp .Eq (.call 54 (.cons (.call 57 (.cons (.var 0) (.cons (.var 1) .nil))) (.cons (.var 2) (.cons (.var 3) .nil)))) (.tup (.cons (.var 4) (.cons (.cst .none) .nil))))) .skip)))⟩
noncomputable def Mr:Fn:=⟨4,6,[],(.seq (.asg 4 (.call 55 (.cons (.idx (.var 0) (.cst (.int 0))) (.cons (.var 2) (.cons (.var 3) .nil))))) (.seq (.fors [5] (.slc (.var 0) (.cst (.int 1)) .nil) (.seq (.asg 4 (.bin .Add (.bin .Add (.var 4) (.lst (.cons (.glob 57) .nil))) (.call 55 (.cons (.var 5) (.cons (.var 2) (.cons (.var 3) .nil)))))) .skip)) (.seq (.ret (.cmp .Eq (.call 55 (.cons (.call 57 (.cons (.var 0) (.cons (.var 1) .nil))) (.cons (.var 2) (.cons (.var 3) .nil)))) (.var 4))) .skip)))⟩
noncomputable def jr:Fn:=⟨2,5,[],(.seq (.asgs [(2,false),(3,false)] (.cons (.make 3 (.cons (.cst (.bool false)) .nil)) (.cons (.cst (.bytes [10])) .nil))) (.seq (.fors [4] (.slc (.var 0) .nil (.neg 1)) (.seq (.ifs (.cmp .NotEq (.meth (.var 2) 0 (.cons (.bin .Add (.var 4) (.var 3)) .nil)) (.bin .Add (.call 43 (.cons (.var 4) .nil)) (.lst (.cons (.glob 57) .nil)))) (.seq (.ret (.cst (.bool false))) .skip) .skip) .skip)) (.seq (.ifs (.cmp .NotEq (.meth (.var 2) 0 (.cons (.idx (.var 0) (.neg 1)) (.cons (.cst (.bool true)) .nil))) (.call 43 (.cons (.idx (.var 0) (.neg 1)) .nil))) (.seq (.ret (.cst (.bool false))) .skip) .skip) (.seq (.asgs [(2,false),(3,false)] (.cons (.make 2 (.cons (.var 1) (.cons (.cst (.bool false)) .nil))) (.cons (.call 28 (.cons (.lst (.cons (.glob 57) .nil)) (.cons (.var 1) .nil))) .nil))) (.seq (.fors [4] (.slc (.call 56 (.cons (.var 0) (.cons (.cst (.int 2)) .nil))) .nil (.neg 1)) (.seq (.ifs (.cmp .NotEq (.meth (.var 2) 0 (.cons (.bin .Add (.var 4) (.var 3)) .nil)) (.bin .Add (.call 32 (.cons (.var 4) (.cons (.var 1) .nil))) (.lst (.cons (.glob 57) .nil)))) (.seq (.ret (.cst (.bool false))) .skip) .skip) .skip)) (.seq (.ret (.cmp .Eq (.meth (.var 2) 0 (.cons (.idx (.var 0) (.neg 1)) (.cons (.cst (.bool true)) .nil))) (.call 32 (.cons (.idx (.var 0) (.neg 1)) (.cons (.var 1) .nil))))) .skip))))))⟩
def Ti:Fn:=⟨1,13,[],(.seq (.asgs [(1,false),(2,false),(3,false),(4,false)] (.cons (.make 1 .nil) (.cons (.make 3 (.cons (.cst (.bool true)) .nil)) (.cons (.cst (.bool true)) (.cons (.cst (.int 0)) .nil))))) (.seq (.asg 5 (.cst (.bool true))) (.seq (.fors [6,7] (.enm (.var 0)) (.seq (.asg 8 (.cmp .Eq (.bin .Add (.var 6) (.cst (.int 1))) (.len (.var 0)))) (.seq (.asg 9 (.ite (.var 8) (.var 7) (.bin .Add (.var 7) (.cst (.bytes [10]))))) (.seq (.ifs (.var 5) (.seq (.unp [.v 10,.v 11] (.call 54 (.cons (.var 7) (.cons (.cst (.int 5)) (.cons (.cst (.str c0)) .nil))))) (.seq (.asg 12 (.ite (.cmp .IsNot (.var 11) (.cst .none)) (.tup (.cons (.lst .nil) (.cons (.bin .Add (.var 4) (.var 11)) .nil))) (.tup (.cons (.bin .Add (.var 10) (.ite (.var 8) (.lst .nil) (.lst (.cons (.glob 57) .nil)))) (.cons (.cst .none) .nil))))) (.seq (.ifs (.cmp .NotEq (.call 62 (.cons (.var 1) (.cons (.var 9) (.cons (.var 8) .nil)))) (.var 12)) (.seq (.ret (.cst (.bool false))) .skip) .skip) (.seq (.asg 5 (.cmp .Is (.var 11) (.cst .none))) .skip)))) .skip) (.seq (.ifs (.var 3) (.seq (.unp [.v 10,.v 11] (.call 54 (.cons (.var 7) (.cons (.cst (.int 0)) (.cons (.cst (.str c0)) .nil))))) (.seq (.asg 12 (.ite (.cmp .IsNot (.var 11) (.cst .none)) (.tup (.cons (.lst .nil) (.cons (.bin .Add (.var 4) (.var 11)) .nil))) (.tup (.cons (.bin .Add (.var 10) (.ite (.var 8) (.lst .nil) (.lst (.cons (.glob 57) .nil)))) (.cons (.cst .none) .nil))))) (.seq (.ifs (.cmp .NotEq (.call 62 (.cons (.var 2) (.cons (.var 9) (.cons (.var 8) .nil)))) (.var 12)) (.seq (.ret (.cst (.bool false))) .skip) .skip) (.seq (.asg 3 (.cmp .Is (.var 11) (.cst .none))) .skip)))) .skip) (.seq (.asg 4 (.bin .Add (.var 4) (.len (.var 9)))) .skip)))))) (.seq (.ret (.cst (.bool true))) .skip))))⟩
noncomputable def lM:Fn:=⟨3,4,[],(.seq (.tryr 3 (.tup (.cons (.meth (.var 0) 0 (.cons (.var 1) (.cons (.var 2) .nil))) (.cons (.cst .none) .nil)))) .skip)⟩
noncomputable def Lr:Fn:=⟨4,7,[],(.seq (.ifs (.cmp .NotEq (.call 43 (.cons (.bin .Add (.bin .Add (.call 39 (.cons (.var 0) .nil)) (.var 2)) (.call 39 (.cons (.var 1) .nil))) .nil)) (.bin .Add (.bin .Add (.var 0) (.call 43 (.cons (.var 2) .nil))) (.var 1))) (.seq (.ret (.cst (.bool false))) .skip) .skip) (.seq (.asgs [(4,false),(5,false)] (.cons (.slc (.var 2) .nil (.bin .Mult (.bin .FloorDiv (.len (.var 2)) (.cst (.int 2))) (.cst (.int 2)))) (.cons (.slc (.var 2) .nil (.bin .Mult (.bin .FloorDiv (.len (.var 2)) (.cst (.int 4))) (.cst (.int 4)))) .nil))) (.seq (.asg 6 (.call 32 (.cons (.bin .Add (.bin .Add (.call 28 (.cons (.var 0) (.cons (.var 3) .nil))) (.var 4)) (.call 28 (.cons (.var 1) (.cons (.var 3) .nil)))) (.cons (.var 3) .nil)))) (.seq (.ifs (.cmp .NotEq (.var 6) (.bin .Add (.bin .Add (.var 0) (.call 32 (.cons (.var 4) (.cons (.var 3) .nil)))) (.var 1))) (.seq (.ret (.cst (.bool false))) .skip) .skip) (.seq (.asg 6 (.call 37 (.cons (.bin .Add (.bin .Add (.call 33 (.cons (.var 0) (.cons (.var 3) .nil))) (.var 5)) (.call 33 (.cons (.var 1) (.cons (.var 3) .nil)))) (.cons (.var 3) .nil)))) (.seq (.ret (.cmp .Eq (.var 6) (.bin .Add (.bin .Add (.var 0) (.call 37 (.cons (.var 5) (.cons (.var 3) .nil)))) (.var 1)))) .skip))))))⟩
def g5:Fn:=⟨1,11,[],(.seq (.share 1 50 (.cons (.var 0) .nil)) (.seq (.asgs [(2,false),(3,false)] (.cons (.call 51 (.cons (.var 1) (.cons (.cst (.int 5)) .nil))) (.cons (.bin .Add (.cst (.int 2)) (.call 51 (.cons (.var 1) (.cons (.cst (.int 2)) .nil)))) .nil))) (.seq (.asg 4 (.comp (.call 52 (.cons (.var 0) (.cons (.var 1) .nil))) (.rng (.var 3)) [1,2])) (.seq (.asg 5 (.idx (.lst (.cons (.cst (.str c0)) (.cons (.cst (.str c5)) .nil))) (.call 51 (.cons (.var 1) (.cons (.cst (.int 2)) .nil))))) (.seq (.fors [6] (.rng (.cst (.int 9))) (.seq (.asgs [(7,false),(8,false)] (.cons (.ite (.cmp .Eq (.var 6) (.cst (.int 6))) (.cst (.bytes [47])) (.cst (.bytes [10]))) (.cons (.var 4) .nil))) (.seq (.ifs (.cmp .Gt (.var 6) (.cst (.int 6))) (.seq (.asg 7 (.ite (.cmp .Eq (.var 6) (.cst (.int 7))) (.call 28 (.cons (.lst (.cons (.glob 57) .nil)) (.cons (.var 5) .nil))) (.call 33 (.cons (.lst (.cons (.glob 57) .nil)) (.cons (.var 5) .nil))))) (.seq (.asg 8 (.call 56 (.cons (.var 4) (.cons (.ite (.cmp .Eq (.var 6) (.cst (.int 7))) (.cst (.int 2)) (.cst (.int 4))) .nil)))) .skip)) .skip) (.seq (.ifs (.not (.call 58 (.cons (.var 8) (.cons (.var 7) (.cons (.var 6) (.cons (.var 5) .nil)))))) (.seq (.ret (.cst (.bool false))) .skip) .skip) (.seq (.ifs (.and (.cmp .In (.var 6) (.tup (.cons (.cst (.int 0)) (.cons (.cst (.int 4)) (.cons (.cst (.int 7)) (.cons (.cst (.int 8)) .nil)))))) (.not (.call 59 (.cons (.var 8) (.cons (.var 7) (.cons (.var 6) (.cons (.var 5) .nil))))))) (.seq (.ret (.cst (.bool false))) .skip) .skip) .skip))))) (.seq (.ifs (.or (.not (.call 60 (.cons (.var 4) (.cons (.var 5) .nil)))) (.not (.call 61 (.cons (.var 4) .nil)))) (.seq (.ret (.cst (.bool false))) .skip) .skip) (.seq (.own 9) (.seq (.fors [10] (.rng (.cst (.int 2))) (.seq (.app 9 (.comp (.idx (.glob 56) (.call 51 (.cons (.var 0) (.cons (.cst (.int 8)) .nil)))) (.rng (.call 51 (.cons (.var 1) (.cons (.cst (.int 4)) .nil)))) [1])) .skip)) (.seq (.ret (.call 63 (.cons (.idxv 9 (.cst (.int 0))) (.cons (.idxv 9 (.cst (.int 1))) (.cons (.idx (.var 4) (.cst (.int 0))) (.cons (.var 5) .nil)))))) .skip)))))))))⟩
noncomputable def Mv:Fn:=⟨1,1,[],(.seq (.asgA 1 (.glob 26)) (.seq (.asgA 2 (.cst (.int 0))) (.seq (.asgA 3 (.cst (.int 0))) (.seq (.asgA 4 (.cst (.int 0))) (.seq (.asgA 5 (.cst (.int 0))) .skip)))))⟩
noncomputable def Lw:Fn:=⟨2,2,[],(.seq (.ifs (.cmp .Eq (.attr (.var 0) 2) (.cst (.int 0))) (.seq (.asgA 4 (.attr (.var 0) 5)) .skip) .skip) (.seq (.asgA 5 (.bin .Add (.attr (.var 0) 5) (.cst (.int 1)))) (.seq (.ret (.ite (.cmp .Eq (.attr (.var 0) 2) (.cst (.int 0))) (.meth (.var 0) 6 (.cons (.var 1) .nil)) (.meth (.var 0) 7 (.cons (.var 1) .nil)))) .skip)))⟩
noncomputable def Qj:Fn:=⟨2,2,[],(.seq (.ifs (.cmp .LtE (.var 1) (.glob 24)) (.seq (.ifs (.cmp .NotEq (.var 1) (.glob 24)) (.seq (.asgA 1 (.glob 26)) .skip) .skip) (.seq (.ret (.var 1)) .skip)) .skip) (.seq (.ifs (.cmp .Eq (.var 1) (.glob 25)) (.seq (.asgA 1 (.glob 26)) (.seq (.ret (.cst .none)) .skip)) .skip) (.seq (.unp [.a 2,.a 3] (.call 21 (.cons (.var 1) .nil))) (.seq (.ret (.ite (.cmp .Eq (.attr (.var 0) 2) (.cst (.int 0))) (.meth (.var 0) 8 .nil) (.cst .none))) .skip))))⟩
def Ah:Fn:=⟨2,4,[],(.seq (.asg 2 (.call 19 (.cons (.var 1) .nil))) (.seq (.ifs (.cmp .Is (.var 2) (.cst .none)) (.seq (.rai (.tup (.cons (.attr (.var 0) 4) (.cons (.cst (.str c8)) .nil)))) .skip) .skip) (.seq (.asgA 2 (.bin .Sub (.attr (.var 0) 2) (.cst (.int 1)))) (.seq (.fors [3] (.rng (.attr (.var 0) 2)) (.seq (.asg 2 (.bin .Mult (.var 2) (.glob 31))) .skip)) (.seq (.asgA 3 (.bin .Add (.attr (.var 0) 3) (.var 2))) (.seq (.ret (.ite (.cmp .Eq (.attr (.var 0) 2) (.cst (.int 0))) (.meth (.var 0) 8 .nil) (.cst .none))) .skip))))))⟩
def Nv:Fn:=⟨1,2,[],(.seq (.asg 1 (.bin .Add (.attr (.var 0) 1) (.attr (.var 0) 3))) (.seq (.ifs (.or (.cmp .LtE (.var 1) (.glob 24)) (.not (.call 4 (.cons (.var 1) .nil)))) (.seq (.rai (.tup (.cons (.attr (.var 0) 4) (.cons (.cst (.str c9)) .nil)))) .skip) .skip) (.seq (.asgA 1 (.call 18 (.cons (.var 1) .nil))) (.seq (.ret (.var 1)) .skip))))⟩
def lr:Fn:=⟨1,1,[],(.seq (.ifs (.cmp .Gt (.attr (.var 0) 2) (.cst (.int 0))) (.seq (.rai (.tup (.cons (.attr (.var 0) 4) (.cons (.cst (.str c10)) .nil)))) .skip) .skip) .skip)⟩
noncomputable def Qv:Fn:=⟨1,1,[],(.seq (.asgA 9 (.make 0 .nil)) .skip)⟩
noncomputable def Ov:Fn:=⟨3,6,[(.bool false)],(.seq (.own 3) (.seq (.fors [4] (.var 1) (.seq (.asg 5 (.meth (.attr (.var 0) 9) 10 (.cons (.var 4) .nil))) (.seq (.ifs (.cmp .IsNot (.var 5) (.cst .none)) (.seq (.app 3 (.var 5)) .skip) .skip) .skip))) (.seq (.ifs (.var 2) (.seq (.exp (.meth (.attr (.var 0) 9) 11 .nil)) .skip) .skip) (.seq (.frz 3) (.seq (.ret (.var 3)) .skip)))))⟩
noncomputable def Zr:Fn:=⟨3,3,[.none,(.bool true)],(.seq (.asgA 12 (.var 1)) (.seq (.asgA 13 (.var 2)) (.seq (.asgA 2 (.cst (.bytes []))) (.seq (.asgA 14 (.cst (.int 0))) .skip))))⟩
noncomputable def Rj:Fn:=⟨4,5,[],(.seq (.asg 4 (.bin .Sub (.len (.var 1)) (.var 2))) (.seq (.ret (.or (.cmp .Lt (.var 4) (.cst (.int 2))) (.and (.cmp .Lt (.var 4) (.cst (.int 4))) (.call 1 (.cons (.call 27 (.cons (.var 1) (.cons (.var 2) (.cons (.var 3) .nil)))) .nil))))) .skip))⟩
noncomputable def Ei:Fn:=⟨3,10,[(.bool false)],(.seq (.asgs [(3,false),(4,true),(5,false),(6,false)] (.cons (.bin .Add (.attr (.var 0) 2) (.var 1)) (.cons (.lst .nil) (.cons (.cst (.int 0)) (.cons (.attr (.var 0) 12) .nil))))) (.seq (.ifs (.and (.cmp .Is (.var 6) (.cst .none)) (.or (.cmp .GtE (.len (.var 3)) (.cst (.int 2))) (.var 2))) (.seq (.unp [.v 6,.v 5] (.call 30 (.cons (.var 3) (.cons (.cst .none) .nil)))) .skip) .skip) (.seq (.whl (.and (.cmp .IsNot (.var 6) (.cst .none)) (.cmp .Lt (.var 5) (.len (.var 3)))) (.seq (.ifs (.and (.not (.var 2)) (.meth (.var 0) 15 (.cons (.var 3) (.cons (.var 5) (.cons (.var 6) .nil))))) (.seq .brk .skip) .skip) (.seq (.unp [.v 7,.v 8,.v 9] (.call 29 (.cons (.var 3) (.cons (.var 5) (.cons (.var 6) .nil))))) (.seq (.ifs (.and (.cmp .Is (.var 7) (.cst .none)) (.attr (.var 0) 13)) (.seq (.rai (.tup (.cons (.bin .Add (.attr (.var 0) 14) (.var 5)) (.cons (.var 9) .nil)))) .skip) .skip) (.seq (.app 4 (.ite (.cmp .Is (.var 7) (.cst .none)) (.glob 5) (.var 7))) (.seq (.asg 5 (.var 8)) .skip)))))) (.seq (.unp [.a 2,.a 14,.a 12] (.tup (.cons (.slc (.var 3) (.var 5) .nil) (.cons (.bin .Add (.attr (.var 0) 14) (.var 5)) (.cons (.var 6) .nil))))) (.seq (.frz 4) (.seq (.ret (.var 4)) .skip))))))⟩
noncomputable def Rv:Fn:=⟨2,2,[(.bool false)],(.seq (.asgA 13 (.var 1)) (.seq (.asgA 16 (.cst (.bytes []))) (.seq (.asgA 1 (.cst (.int 0))) .skip)))⟩
noncomputable def ij:Fn:=⟨3,9,[(.bool false)],(.seq (.asgs [(3,false),(4,true),(5,false)] (.cons (.bin .Add (.attr (.var 0) 16) (.var 1)) (.cons (.lst .nil) (.cons (.cst (.int 0)) .nil)))) (.seq (.whl (.cmp .Lt (.var 5) (.len (.var 3))) (.seq (.unp [.v 6,.v 7,.v 8] (.call 41 (.cons (.var 3) (.cons (.var 5) .nil)))) (.seq (.ifs (.and (.cmp .Eq (.var 8) (.glob 46)) (.not (.var 2))) (.seq .brk .skip) .skip) (.seq (.ifs (.and (.cmp .Is (.var 7) (.cst .none)) (.attr (.var 0) 13)) (.seq (.rai (.tup (.cons (.bin .Add (.attr (.var 0) 1) (.var 5)) (.cons (.var 8) .nil)))) .skip) .skip) (.seq (.app 4 (.ite (.cmp .Is (.var 7) (.cst .none)) (.glob 5) (.var 7))) (.seq (.asg 5 (.bin .Add (.var 5) (.var 6))) .skip)))))) (.seq (.asgA 16 (.ite (.var 2) (.cst (.bytes [])) (.slc (.var 3) (.var 5) .nil))) (.seq (.asgA 1 (.ite (.var 2) (.cst (.int 0)) (.bin .Add (.attr (.var 0) 1) (.var 5)))) (.seq (.frz 4) (.seq (.ret (.var 4)) .skip))))))⟩
def Bi:List Fn:= [iM,jM,rO,Jz,yH,fy,AE,Bw,yn,Mz,Cw,yh,AH,YC,ym,xh,Aw,uE,tE,WC,Hv,xH,Iv,XC,gD,Kz,Lz,yE,Hz,xE,eD,Fz,Ik,Iz,zE,iD,Gz,Jk,kD,cD,BH,DE,ZC,zm,jD,Lv,Kv,Ez,wm,bD,vf,CJ,DJ,sO,EJ,vE,kM,zH,Nr,Mr,jr,Ti,lM,Lr,g5]
def mT:List (Nat×Nat×Fn):= [(0,999,Mv),(0,10,Lw),(0,6,Qj),(0,7,Ah),(0,8,Nv),(0,11,lr),(1,999,Qv),(1,0,Ov),(2,999,Zr),(2,15,Rj),(2,0,Ei),(3,999,Rv),(3,0,ij)]
noncomputable def xsT:List (List String):= [["number"],["code"],["code"],["code"],["number"],["text","code"],["octet","is_mail"],["code","is_optional"],["code"],["octets","at","is_mail"],["octets","start","end","is_mail","units","rest","many","octet"],["octets","start","end","is_mail","units","is_even","codes","faults","at","unit","place"],["octets","at","octet","end","is_closed","codes","faults"],["octets","text","at","codes","faults"],["octets","text","at","codes","faults"],["octets","at","behind","end","is_closed","codes","faults"],["octets","text","at","behind","octet","codes","place"],["many","found","wide","leads"],["code"],["octet"],["many","is_below"],["octet","is_below","many","wide","turn","told"],["octet","many","is_below","first"],["octets"],["text","found","code","above"],["high","low"],["unit","order"],["octets","at","order"],["text","order","with_mark","found","unit"],["octets","at","order","unit","behind"],["octets","order"],["octets","order","at","found","code","behind","what"],["octets","order","at","found","code","what"],["text","order","with_mark","found","code","row"],["octets","at","order","row","code"],["octets","order"],["octets","order","at","found","code","behind","what"],["octets","order","at","found","code","what"],["code","ahead"],["text","found","code"],["octet"],["octets","at","lead","many","low","high","code","behind","octet"],["octets","found","at","many","code","wrong"],["octets","found","at","many","code","wrong"],["high","low"],["octets","at"],["octets","at","code"],["octets","found","at","many","code","wrong","low"],["octets","found","at","many","code","wrong","low"],["octets","found","at","many","code","wrong"],["script"],["deck","many","cell"],["deck","sort","found","turn"],["octets","way","order"],["octets","way","order","error"],["octets","way","order"],["lines","size"],["lines","sign","found","line"],["lines","sign","way","order","text","begin","number","line","told","place"],["lines","sign","way","order","text","line"],["lines","order","stream","sign","line"],["lines","stream","narrow","is_narrow","begin","is_even","number","line","is_last","piece","told","place","due"],["stream","piece","is_last","error"],["one","other","octets","order","pairs","rows","told"],["script","deck","sort","many","lines","order","way","sign","cut","texts","turn"]]
noncomputable def mxT:List (List String):= [["self"],["self","octet"],["self","octet"],["self","octet","number","turn"],["self","code"],["self"],["self"],["self","octets","is_last","found","octet","code"],["self","order","is_strict"],["self","octets","at","order","many"],["self","octets","is_last","ahead","found","at","order","code","behind","what"],["self","is_strict"],["self","octets","is_last","whole","found","at","many","code","wrong"]]
noncomputable def globT:List String:= ["MAX_CODE","HIGH_FIRST","HIGH_LAST","LOW_FIRST","LOW_LAST","REPLACEMENT","ORDER_MARK","SUPPLEMENTARY","UTF7_PLUS","UTF7_AND","UTF7_MINUS","UTF7_COMMA","UTF7_SLASH","UTF7_DIRECT","UTF7_OPTIONAL","UTF7_SIX","UTF7_UNIT","NOT_DIRECT","EMPTY_RUN","LEFT_OVER","LONE_UNIT","OPEN_RUN","NEEDLESS_RUN","SPLIT_RUN","BLANK","RESET","FIRST_PLACE","ROW","MIDDLE","SINGLES","LEADS","TRAILS","TRAIL_STEP","KANA_FIRST","KANA_LAST","KANA_PLACE","IDEO_FIRST","IDEO_LAST","HANGUL_FIRST","HANGUL_LAST","BIG","HALF_BITS","HALF_MASK","UTF8_ALONE","UTF8_NEVER","UTF8_BROKEN","UTF8_SHORT","UTF8_LONE","UTF8_PAIR","UTF8_FAR","UTF8_NOUGHT","UTF8_TRAIL","UTF8_PLANE","UTF8_HIGH","UTF8_LOW","_law_octets","_law_codes","_law_feed"]
noncomputable def vJ:List String:= ["is_code","is_high","is_low","is_surrogate","is_scalar","check_scalars","utf7_value","utf7_is_direct","utf7_is_mail_direct","utf7_run_end","utf7_run_units","utf7_run_read","utf7_step","decode_utf7","decode_utf7_replaced","utf7_mail_run","decode_mailbox","bocu_reach","bocu_place","bocu_number","bocu_first_lead","bocu_lead","bocu_is_lead_of","decode_bocu","utf16_units","utf16_joined","utf16_octets","utf16_unit","encode_utf16","utf16_step","utf16_start","decode_utf16","decode_utf16_replaced","encode_utf32","utf32_step","utf32_start","decode_utf32","decode_utf32_replaced","utf8_octets","encode_utf8","utf8_lead","utf8_piece","decode_utf8","decode_utf8_replaced","utf8_joined","utf8_wide_piece","utf8_low_behind","decode_cesu8","decode_modified_utf8","decode_wtf8","_law_deck","_law_draw","_law_line","_law_by","_law_told","_law_mended","_law_cut","_law_whole","_law_strict_right","_law_mended_right","_law_streams_right","_law_strict_streams_right","_law_fed","_law_damage_right","law"]
noncomputable def jO:List String:= ["BocuReader","BocuStream","Utf16Stream","Utf8Stream"]
noncomputable def kJ:List String:= ["feed","place","left","difference","lead_at","at","led","trailed","told","reader","put","finish","order","is_strict","used","is_lacking","waiting"]
noncomputable abbrev GH:=Addr->Option Obj
inductive Eb{α β:Type}(R:α->β->Prop):List α->List β->Prop|nil:Eb R [] []|cons {f fs v vs}:R f v->Eb R fs vs->Eb R (f::fs) (v::vs)
section
variable {α β:Type} {R R':α->β->Prop}
def Eb.imp(k:∀a b,R a b->R' a b)(h:Eb R f v):Eb R' f v:=h.rec .nil λa x b=> .cons (k _ _ a) b
def Eb.length(h:Eb R f v):f.length=v.length:=h.rec rfl λx x b=>congrArg Nat.succ b
def Eb.get{f:List α}{v:List β}{i:Nat}{x:α}(h:Eb R f v):f[i]? =some x->∃y,v[i]? =some y/\R x y:=h.rec (motive:=λf v z=>∀i:Nat,f[i]? =some x->∃y,v[i]? =some y/\R x y) (λz e=>Cb e) (λa z b i=>i.rec (λe=>⟨_,rfl,Option.some.inj e▸a⟩) λi z e=>b i e) i
def Eb.back{f:List α}{v:List β}{i:Nat}{y:β}(h:Eb R f v):v[i]? =some y->∃x,f[i]? =some x/\R x y:=h.rec (motive:=λf v z=>∀i:Nat,v[i]? =some y->∃x,f[i]? =some x/\R x y) (λz e=>Cb e) (λa z b i=>i.rec (λe=>⟨_,rfl,Option.some.inj e▸a⟩) λi z e=>b i e) i
def Eb.append(h:Eb R f v)(k:Eb R f' v'):Eb R (f++f') (v++v'):=h.rec (motive:=λf v x=>Eb R (f++f') (v++v')) k λa x b=> .cons a b
def Eb.take(n:Nat)(h:Eb R f v):Eb R (f.take n) (v.take n):=h.rec (motive:=λf v x=>∀n:Nat,Eb R (f.take n) (v.take n)) (λn=>n.rec .nil λx x=> .nil) (λa x b n=>n.rec .nil λn x=> .cons a (b n)) n
def Eb.drop(n:Nat)(h:Eb R f v):Eb R (f.drop n) (v.drop n):=h.rec (motive:=λf v x=>∀n:Nat,Eb R (f.drop n) (v.drop n)) (λn=>n.rec .nil λx x=> .nil) (λa r b n=>n.rec (.cons a r) λn x=>b n) n
def Eb.reverse(h:Eb R f v):Eb R f.reverse v.reverse:=h.rec (motive:=λf v x=>Eb R f.reverse v.reverse) .nil λa x b=>by rw [reverse_cons,reverse_cons];exact b.append (.cons a .nil)
end
inductive wa(G:GH):FV->Value->Prop|none:wa G .none .none|bool (b):wa G (.bool b) (.bool b)|int (i t):wa G (.int i) (.int i t)|str (s t):wa G (.str s) (.str s t)|bytes {l:List Nat} {b:Array UInt8} (t):b.toList.map UInt8.toNat=l->wa G (.bytes l) (.bytes b t)|tup {vs a o xs n}:G a=some o->o.cls= .type "tuple"->o.data= .seq xs n->Eb (wa G) vs xs.toList->wa G (.tup vs) (.ref a)|lst {vs a o xs n}:G a=some o->o.cls= .type "list"->o.data= .seq xs n->Eb (wa G) vs xs.toList->wa G (.lst vs) (.ref a)
abbrev Jb(G:GH):=Eb (wa G)
abbrev yd(G b:GH):Prop:=∀a o,G a=some o->b a=some o
def wa.mono(k:yd G G')(h:wa G f v):wa G' f v:=wa.rec (motive_1:=λf v x=>wa G' f v) (motive_2:=λf v x=>Jb G' f v) .none .bool .int .str (λt e=> .bytes t e) (λa b c x d=> .tup (k _ _ a) b c d) (λa b c x d=> .lst (k _ _ a) b c d) .nil (λx x a b=> .cons a b) h
def Eb.mono(k:yd G G')(h:Jb G f v):Jb G' f v:=h.imp λx x=>wa.mono k
def wa.atI{G:GH}{a:Int}{v:Value}{P:Value->Prop}(h:wa G (.int a) v)(H:∀t,P (.int a t)):P v:=by cases h;exact H _
def wa.atB{G:GH}{b:Bool}{v:Value}{P:Value->Prop}(h:wa G (.bool b) v)(H:P (.bool b)):P v:=by cases h;exact H
def wa.atY{G:GH}{l:List Nat}{v:Value}{P:List Nat->Value->Prop}(h:wa G (.bytes l) v)(H:∀b t,P (b.toList.map UInt8.toNat) (.bytes b t)):P l v:=by cases h with|bytes t e=>subst e;exact H _ t
inductive Fab(G:GH)(c:String)(vs:List FV)(a:Addr):Prop
 |mk:∀o xs n,G a=some o->o.cls= .type c->o.data= .seq xs n->Jb G vs xs.toList->vs.length=xs.size->Fab G c vs a
def wa.atL{G:GH}{vs:List FV}{v:Value}{P:Value->Prop}(h:wa G (.lst vs) v)(H:∀a o xs n,G a=some o->o.cls= .type "list"->o.data= .seq xs n->Jb G vs xs.toList->vs.length=xs.size->P (.ref a)):P v:=by cases h with|lst g c d r=>exact H _ _ _ _ g c d r (r.length.trans length_toList)
def wa.atT{G:GH}{vs:List FV}{v:Value}{P:Value->Prop}(h:wa G (.tup vs) v)(H:∀a o xs n,G a=some o->o.cls= .type "tuple"->o.data= .seq xs n->Jb G vs xs.toList->vs.length=xs.size->P (.ref a)):P v:=by cases h with|tup g c d r=>exact H _ _ _ _ g c d r (r.length.trans length_toList)
def Eb.ints{G:GH}{f v ns}(h:Jb G f v):Fd f=some ns->IntsAre v ns:=h.rec (motive:=λf v y=>∀ns,Fd f=some ns->IntsAre v ns) (λy e=>Option.some.inj e▸ .nil) (λ{x y v y} a y b ns e=>Ql e λi c e=>Ke e λl q e=>Option.some.inj e▸wa.atI (P:=λv=>IntsAre (v::_) _) (c▸a) λt=>IntsAre.cons i t (b l q)) ns
def xG{x:FV}{xs:List FV}{d:List PyData}{P:Prop}(e:FV.pys (x::xs)=some d)(H:∀y l,x.py=some y->FV.pys xs=some l->y::l=d->P):P:=by unfold FV.pys at e;induction q:x.py with|none=>rw [q] at e;exact Cb e|some y=>induction q2:FV.pys xs with|none=>rw [q,q2] at e;exact Cb e|some l=>rw [q,q2] at e;exact H y l q q2 (Option.some.inj e)
def wG{vs:List FV}{d:PyData}{f:List PyData->PyData}{P:Prop}(e:(match FV.pys vs with|some l=>some (f l)|none=>none)=some d)(H:∀l,FV.pys vs=some l->f l=d->P):P:=by induction q:FV.pys vs with|none=>rw [q] at e;exact Cb e|some l=>rw [q] at e;exact H l q (Option.some.inj e)
def wa.reads{G:GH}{h:Heap}(k:yd G h.get?){f v d}(r:wa G f v):f.py=some d->∃as,Reads h v d as:=wa.rec (motive_1:=λf v x=>∀d,f.py=some d->∃as,Reads h v d as) (motive_2:=λf v x=>∀d,FV.pys f=some d->∃as,ReadsAll h v d as)
  (λx e=>Option.some.inj e▸⟨_,.none⟩) (λb x e=>Option.some.inj e▸⟨_,.bool b⟩) (λi t x e=>Option.some.inj e▸⟨_,.int i t⟩) (λs t x e=>Option.some.inj e▸⟨_,.str s t⟩) (λx x x e=>Cb e)
  (λa b c x d x e=>wG e λl q e=>e▸(d l q).elim λx r=>⟨_,.tuple (k _ _ a) b c r⟩) (λa b c x d x e=>wG e λl q e=>e▸(d l q).elim λx r=>⟨_,.list (k _ _ a) b c r⟩)
  (λx e=>Option.some.inj e▸⟨_,.nil⟩) (λx x a b x e=>xG e λy l q1 q2 e=>e▸(a y q1).elim λx r1=>(b l q2).elim λx r2=>⟨_,.cons r1 r2⟩) r d
def Eb.reads{G:GH}{h:Heap}(k:yd G h.get?){f v d}(r:Jb G f v):FV.pys f=some d->∃as,ReadsAll h v d as:=r.rec (motive:=λf v x=>∀d,FV.pys f=some d->∃as,ReadsAll h v d as) (λx e=>Option.some.inj e▸⟨_,.nil⟩) (λa x b x e=>xG e λy l q1 q2 e=>e▸(a.reads k q1).elim λx r1=>(b l q2).elim λx r2=>⟨_,.cons r1 r2⟩) d
inductive SA where|inst (x d:Addr)|dl (a:Addr)
noncomputable def SA.addr:SA->Addr| .inst x y=>x| .dl a=>a
noncomputable def SA.mu:SA->Addr| .inst x d=>d| .dl a=>a
def Td(l:List SA):List Addr:=l.map SA.mu
def Hg(l a:List SA):Td (l++a)=Td l++Td a:=map_append
structure Wd where
 sa:List SA
 G:GH
 s:Shared
noncomputable abbrev Wd.h(w:Wd):Heap:=w.s.heap
abbrev Wd.at(w:Wd)(h:Heap)(tk:Nat):Wd:=⟨w.sa,w.G,{w.s with heap:=h,toks:=tk}⟩
def Sa(w:Wd):AV->Value->Prop| .v f,v=>wa w.G f v| .o i,v=>∃a,w.sa[i]? =some a/\v= .ref a.addr
abbrev Qd(w:Wd):=Eb (Sa w)
def Qd.fvs(h:Qd w x v):Mine.fvs x=some l->Jb w.G l v:=h.rec (motive:=λx v y=>∀l,Mine.fvs x=some l->Jb w.G l v) (λy e=>Option.some.inj e▸ .nil) (λa y b l e=>Ke e λf c e=>Ke e λm q e=>Option.some.inj e▸qW (P:=λx=>Sa w x _->Jb w.G (f::m) _) c (λa=>Eb.cons a (b m q)) a) l
def Qd.ofF(h:Jb w.G f v):Qd w (f.map .v) v:=h.rec (motive:=λf v x=>Qd w (f.map .v) v) .nil λa x b=> .cons a b
def Up(w w':Wd):Prop:=yd w.G w'.G/\∃m,w'.sa=w.sa++m
def Up.at:Up w (w.at h tk):=⟨λx x e=>e,[],(append_nil _).symm⟩
def Sa.up(x:Up w w')(r:Sa w a v):Sa w' a v:=by induction a with|v f=>exact wa.mono x.1 r|o i=>exact r.elim λa e=>x.2.elim λm b=>⟨a,by rw [b,getElem?_append_left (List.getElem?_eq_some_iff.mp e.1).1];exact e.1,e.2⟩
def Qd.up(x:Up w w')(r:Qd w a v):Qd w' a v:=r.imp λy y=>Sa.up x
noncomputable abbrev Kept(h':Heap)(b:Addr)(o:Obj):Prop:=h'.get? b=some o\/∃es n sl,o.data= .dict es n/\h'.get? b=some {o with slots:=sl}
abbrev More(w w':Wd):Prop:=∃m,w'.sa=w.sa++m/\∀b∈Td m,w.h.get? b=none
noncomputable abbrev Rest(w w':Wd):Prop:=w'.s.gens=w.s.gens/\w'.s.os=w.s.os
structure Step(w w':Wd):Prop where
 grow:yd w.G w'.G
 fresh:∀a o,w'.G a=some o->w.G a=some o\/w.h.get? a=none
 kp:∀b o,b∉Td w.sa->w.h.get? b=some o->Kept w'.h b o
 alive:∀b,(w.h.get? b).isSome->(w'.h.get? b).isSome
 more:More w w'
 rest:Rest w w'
def eg(e:o=some x):o.isSome=true:=e▸rfl
def Nl{a:Type}{o:Option a}{P:Prop}(h:o.isSome=true)(k:∀x,o=some x->P):P:=(isSome_iff_exists.mp h).elim k
def Zd{a:Type}{o:Option a}{x:a}{P:Prop}(e:o=some x)(n:o=none):P:=noN (e.symm.trans n)
def qp{h:Heap}{a b:Addr}{o:Obj}(e:h.get? b=some o)(n:h.get? a=none):b≠a:=λz=>Zd e (z▸n)
def Ue(k:∀x,o=some x->False):o=none:=by induction o with|none=>rfl|some x=>exact (k x rfl).elim
def vz{h h':Heap}{b:Addr}(a:(h.get? b).isSome->(h'.get? b).isSome)(e:h'.get? b=none):h.get? b=none:=Ue λx q=>Ec (e▸a (eg q):(none:Option Obj).isSome=true)
def Fi(w:Wd):More w w:=⟨[],(append_nil _).symm,λx h=>nomatch h⟩
def ip{sa m:List SA}{h:Heap}{b:Addr}{o:Obj}(a:∀b∈Td m,h.get? b=none)(hb:b∉Td sa)(e:h.get? b=some o):b∉Td (sa++m):=λq=>by rw [Hg] at q;exact (mem_append.mp q).elim hb λq=>Zd e (a b q)
def More.trans(x:More w w₁)(y:More w₁ d)(a:∀b,w₁.h.get? b=none->w.h.get? b=none):More w d:=x.elim λm e=>y.elim λm' c=>⟨m++m',by rw [c.1,e.1,append_assoc],λb hb=>by rw [Hg] at hb;exact (mem_append.mp hb).elim (e.2 b) λq=>a b (c.2 b q)⟩
def Rest.trans(x:Rest w w₁)(y:Rest w₁ a):Rest w a:=⟨y.1.trans x.1,y.2.trans x.2⟩
def Kept.trans(x:Kept c b o)(y:∀o,c.get? b=some o->Kept d b o):Kept d b o:=x.elim (y o) λz=>z.elim λes z=>z.elim λn z=>z.elim λa z=>(y _ z.2).elim (λe=> .inr ⟨es,n,_,z.1,e⟩) λu=>u.elim λa u=>u.elim λa u=>u.elim λsl u=> .inr ⟨es,n,sl,z.1,u.2⟩
def Kept.same(x:Kept h b o)(nd:∀es n,o.data≠ .dict es n):h.get? b=some o:=x.elim id λz=>z.elim λes z=>z.elim λn z=>z.elim λa z=>absurd z.1 (nd es n)
def Kept.some(x:Kept h b o):∃sl,h.get? b=some {o with slots:=sl}:=x.elim (λe=>⟨o.slots,e⟩) λz=>z.elim λa z=>z.elim λa z=>z.imp λa z=>z.2
section
variable {w w₁ w':Wd}
def Step.dead(x:Step w w')(b:Addr)(e:w'.h.get? b=none):w.h.get? b=none:=vz (x.alive b) e
def Step.keep(x:Step w w')(hb:b∉Td w.sa)(e:w.h.get? b=some o):∃sl,w'.h.get? b=some {o with slots:=sl}:=(x.kp b o hb e).some
def Step.same(x:Step w w')(hb:b∉Td w.sa)(e:w.h.get? b=some o)(nd:∀es n,o.data≠ .dict es n):w'.h.get? b=some o:=(x.kp b o hb e).same nd
def Step.refl:Step w w:=⟨λx x e=>e,λx x e=> .inl e,λx x x e=> .inl e,λx e=>e,Fi w,rfl,rfl⟩
def Step.nm(x:Step w w'){b:Addr}{o:Obj}(hb:b∉Td w.sa)(e:w.h.get? b=some o):b∉Td w'.sa:=x.more.elim λa c=>c.1▸ip c.2 hb e
def Step.trans(x:Step w w₁)(y:Step w₁ w'):Step w w':=⟨λa o e=>y.grow _ _ (x.grow _ _ e),λa o e=>(y.fresh a o e).elim (x.fresh a o) λq=> .inr (x.dead _ q),λb o hb e=>(x.kp b o hb e).trans λd c=>y.kp b d (x.nm hb e) c,λb e=>y.alive _ (x.alive _ e),x.more.trans y.more x.dead,x.rest.trans y.rest⟩
def Step.up(x:Step w w'):Up w w':=⟨x.grow,x.more.imp λa h=>h.1⟩
def Step.arel(x:Step w w')(r:Sa w a v):Sa w' a v:=r.up x.up
def Step.arels(x:Step w w')(r:Qd w a v):Qd w' a v:=r.up x.up
def Step.gn(S:Step w w'){a:Addr}{o:Obj}(e:w.h.get? a=some o)(g:w.G a=none):w'.G a=none:=Ue λx q=>(S.fresh a x q).elim (λz=>Zd z g) λz=>Zd e z
end
structure GR where
 clsA:Nat->Addr
 metA:Nat->Nat->Addr
 atN:Nat->Str
structure Ctx where
 K:Frag
 prog:Program
 w:World
 N:GR
 g0:Heap
 mg:Str->Option Value
 mb:Str->Option Value
 BE:Addr
noncomputable abbrev Ctx.M(X:Ctx):Model:=model X.prog X.w
noncomputable abbrev Ctx.ent(X:Ctx)(k:Nat)(t:Tok)(v:Value):DictEntry:=⟨keyHash X.w.params (X.N.atN k),.str (X.N.atN k) t,v⟩
inductive xd(X:Ctx)(w:Wd):List (Nat×AV)->List DictEntry->Prop|nil:xd X w [] []|cons {k av t v fs es}:Sa w av v->xd X w fs es->xd X w ((k,av)::fs) (X.ent k t v::es)
def xd.up(S:Up w w')(h:xd X w fs es):xd X w' fs es:=h.rec .nil λa x b=> .cons (a.up S) b
noncomputable abbrev gv(es:Array DictEntry)(n:Nat):Obj:=⟨.type "dict",none,.dict es n,#[]⟩
noncomputable abbrev td(xs:Array Value)(n:Nat):Obj:=⟨.type "list",none,.seq xs n,#[]⟩
inductive rD(X:Ctx)(w:Wd)(x d:Addr)(c:Nat)(fs:List (Nat×AV)):Prop
 |mk:∀es n,w.G x=some ⟨.ref (X.N.clsA c),some d,.plain,#[]⟩->w.h.get? d=some (gv es n)->xd X w fs es.toList->(∀p∈fs,sd c p.1=true)->es.size<=100->rD X w x d c fs
inductive ag(w:Wd)(a:Addr)(l:List FV):Prop
 |mk:∀xs n,w.h.get? a=some (td xs n)->Jb w.G l xs.toList->ag w a l
noncomputable def jw(X:Ctx)(w:Wd):SA->PO->Prop| .inst x d,.inst c fs=>rD X w x d c fs| .dl a,.dl l=>ag w a l|y,b=>False
abbrev Ri(X:Ctx)(w:Wd):=Eb (jw X w)
def jw.up(S:Up w w')(e:w'.h.get? a.mu=w.h.get? a.mu)(r:jw X w a o):jw X w' a o:=by
 induction a<;>cases o;·exact r.rec λes n r1 r2 r3 r4 r5=>⟨es,n,S.1 _ _ r1,e.trans r2,r3.up S,r4,r5⟩
 ·exact r.elim
 ·exact r.elim
 ·exact r.rec λxs n r1 r2=>⟨xs,n,e.trans r1,r2.mono S.1⟩
def Ri.up{X:Ctx}{w w':Wd}(S:Up w w'){as os}(e:∀a∈as,w'.h.get? a.mu=w.h.get? a.mu)(r:Ri X w as os):Ri X w' as os:=r.rec (motive:=λas os y=>(∀a:SA,a∈as->w'.h.get? a.mu=w.h.get? a.mu)->Ri X w' as os) (λy=> .nil) (λ{f y y y} a y c e=> .cons (a.up S (e f (.head _))) (c λx b=>e x (.tail _ b))) e
abbrev Off(w:Wd)(a:Addr):Prop:=w.G a=none/\a∉Td w.sa
abbrev IsDict(h:Heap)(L:Addr):Prop:=∃o es n,h.get? L=some o/\o.data= .dict es n
structure Ea(X:Ctx)(l:List Env)(w:Wd)(st:ia):Prop where
 base:yd X.g0.get? w.G
 gin:yd w.G w.h.get?
 store:Ri X w w.sa st
 muG:∀a∈Td w.sa,w.G a=none/\(w.h.get? a).isSome
 nd:(Td w.sa).Nodup
 frames:w.h.FunFrames X.g0 l
 frS:∀e∈l,∀L,e.frame=some L->Off w L
 frD:∀e∈l,∀L,e.frame=some L->IsDict w.h L
noncomputable abbrev Apart(l:List Env)(a:Addr):Prop:=∀b∈l,b.frame≠some a
section
variable {X:Ctx} {l:List Env} {w w':Wd} {st:ia}
def Ea.keep0(I:Ea X l w st):yd X.g0.get? w.h.get? :=λa o e=>I.gin _ _ (I.base _ _ e)
def Ka(h:Heap):h.get? h.objs.size=none:=get?_none_of_le (Nat.le_refl _)
def Ea.gnone(I:Ea X l w st){a:Addr}(e:w.h.get? a=none):w.G a=none:=Ue λx q=>Zd (I.gin _ _ q) e
def Ea.nm(I:Ea X l w st)(e:w.h.get? a=none):a∉Td w.sa:=λz=>Ec (e▸(I.muG a z).2:(none:Option Obj).isSome=true)
def Ea.off(I:Ea X l w st)(e:w.h.get? a=none):Off w a:=⟨I.gnone e,I.nm e⟩
def Ea.apartO(I:Ea X l w st)(e:w.h.get? a=some o)(nd:∀es n,o.data≠ .dict es n):Apart l a:=λb c d=>(I.frD b c a d).elim λf h=>h.elim λes h=>h.elim λn h=>nd es n (by rw [<-h.2,Option.some.inj (e.symm.trans h.1)])
def Ea.apart(I:Ea X l w st){a:Addr}(e:w.h.get? a=none):Apart l a:=λb c d=>(I.frD b c a d).elim λx h=>h.elim λx h=>h.elim λx h=>Zd h.1 e
def Pj(G:GH)(a:Addr)(o:Obj):GH:=λb=>if b=a then some o else G b
def Bc(G:GH)(a:Addr)(o:Obj):Pj G a o a=some o:=if_pos rfl
def Cn(n:b≠a):Pj G a o b=G b:=if_neg n
def lg{G:GH}{a:Addr}{o:Obj}(e:G a=none):yd G (Pj G a o):=λb x q=>(Cn (λz:b=a=>Zd q (z▸e))).trans q
def Xo{G:GH}{a b:Addr}{o x:Obj}{P:Prop}(e:Pj G a o b=some x)(k1:b=a->x=o->P)(k2:G b=some x->P):P:=by
 unfold Pj at e;by_cases z:b=a;·rw [if_pos z] at e;exact k1 z (Option.some.inj e).symm
 ·rw [if_neg z] at e;exact k2 e
def Nj{h h' base:Heap}{l:List Env}:(∀e∈l,∀L,e.frame=some L->IsDict h' L)->h.FunFrames base l->h'.FunFrames base l:=l.rec (λx x=>trivial) λenv rest b k H=>⟨H.1,H.2.1.elim λL z=>z.elim λx z=>(k env (.head _) L z.1).elim λc h=>h.elim λes h=>h.elim λn h=>⟨L,c,z.1,z.2.1,h.1,λvs q=>nomatch h.2.symm.trans q⟩,b (λe a=>k e (.tail _ a)) H.2.2⟩
def Ea.turn(I:Ea X l w st)(i:yd w.G w'.G)(c:w'.sa=w.sa)(gin:yd w'.G w'.h.get?)(h:∀b∈Td w.sa,w'.G b=none/\w'.h.get? b=w.h.get? b)(fr:∀e∈l,∀L,e.frame=some L->w'.G L=none/\IsDict w'.h L):Ea X l w' st:=⟨λa o e=>i _ _ (I.base _ _ e),gin,c▸I.store.up ⟨i,[],c▸(append_nil _).symm⟩ λa g=>(h _ (mem_map_of_mem g)).2,λa g=>⟨(h a (c▸g)).1,by rw [(h a (c▸g)).2];exact (I.muG a (c▸g)).2⟩,c▸I.nd,Nj (λe f L d=>(fr e f L d).2) I.frames,λe f L d=>⟨(fr e f L d).1,c▸(I.frS e f L d).2⟩,λe f L d=>(fr e f L d).2⟩
noncomputable abbrev iJ(l:List Env)(h':Heap)(b:Addr)(o:Obj):Prop:=h'.get? b=some o\/(∃a∈l,a.frame=some b)/\∃sl,h'.get? b=some {o with slots:=sl}
def Ea.but(I:Ea X l w st){ch:Addr->Prop}{h':Heap}{tk:Nat}(f:∀b,ch b->Off w b)(kp:∀b o,¬ch b->w.h.get? b=some o->iJ l h' b o)(fr:∀L,ch L->(∃e∈l,e.frame=some L)->IsDict h' L):Ea X l (w.at h' tk) st:=have j:∀b o,¬ch b->(∀a∈l,a.frame≠some b)->w.h.get? b=some o->h'.get? b=some o:=λb o n ap e=>(kp b o n e).elim id λz=>z.1.elim λa h=>absurd h.2 (ap a h.1)
 I.turn (λx x e=>e) rfl (λb o e=>j b o (λc=>Zd e (f b c).1) (λa d i=>Zd e (I.frS a d b i).1) (I.gin _ _ e)) (λb hb=>⟨(I.muG b hb).1,Nl (I.muG b hb).2 λo e=>(j b o (λc=>(f b c).2 hb) (λa d i=>(I.frS a d b i).2 hb) e).trans e.symm⟩)
  λe d L g=>⟨(I.frS e d L g).1,(Classical.em (ch L)).elim (λc=>fr L c ⟨e,d,g⟩) λc=>(I.frD e d L g).elim λo h=>h.elim λes h=>h.elim λn h=>(kp L o c h.1).elim (λz=>⟨o,es,n,z,h.2⟩) λz=>z.2.elim λsl z=>⟨_,es,n,z,h.2⟩⟩
def Ea.scratch(I:Ea X l w st){ch:Addr->Prop}{h':Heap}{tk:Nat}(a:∀b,ch b->Off w b)(ap:∀b,ch b->Apart l b)(kp:∀b o,¬ch b->w.h.get? b=some o->h'.get? b=some o):Ea X l (w.at h' tk) st:=I.but a (λb o n e=> .inl (kp b o n e)) λL c h=>h.elim λe h=>absurd h.2 (ap L c e h.1)
def Step.kept{h':Heap}{tk:Nat}(kp:∀b o,w.h.get? b=some o->h'.get? b=some o):Step w (w.at h' tk):=⟨λx x e=>e,λx x e=> .inl e,λb o x e=> .inl (kp b o e),λb e=>Nl e λo e=>eg (kp b o e),Fi w,rfl,rfl⟩
def Ea.kept(I:Ea X l w st){h':Heap}{tk:Nat}(kp:∀b o,w.h.get? b=some o->h'.get? b=some o):Ea X l (w.at h' tk) st:=I.scratch (ch:=λx=>False) (λx c=>c.elim) (λx c=>c.elim) λb o x=>kp b o
def Step.scratch{w₀:Wd}(S:Step w₀ w){ch:Addr->Prop}{h':Heap}{tk:Nat}(fr:∀b,ch b->w₀.h.get? b=none)(kp:∀b o,¬ch b->w.h.get? b=some o->h'.get? b=some o):Step w₀ (w.at h' tk):=have a:∀b o,w₀.h.get? b=some o->¬ch b:=λb x e c=>Zd e (fr b c)
 ⟨S.grow,S.fresh,λb o hb e=>(S.kp b o hb e).imp (kp b _ (a b o e)) (.imp λes=> .imp λn=> .imp λsl z=>⟨z.1,kp b _ (a b o e) z.2⟩),λb hb=>Nl hb λo e=>Nl (S.alive b hb) λf d=>eg (kp b f (a b o e) d),S.more,S.rest⟩
abbrev Wd.frz(w:Wd)(a:Addr)(o:Obj):Wd:=⟨w.sa,Pj w.G a o,w.s⟩
def Ea.freeze(I:Ea X l w st){a:Addr}{o:Obj}(f:Off w a)(g:Apart l a)(h:w.h.get? a=some o):Ea X l (w.frz a o) st:=I.turn (lg f.1) rfl (λb x e=>Xo e (λz q=>by rw [z,q];exact h) (I.gin b x)) (λb hb=>⟨(Cn (λz:b=a=>f.2 (z▸hb))).trans (I.muG b hb).1,rfl⟩) λe d L c=>⟨(Cn (λz:L=a=>g e d (z▸c))).trans (I.frS e d L c).1,I.frD e d L c⟩
def Step.freeze{w₀:Wd}(S:Step w₀ w){a:Addr}{o:Obj}(fr:w₀.h.get? a=none)(ga:w.G a=none):Step w₀ (w.frz a o):=⟨λb x e=>lg ga b x (S.grow b x e),λb x e=>Xo e (λz y=> .inr (z▸fr)) (S.fresh b x),S.kp,S.alive,S.more,S.rest⟩
abbrev Wd.push(w:Wd)(o:Obj)(tk:Nat):Wd:=⟨w.sa,Pj w.G w.h.objs.size o,{w.s with heap:=w.h.push o,toks:=tk}⟩
def Ob{h:Heap}{o:Obj}:∀b x,h.get? b=some x->(h.push o).get? b=some x:=λa a e=>get?_push_of_some _ e
def Step.push{tk:Nat}{o:Obj}(I:Ea X l w st):Step w (w.push o tk):=(Step.kept (tk:=tk) Ob).freeze (Ka _) (I.gnone (Ka _))
def Ea.push(I:Ea X l w st){o:Obj}{tk:Nat}(a:o.isFreed=false):Ea X l (w.push o tk) st:=have e:=Ka w.h
 (I.kept Ob).freeze (w:=w.at (w.h.push o) tk) (I.off e) (I.apart e) (get?_push_size _ a)
end
def Xb{c:Prop}[Decidable c]{t:c->Bool}{P:Prop}(h:dite c t (λx=>false)=true)(k:∀a,t a=true->P):P:=by
 by_cases a:c;·rw [dif_pos a] at h;exact k a h
 ·rw [dif_neg a] at h;injection h
def Ra(e:Expr)(k:Str->Pos->Bool):Bool:=if h:e.ctorIdx=23 then @Expr.Name.elim (λx=>Bool) e h k else false
def ya{e:Expr}{k:Str->Pos->Bool}(h:Ra e k=true){P:Expr->Prop}(H:∀a b,k a b=true->P (.Name a b)):P e:=Xb h λc h=> @Expr.Name.elim (λe=>∀c,@Expr.Name.elim (λx=>Bool) e c k=true->P e) e c (λa b x h=>H a b h) c h
def Dh(e:Expr)(k:Const->Nat->Pos->Bool):Bool:=if h:e.ctorIdx=19 then @Expr.Constant.elim (λx=>Bool) e h k else false
def yg{e:Expr}{k:Const->Nat->Pos->Bool}(h:Dh e k=true){P:Expr->Prop}(H:∀a b c,k a b c=true->P (.Constant a b c)):P e:=Xb h λd h=> @Expr.Constant.elim (λe=>∀d,@Expr.Constant.elim (λx=>Bool) e d k=true->P e) e d (λa b c x h=>H a b c h) d h
def CI(e:Expr)(k:Expr->Operator->Expr->Pos->Bool):Bool:=if h:e.ctorIdx=2 then @Expr.BinOp.elim (λx=>Bool) e h k else false
def HH{e:Expr}{k:Expr->Operator->Expr->Pos->Bool}(h:CI e k=true){P:Expr->Prop}(H:∀a b c d,k a b c d=true->P (.BinOp a b c d)):P e:=Xb h λf h=> @Expr.BinOp.elim (λe=>∀f,@Expr.BinOp.elim (λx=>Bool) e f k=true->P e) e f (λa b c d x h=>H a b c d h) f h
def Ol(e:Expr)(k:Expr->(List CmpOp)->(List Expr)->Pos->Bool):Bool:=if h:e.ctorIdx=15 then @Expr.Compare.elim (λx=>Bool) e h k else false
def fj{e:Expr}{k:Expr->(List CmpOp)->(List Expr)->Pos->Bool}(h:Ol e k=true){P:Expr->Prop}(H:∀a b c d,k a b c d=true->P (.Compare a b c d)):P e:=Xb h λf h=> @Expr.Compare.elim (λe=>∀f,@Expr.Compare.elim (λx=>Bool) e f k=true->P e) e f (λa b c d x h=>H a b c d h) f h
def Dx(e:Expr)(k:BoolOp->(List Expr)->Pos->Bool):Bool:=if h:e.ctorIdx=0 then @Expr.BoolOp.elim (λx=>Bool) e h k else false
def xt{e:Expr}{k:BoolOp->(List Expr)->Pos->Bool}(h:Dx e k=true){P:Expr->Prop}(H:∀a b c,k a b c=true->P (.BoolOp a b c)):P e:=Xb h λd h=> @Expr.BoolOp.elim (λe=>∀d,@Expr.BoolOp.elim (λx=>Bool) e d k=true->P e) e d (λa b c x h=>H a b c h) d h
def Rl(e:Expr)(k:UnaryOp->Expr->Pos->Bool):Bool:=if h:e.ctorIdx=3 then @Expr.UnaryOp.elim (λx=>Bool) e h k else false
def gj{e:Expr}{k:UnaryOp->Expr->Pos->Bool}(h:Rl e k=true){P:Expr->Prop}(H:∀a b c,k a b c=true->P (.UnaryOp a b c)):P e:=Xb h λd h=> @Expr.UnaryOp.elim (λe=>∀d,@Expr.UnaryOp.elim (λx=>Bool) e d k=true->P e) e d (λa b c x h=>H a b c h) d h
def EI(e:Expr)(k:Expr->Expr->Expr->Pos->Bool):Bool:=if h:e.ctorIdx=5 then @Expr.IfExp.elim (λx=>Bool) e h k else false
def JH{e:Expr}{k:Expr->Expr->Expr->Pos->Bool}(h:EI e k=true){P:Expr->Prop}(H:∀a b c d,k a b c d=true->P (.IfExp a b c d)):P e:=Xb h λf h=> @Expr.IfExp.elim (λe=>∀f,@Expr.IfExp.elim (λx=>Bool) e f k=true->P e) e f (λa b c d x h=>H a b c d h) f h
def Rf(e:Expr)(k:Expr->Expr->Pos->Bool):Bool:=if h:e.ctorIdx=21 then @Expr.Subscript.elim (λx=>Bool) e h k else false
def Be{e:Expr}{k:Expr->Expr->Pos->Bool}(h:Rf e k=true){P:Expr->Prop}(H:∀a b c,k a b c=true->P (.Subscript a b c)):P e:=Xb h λd h=> @Expr.Subscript.elim (λe=>∀d,@Expr.Subscript.elim (λx=>Bool) e d k=true->P e) e d (λa b c x h=>H a b c h) d h
def eB(e:Expr)(k:(Option Expr)->(Option Expr)->(Option Expr)->Pos->Bool):Bool:=if h:e.ctorIdx=26 then @Expr.Slice.elim (λx=>Bool) e h k else false
def bw{e:Expr}{k:(Option Expr)->(Option Expr)->(Option Expr)->Pos->Bool}(h:eB e k=true){P:Expr->Prop}(H:∀a b c d,k a b c d=true->P (.Slice a b c d)):P e:=Xb h λf h=> @Expr.Slice.elim (λe=>∀f,@Expr.Slice.elim (λx=>Bool) e f k=true->P e) e f (λa b c d x h=>H a b c d h) f h
def zg(e:Expr)(k:(List Expr)->Nat->Pos->Bool):Bool:=if h:e.ctorIdx=25 then @Expr.Tuple.elim (λx=>Bool) e h k else false
def Le{e:Expr}{k:(List Expr)->Nat->Pos->Bool}(h:zg e k=true){P:Expr->Prop}(H:∀a b c,k a b c=true->P (.Tuple a b c)):P e:=Xb h λd h=> @Expr.Tuple.elim (λe=>∀d,@Expr.Tuple.elim (λx=>Bool) e d k=true->P e) e d (λa b c x h=>H a b c h) d h
def zo(e:Expr)(k:(List Expr)->Pos->Bool):Bool:=if h:e.ctorIdx=24 then @Expr.List.elim (λx=>Bool) e h k else false
def Fh{e:Expr}{k:(List Expr)->Pos->Bool}(h:zo e k=true){P:Expr->Prop}(H:∀a b,k a b=true->P (.List a b)):P e:=Xb h λc h=> @Expr.List.elim (λe=>∀c,@Expr.List.elim (λx=>Bool) e c k=true->P e) e c (λa b x h=>H a b h) c h
def zc(e:Expr)(k:Expr->(List Expr)->(List Keyword)->Pos->Bool):Bool:=if h:e.ctorIdx=16 then @Expr.Call.elim (λx=>Bool) e h k else false
def Wa{e:Expr}{k:Expr->(List Expr)->(List Keyword)->Pos->Bool}(h:zc e k=true){P:Expr->Prop}(H:∀a b c d,k a b c d=true->P (.Call a b c d)):P e:=Xb h λf h=> @Expr.Call.elim (λe=>∀f,@Expr.Call.elim (λx=>Bool) e f k=true->P e) e f (λa b c d x h=>H a b c d h) f h
def uc(e:Expr)(k:Expr->Str->Pos->Bool):Bool:=if h:e.ctorIdx=20 then @Expr.Attribute.elim (λx=>Bool) e h k else false
def xb{e:Expr}{k:Expr->Str->Pos->Bool}(h:uc e k=true){P:Expr->Prop}(H:∀a b c,k a b c=true->P (.Attribute a b c)):P e:=Xb h λd h=> @Expr.Attribute.elim (λe=>∀d,@Expr.Attribute.elim (λx=>Bool) e d k=true->P e) e d (λa b c x h=>H a b c h) d h
def Jy(e:Expr)(k:Expr->(List Comprehension)->Scope->Pos->Bool):Bool:=if h:e.ctorIdx=8 then @Expr.ListComp.elim (λx=>Bool) e h k else false
def cB{e:Expr}{k:Expr->(List Comprehension)->Scope->Pos->Bool}(h:Jy e k=true){P:Expr->Prop}(H:∀a b c d,k a b c d=true->P (.ListComp a b c d)):P e:=Xb h λf h=> @Expr.ListComp.elim (λe=>∀f,@Expr.ListComp.elim (λx=>Bool) e f k=true->P e) e f (λa b c d x h=>H a b c d h) f h
def yf(e:Stmt)(k:(List Expr)->Expr->Pos->Bool):Bool:=if h:e.ctorIdx=5 then @Stmt.Assign.elim (λx=>Bool) e h k else false
def Hd{e:Stmt}{k:(List Expr)->Expr->Pos->Bool}(h:yf e k=true){P:Stmt->Prop}(H:∀a b c,k a b c=true->P (.Assign a b c)):P e:=Xb h λd h=> @Stmt.Assign.elim (λe=>∀d,@Stmt.Assign.elim (λx=>Bool) e d k=true->P e) e d (λa b c x h=>H a b c h) d h
def aw(e:Stmt)(k:Expr->Operator->Expr->Pos->Bool):Bool:=if h:e.ctorIdx=7 then @Stmt.AugAssign.elim (λx=>Bool) e h k else false
def Hy{e:Stmt}{k:Expr->Operator->Expr->Pos->Bool}(h:aw e k=true){P:Stmt->Prop}(H:∀a b c d,k a b c d=true->P (.AugAssign a b c d)):P e:=Xb h λf h=> @Stmt.AugAssign.elim (λe=>∀f,@Stmt.AugAssign.elim (λx=>Bool) e f k=true->P e) e f (λa b c d x h=>H a b c d h) f h
def yo(e:Stmt)(k:Expr->Pos->Bool):Bool:=if h:e.ctorIdx=24 then @Stmt.Expr.elim (λx=>Bool) e h k else false
def Eh{e:Stmt}{k:Expr->Pos->Bool}(h:yo e k=true){P:Stmt->Prop}(H:∀a b,k a b=true->P (.Expr a b)):P e:=Xb h λc h=> @Stmt.Expr.elim (λe=>∀c,@Stmt.Expr.elim (λx=>Bool) e c k=true->P e) e c (λa b x h=>H a b h) c h
def UX(e:Stmt)(k:Expr->(List Stmt)->(List Stmt)->Pos->Bool):Bool:=if h:e.ctorIdx=12 then @Stmt.If.elim (λx=>Bool) e h k else false
def QP{e:Stmt}{k:Expr->(List Stmt)->(List Stmt)->Pos->Bool}(h:UX e k=true){P:Stmt->Prop}(H:∀a b c d,k a b c d=true->P (.If a b c d)):P e:=Xb h λf h=> @Stmt.If.elim (λe=>∀f,@Stmt.If.elim (λx=>Bool) e f k=true->P e) e f (λa b c d x h=>H a b c d h) f h
def GI(e:Stmt)(k:Expr->(List Stmt)->(List Stmt)->Pos->Bool):Bool:=if h:e.ctorIdx=11 then @Stmt.While.elim (λx=>Bool) e h k else false
def LH{e:Stmt}{k:Expr->(List Stmt)->(List Stmt)->Pos->Bool}(h:GI e k=true){P:Stmt->Prop}(H:∀a b c d,k a b c d=true->P (.While a b c d)):P e:=Xb h λf h=> @Stmt.While.elim (λe=>∀f,@Stmt.While.elim (λx=>Bool) e f k=true->P e) e f (λa b c d x h=>H a b c d h) f h
def xS(e:Stmt)(k:Expr->Expr->(List Stmt)->(List Stmt)->Pos->Bool):Bool:=if h:e.ctorIdx=9 then @Stmt.For.elim (λx=>Bool) e h k else false
def TM{e:Stmt}{k:Expr->Expr->(List Stmt)->(List Stmt)->Pos->Bool}(h:xS e k=true){P:Stmt->Prop}(H:∀a b c d e,k a b c d e=true->P (.For a b c d e)):P e:=Xb h λf h=> @Stmt.For.elim (λe=>∀f,@Stmt.For.elim (λx=>Bool) e f k=true->P e) e f (λa b c d e x h=>H a b c d e h) f h
def jq(e:Stmt)(k:(Option Expr)->Pos->Bool):Bool:=if h:e.ctorIdx=3 then @Stmt.Return.elim (λx=>Bool) e h k else false
def xk{e:Stmt}{k:(Option Expr)->Pos->Bool}(h:jq e k=true){P:Stmt->Prop}(H:∀a b,k a b=true->P (.Return a b)):P e:=Xb h λc h=> @Stmt.Return.elim (λe=>∀c,@Stmt.Return.elim (λx=>Bool) e c k=true->P e) e c (λa b x h=>H a b h) c h
def DI(e:Stmt)(k:Pos->Bool):Bool:=if h:e.ctorIdx=26 then @Stmt.Break.elim (λx=>Bool) e h k else false
def IH{e:Stmt}{k:Pos->Bool}(h:DI e k=true){P:Stmt->Prop}(H:∀a,k a=true->P (.Break a)):P e:=Xb h λb h=> @Stmt.Break.elim (λe=>∀b,@Stmt.Break.elim (λx=>Bool) e b k=true->P e) e b (λa x h=>H a h) b h
def onRaise(e:Stmt)(k:(Option Expr)->(Option Expr)->Pos->Bool):Bool:=if h:e.ctorIdx=16 then @Stmt.Raise.elim (λx=>Bool) e h k else false
def KH{e:Stmt}{k:(Option Expr)->(Option Expr)->Pos->Bool}(h:onRaise e k=true){P:Stmt->Prop}(H:∀a b c,k a b c=true->P (.Raise a b c)):P e:=Xb h λd h=> @Stmt.Raise.elim (λe=>∀d,@Stmt.Raise.elim (λx=>Bool) e d k=true->P e) e d (λa b c x h=>H a b c h) d h
def yS(e:Stmt)(k:(List Stmt)->(List ExceptHandler)->(List Stmt)->(List Stmt)->Pos->Bool):Bool:=if h:e.ctorIdx=17 then @Stmt.Try.elim (λx=>Bool) e h k else false
def UM{e:Stmt}{k:(List Stmt)->(List ExceptHandler)->(List Stmt)->(List Stmt)->Pos->Bool}(h:yS e k=true){P:Stmt->Prop}(H:∀a b c d e,k a b c d e=true->P (.Try a b c d e)):P e:=Xb h λf h=> @Stmt.Try.elim (λe=>∀f,@Stmt.Try.elim (λx=>Bool) e f k=true->P e) e f (λa b c d e x h=>H a b c d e h) f h
noncomputable def Pl(e:ExceptHandler)(k:(Option Expr)->(Option Str)->(List Stmt)->Pos->Bool):Bool:=match e with| .ExceptHandler a b c d=>k a b c d
def mr{e:ExceptHandler}{k:(Option Expr)->(Option Str)->(List Stmt)->Pos->Bool}(h:Pl e k=true){P:ExceptHandler->Prop}(H:∀a b c d,k a b c d=true->P (.ExceptHandler a b c d)):P e:=by cases e<;>first|exact H _ _ _ _ h|exact (Bool.false_ne_true h).elim
def CD(e:Const)(k:Int->Bool):Bool:=if h:e.ctorIdx=2 then @Const.int.elim (λx=>Bool) e h k else false
def zt{e:Const}{k:Int->Bool}(h:CD e k=true){P:Const->Prop}(H:∀a,k a=true->P (.int a)):P e:=Xb h λb h=> @Const.int.elim (λe=>∀b,@Const.int.elim (λx=>Bool) e b k=true->P e) e b (λa x h=>H a h) b h
def XR(e:BoolOp)(k:Bool):Bool:=if h:e.ctorIdx=0 then @BoolOp.And.elim (λx=>Bool) e h k else false
def wM{e:BoolOp}{k:Bool}(h:XR e k=true){P:BoolOp->Prop}(H:k=true->P .And):P e:=Xb h λa h=> @BoolOp.And.elim (λe=>∀a,@BoolOp.And.elim (λx=>Bool) e a k=true->P e) e a (λx h=>H h) a h
def JW(e:BoolOp)(k:Bool):Bool:=if h:e.ctorIdx=1 then @BoolOp.Or.elim (λx=>Bool) e h k else false
def EO{e:BoolOp}{k:Bool}(h:JW e k=true){P:BoolOp->Prop}(H:k=true->P .Or):P e:=Xb h λa h=> @BoolOp.Or.elim (λe=>∀a,@BoolOp.Or.elim (λx=>Bool) e a k=true->P e) e a (λx h=>H h) a h
def ZR(e:UnaryOp)(k:Bool):Bool:=if h:e.ctorIdx=1 then @UnaryOp.Not.elim (λx=>Bool) e h k else false
def xM{e:UnaryOp}{k:Bool}(h:ZR e k=true){P:UnaryOp->Prop}(H:k=true->P .Not):P e:=Xb h λa h=> @UnaryOp.Not.elim (λe=>∀a,@UnaryOp.Not.elim (λx=>Bool) e a k=true->P e) e a (λx h=>H h) a h
def tF(e:UnaryOp)(k:Bool):Bool:=if h:e.ctorIdx=3 then @UnaryOp.USub.elim (λx=>Bool) e h k else false
def vy{e:UnaryOp}{k:Bool}(h:tF e k=true){P:UnaryOp->Prop}(H:k=true->P .USub):P e:=Xb h λa h=> @UnaryOp.USub.elim (λe=>∀a,@UnaryOp.USub.elim (λx=>Bool) e a k=true->P e) e a (λx h=>H h) a h
def isEq(e:CmpOp)(k:Bool):Bool:=if h:e.ctorIdx=0 then @CmpOp.Eq.elim (λx=>Bool) e h k else false
def DO{e:CmpOp}{k:Bool}(h:isEq e k=true){P:CmpOp->Prop}(H:k=true->P .Eq):P e:=Xb h λa h=> @CmpOp.Eq.elim (λe=>∀a,@CmpOp.Eq.elim (λx=>Bool) e a k=true->P e) e a (λx h=>H h) a h
section
variable {α:Type}
noncomputable def md(l:List α)(k:Bool):Bool:=match l with| []=>k|x::a=>false
noncomputable def nj(l:List α)(k:α->List α->Bool):Bool:=match l with| []=>false|x::r=>k x r
def Od(l:List α)(k:α->Bool):Bool:=nj l λx r=>md r (k x)
def qG(l:List α)(k:α->α->Bool):Bool:=nj l λx r=>Od r (k x)
noncomputable def RM(l:Option α)(k:Bool):Bool:=match l with|none=>k|some x=>false
noncomputable def Gy(l:Option α)(k:α->Bool):Bool:=match l with|none=>false|some x=>k x
def Na{l:List α}{k:Bool}(h:md l k=true){P:List α->Prop}(H:k=true->P []):P l:=by induction l<;>first|exact H h|exact (Bool.false_ne_true h).elim
def Zc{l:List α}{k:α->List α->Bool}(h:nj l k=true){P:List α->Prop}(H:∀x r,k x r=true->P (x::r)):P l:=by induction l<;>first|exact H _ _ h|exact (Bool.false_ne_true h).elim
def Ta{l:List α}{k:α->Bool}(h:Od l k=true){P:List α->Prop}(H:∀x,k x=true->P [x]):P l:=Zc h λx a h=>Na h (P:=λr=>P (x::r)) λh=>H x h
def Dj{l:List α}{k:α->α->Bool}(h:qG l k=true){P:List α->Prop}(H:∀x y,k x y=true->P [x,y]):P l:=Zc h λx a h=>Ta h (P:=λr=>P (x::r)) λy h=>H x y h
def qv{l:Option α}{k:Bool}(h:RM l k=true){P:Option α->Prop}(H:k=true->P none):P l:=by induction l<;>first|exact H h|exact (Bool.false_ne_true h).elim
def jh{l:Option α}{k:α->Bool}(h:Gy l k=true){P:Option α->Prop}(H:∀x,k x=true->P (some x)):P l:=by induction l<;>first|exact H _ h|exact (Bool.false_ne_true h).elim
end
noncomputable def TX(c:Comprehension)(k:Expr->Expr->List Expr->Bool):Bool:=k c.target c.iter c.ifs&&c.is_async==0
def NP{c:Comprehension}{k:Expr->Expr->List Expr->Bool}(h:TX c k=true){P:Comprehension->Prop}(H:∀t z i,k t z i=true->P ⟨t,z,i,0⟩):P c:=by obtain ⟨b,d⟩:=and_eq_true_iff.mp h;have e:=beq_iff_eq.mp d;obtain ⟨t,z,i,a⟩:=c;subst e;exact H t z i b
structure Tab where
 xs:List Str
 names:List (Str×NameKind)
 glob:List Str
 fns:List Str
 cls:List Str
 ats:List Str
noncomputable def Dc(a b:Str):Bool:=a.cps.toList==b.cps.toList
def vb{a b:Str}:Dc a b=true->a=b:=λh=>by unfold Dc at h;have:=beq_iff_eq.mp h;cases a;cases b;simp only [Str.mk.injEq];exact Array.toList_inj.mp this
def at?(l:List Str)(i:Nat)(x:Str):Bool:=match l[i]? with|some y=>Dc y x|none=>false
def at?_iff{l:List Str}{i:Nat}{x:Str}(h:at? l i x=true):l[i]? =some x:=by
 unfold at? at h;set_option tactic.hygienic true in split at h
 ·rename_i y e;rw [e,vb h]
 ·exact Ec h
noncomputable def Kb(n:List (Str×NameKind))(x:Str)(k:NameKind):Bool:=match n.lookup x with|some k'=>k'==k|none=>false
def Vb{n:List (Str×NameKind)}{x:Str}{k:NameKind}(h:Kb n x k=true):n.lookup x=some k:=by
 unfold Kb at h;set_option tactic.hygienic true in split at h
 ·rename_i y e;rw [e,beq_iff_eq.mp h]
 ·exact Ec h
def isVar(T:Tab)(i:Nat)(x:Str):Bool:=at? T.xs i x&& !(x==("__debug__":Str))
def isLocal(T:Tab)(i:Nat)(x:Str):Bool:=at? T.xs i x&&Kb T.names x .local
def Zo(T:Tab)(l:List Str)(i:Nat)(x:Str):Bool:=at? l i x&&Kb T.names x .globalImplicit&& !(x==("__debug__":Str))
def Je(T:Tab)(n:Str)(x:Str):Bool:=Dc n x&&Kb T.names x .globalImplicit&& !(x==("__debug__":Str))
def rJ:FV->Const->Bool| .none,.none=>true| .bool a,.bool b=>a==b| .int a,.int b=>a==b| .str a,.str b=>Dc a b| .bytes a,.bytes b=>a==b.map UInt8.toNat|x,y=>false
def Tg(x:Expr):Bool:=beq x.ctorIdx 23||(beq x.ctorIdx 20||zc x λf a a a=>Ra f λn a=> !Dc n "super")
noncomputable def isPlain(x:Expr):Bool:= !beq x.ctorIdx 22
noncomputable def Jg(e:E):Bool:= !beq e.ctorIdx 33
noncomputable def og(x:Expr):Bool:= !beq x.ctorIdx 7
def Xr(a:List (Str×NameKind))(n:Str)(k:NameKind):NameKind:=br (k==NameKind.free&&a.lookup n==some NameKind.cell) .cell k
def Uk(a:List (Str×NameKind))(names:List (Str×NameKind)):List (Str×NameKind):=names.map λp=>(p.1,Xr a p.1 p.2)
noncomputable def Uc(T:Tab)(a:List Nat):List Str:=a.map λi=>(T.xs[i]?).getD empty
def Tab.comp(T:Tab)(sc:Scope)(n:Str)(a:List Nat):Tab:={T with xs:=Uc T a++ [n],names:=Uk T.names sc.names}
def sy(T:Tab)(sc:Scope)(n:Str)(a:List Nat):Bool:=sc.kind== .function&&Kb sc.names n .local&&
 (sc.names.all λ(x,k)=>k != .cell&&(k != .free||(Uc T a).contains x)&&(k != .local||Kb sc.names x .local))&&
 (a.all λi=>decide (i<T.xs.length)&&Kb sc.names ((T.xs[i]?).getD empty) .free&&Kb T.names ((T.xs[i]?).getD empty) .cell)&&
 decide (Uc T a++ [n]).Nodup
def sG(f:Expr->Bool)(e:E)(x:Option Expr):Bool:=match x with|none=>isNil e|some x=> !isNil e&&f x
noncomputable def Sg(x:Expr):Bool:= !beq x.ctorIdx 26
def a2{a b:Bool}{P:Prop}(h:(a&&b)=true)(k:a=true->b=true->P):P:=k (and_eq_true_iff.mp h).1 (and_eq_true_iff.mp h).2
def Th{b:Bool}(h:(!b)=true):b=false:=(not_eq_true' b).mp h
mutual
noncomputable def va(T:Tab):E->Expr->Bool| .cst c=>λx=>Dh x λk d e=>rJ c k| .var i=>λx=>Ra x λx d=>isVar T i x| .glob g=>λx=>Ra x λx d=>Zo T T.glob g x| .bin B a b=>λx=>CI x λl o r d=>B==o&&va T a l&&va T b r| .cmp B a b=>λx=>Ol x λl d e w3=>Od d λo=>Od e λr=>B==o&&va T a l&&va T b r&& !behindInMarks B r| .cmp2 p q a b c=>λx=>Ol x λl d e w3=>qG d λo V=>qG e λr O=>p==o&&q==V&&va T a l&&va T b r&&va T c O&& !behindInMarks q O| .and a b=>λx=>Dx x λo l p=>XR o<|nj l λx l=>nj l λy r=>va T a x&&(match r with| []=>va T b y|z::r=>va T b (.BoolOp .And (y::z::r) p))| .or a b=>λx=>Dx x λo l p=>JW o<|nj l λx l=>nj l λy r=>va T a x&&(match r with| []=>va T b y|z::r=>va T b (.BoolOp .Or (y::z::r) p))| .not a=>λx=>Rl x λd x e=>ZR d<|va T a x| .ite c a b=>λx=>EI x λt x y d=>va T c t&&va T a x&&va T b y| .neg n=>λx=>Rl x λd e w3=>tF d<|Dh e λj s A=>CD j λk=>k==(n:Int)| .idx a i=>λx=>Rf x λx y d=>va T a x&&va T i y&&Sg y| .idxv v i=>λx=>Rf x λd y e=>Ra d λx w3=>isVar T v x&&va T i y&&Sg y| .slc a M L=>λx=>Rf x λx d e=>eB d λl h w3 j=>RM w3<|va T a x&&sG (va T M) M l&&sG (va T L) L h| .rev a=>λx=>Rf x λx d e=>eB d λw3 j s A=>RM w3<|RM j<|Gy s λC=>Rl C λH P W=>tF H<|Dh P λG X w13=>CD G λk=>va T a x&&k==1| .tup es=>λx=>zg x λl d e=>qe T es l| .lst es=>λx=>zo x λl d=>qe T es l| .call f es=>λx=>zc x λd l e w3=>Ra d λx j=>md e<|Zo T T.fns f x&&qe T es l&&decide (l.length<=10)| .len a=>λx=>zc x λd e w3 j=>Ra d λx s=>Od e λy=>md w3<|Je T "len" x&&va T a y&&isPlain y| .lenv v=>λx=>zc x λd e w3 j=>Ra d λx s=>Od e λA=>Ra A λy C=>md w3<|Je T "len" x&&isVar T v y| .listf a=>λx=>zc x λd e w3 j=>Ra d λx s=>Od e λy=>md w3<|Je T "list" x&&va T a y&&isPlain y| .bytesf a=>λx=>zc x λd e w3 j=>Ra d λx s=>Od e λy=>md w3<|Je T "bytes" x&&va T a y&&isPlain y| .intf a=>λx=>zc x λd e w3 j=>Ra d λx s=>Od e λy=>md w3<|Je T "int" x&&va T a y&&isPlain y| .sumf a=>λx=>zc x λd e w3 j=>Ra d λx s=>Od e λy=>md w3<|Je T "sum" x&&va T a y&&isPlain y| .make c es=>λx=>zc x λd l e w3=>Ra d λx j=>md e<|Zo T T.cls c x&&qe T es l&&decide (l.length<=10)| .meth a m es=>λx=>zc x λd l e F=>uc d λx n ap=>md e<|at? T.ats m n&&va T a x&&qe T es l&&decide (l.length<=10)&&Tg x&&ap.endLine==F.line| .attr a m=>λx=>uc x λx n d=>at? T.ats m n&&va T a x&&Tg x| .pop v=>λx=>zc x λd e w3 F=>uc d λj n ap=>Ra j λx s=>md e<|md w3<|isVar T v x&&Dc n "pop"&&ap.endLine==F.line| .emptyq v=>λx=>Ol x λd e w3 j=>Ra d λx s=>Od e λA=>isEq A<|Od w3 λC=>zo C λH P=>md H<|isVar T v x| .comp D it w=>λx=>Jy x λy d sc e=>Od d λw3=>TX w3 λj z s=>Ra j λn A=>md s<|(um T it z||va T it z)&&og z&&Jg it&&sy T sc n w&&va (T.comp sc n w) D y| .nil| .cons .. | .rng _| .rng2 .. | .enm u=>λu=>false
noncomputable def qe(T:Tab):E->List Expr->Bool| .nil=>λx=>md x true| .cons a es=>λx=>nj x λx l=>va T a x&&isPlain x&&qe T es l|y=>λy=>false
noncomputable def um(T:Tab):E->Expr->Bool| .rng a=>λx=>zc x λd e w3 f=>Ra d λx g=>Od e λy=>md w3<|Je T "range" x&&va T a y&&isPlain y| .rng2 a b=>λx=>zc x λd e w3 f=>Ra d λx g=>qG e λy z=>md w3<|Je T "range" x&&va T a y&&isPlain y&&va T b z&&isPlain z| .enm a=>λx=>zc x λd e w3 f=>Ra d λx g=>Od e λy=>md w3<|Je T "enumerate" x&&va T a y&&isPlain y|c=>λc=>false
end
def Qab(T:Tab)(e:E)(x:Option Expr):Bool:=sG (va T e) e x
def Wh(T:Tab)(e:E)(x:Expr):Bool:=um T e x||va T e x
def hO{T:Tab}{a:E}{x:Expr}(h:Wh T (.rng a) x=true):um T (.rng a) x=true:=(Bool.or_false _).symm.trans h
def VL{T:Tab}{a b:E}{x:Expr}(h:Wh T (.rng2 a b) x=true):um T (.rng2 a b) x=true:=(Bool.or_false _).symm.trans h
def gO{T:Tab}{a:E}{x:Expr}(h:Wh T (.enm a) x=true):um T (.enm a) x=true:=(Bool.or_false _).symm.trans h
def UL{T:Tab}{e:E}(h:isJ e=false){x:Expr}:Wh T e x=va T e x:=by
 have:um T e x=false:=by induction e<;>first|rfl|exact (Bool.noConfusion h)
 unfold Wh;rw [this];rfl
def QE{T:Tab}{c}{x:Expr}(b:va T (.cst c) x=true){P:Expr->Prop}(H:∀k d e,rJ c k=true->P (.Constant k d e)):P x:=yg b (P:=(λa=>P a)) λk d e b=>H k d e b
def jF{T:Tab}{i}{x:Expr}(b:va T (.var i) x=true){P:Expr->Prop}(H:∀x c,isVar T i x=true->P (.Name x c)):P x:=ya b (P:=(λa=>P a)) λx c b=>H x c b
def Yz{T:Tab}{g}{x:Expr}(b:va T (.glob g) x=true){P:Expr->Prop}(H:∀x c,Zo T T.glob g x=true->P (.Name x c)):P x:=ya b (P:=(λa=>P a)) λx c b=>H x c b
def OE{T:Tab}{op a b}{x:Expr}(c:va T (.bin op a b) x=true){P:Expr->Prop}(H:∀l r e,va T a l=true->va T b r=true->P (.BinOp l op r e)):P x:=HH c (P:=(λd=>P d)) λl o r e c=>a2 c λc c3=>a2 c λc1 c2=>beq_iff_eq.mp c1▸H l r e c2 c3
def PE{T:Tab}{op a b}{x:Expr}(d:va T (.cmp op a b) x=true){P:Expr->Prop}(H:∀l r w3,va T a l=true->va T b r=true->behindInMarks op r=false->P (.Compare l [op] [r] w3)):P x:=fj d (P:=(λc=>P c)) λl f e w3 d=>Ta d (P:=(λc=>P (.Compare l c e w3))) λo d=>Ta d (P:=(λc=>P (.Compare l [o] c w3))) λr d=>a2 d λd c4=>a2 d λd c3=>a2 d λc1 c2=>beq_iff_eq.mp c1▸H l r w3 c2 c3 (Th c4)
def Wz{T:Tab}{p q a b c}{x:Expr}(e:va T (.cmp2 p q a b c) x=true){P:Expr->Prop}(H:∀l r f w3,va T a l=true->va T b r=true->va T c f=true->behindInMarks q f=false->P (.Compare l [p,q] [r,f] w3)):P x:=fj e (P:=(λd=>P d)) λl i h w3 e=>Dj e (P:=(λd=>P (.Compare l d h w3))) λo g e=>Dj e (P:=(λd=>P (.Compare l [o,g] d w3))) λr f e=>a2 e λe c6=>a2 e λe c5=>a2 e λe c4=>a2 e λe c3=>a2 e λc1 c2=>beq_iff_eq.mp c1▸beq_iff_eq.mp c2▸H l r f w3 c3 c4 c5 (Th c6)
def ME{T:Tab}{a b}{x:Expr}(c:va T (.and a b) x=true){P:Expr->Prop}(d:∀x y p,va T a x=true->va T b y=true->P (.BoolOp .And [x,y] p))(e:∀x y z r p,va T a x=true->va T b (.BoolOp .And (y::z::r) p)=true->P (.BoolOp .And (x::y::z::r) p)):P x:=xt c λo l p c=>wM c (P:=λo=>P (.BoolOp o l p)) λc=>Zc c (P:=λl=>P (.BoolOp .And l p)) λx l c=>Zc c (P:=λl=>P (.BoolOp .And (x::l) p)) λy r c=>a2 c λc1 c2=>by induction r with|nil=>exact d x y p c1 c2|cons z r=>exact e x y z r p c1 c2
def KJ{T:Tab}{a b}{x:Expr}(c:va T (.or a b) x=true){P:Expr->Prop}(d:∀x y p,va T a x=true->va T b y=true->P (.BoolOp .Or [x,y] p))(e:∀x y z r p,va T a x=true->va T b (.BoolOp .Or (y::z::r) p)=true->P (.BoolOp .Or (x::y::z::r) p)):P x:=xt c λo l p c=>EO c (P:=λo=>P (.BoolOp o l p)) λc=>Zc c (P:=λl=>P (.BoolOp .Or l p)) λx l c=>Zc c (P:=λl=>P (.BoolOp .Or (x::l) p)) λy r c=>a2 c λc1 c2=>by induction r with|nil=>exact d x y p c1 c2|cons z r=>exact e x y z r p c1 c2
def YE{T:Tab}{a}{x:Expr}(c:va T (.not a) x=true){P:Expr->Prop}(H:∀x d,va T a x=true->P (.UnaryOp .Not x d)):P x:=gj c (P:=(λb=>P b)) λe x d c=>xM c (P:=(λb=>P (.UnaryOp b x d))) λc=>H x d c
def SE{T:Tab}{c a b}{x:Expr}(d:va T (.ite c a b) x=true){P:Expr->Prop}(H:∀t x y f,va T c t=true->va T a x=true->va T b y=true->P (.IfExp t x y f)):P x:=JH d (P:=(λe=>P e)) λt x y f d=>a2 d λd c3=>a2 d λc1 c2=>H t x y f c1 c2 c3
def XE{T:Tab}{n}{x:Expr}(b:va T (.neg n) x=true){P:Expr->Prop}(H:∀c d w3,P (.UnaryOp .USub (.Constant (.int (n:Int)) c d) w3)):P x:=gj b (P:=(λa=>P a)) λf e w3 b=>vy b (P:=(λa=>P (.UnaryOp a e w3))) λb=>yg b (P:=(λa=>P (.UnaryOp .USub a w3))) λg c d b=>zt b (P:=(λa=>P (.UnaryOp .USub (.Constant a c d) w3))) λk b=>(beq_iff_eq.mp b).symm▸H c d w3
def RE{T:Tab}{a i}{x:Expr}(b:va T (.idx a i) x=true){P:Expr->Prop}(H:∀x y d,va T a x=true->va T i y=true->Sg y=true->P (.Subscript x y d)):P x:=Be b (P:=(λc=>P c)) λx y d b=>a2 b λb c3=>a2 b λc1 c2=>H x y d c1 c2 c3
def Zz{T:Tab}{v i}{x:Expr}(b:va T (.idxv v i) x=true){P:Expr->Prop}(H:∀x w3 y c,isVar T v x=true->va T i y=true->Sg y=true->P (.Subscript (.Name x w3) y c)):P x:=Be b (P:=(λa=>P a)) λd y c b=>ya b (P:=(λa=>P (.Subscript a y c))) λx w3 b=>a2 b λb c3=>a2 b λc1 c2=>H x w3 y c c1 c2 c3
def dF{T:Tab}{a lo hi}{x:Expr}(c:va T (.slc a lo hi) x=true){P:Expr->Prop}(H:∀x l h e d,va T a x=true->sG (va T lo) lo l=true->sG (va T hi) hi h=true->P (.Subscript x (.Slice l h none e) d)):P x:=Be c (P:=(λb=>P b)) λx f d c=>bw c (P:=(λb=>P (.Subscript x b d))) λl h w3 e c=>qv c (P:=(λb=>P (.Subscript x (.Slice l h b e) d))) λc=>a2 c λc c3=>a2 c λc1 c2=>H x l h e d c1 c2 c3
def qy{T:Tab}{a}{x:Expr}(c:va T (.rev a) x=true){P:Expr->Prop}(H:∀x g h d f e,va T a x=true->P (.Subscript x (.Slice none none (some (.UnaryOp .USub (.Constant (.int 1) g h) d)) f) e)):P x:=Be c (P:=(λb=>P b)) λx n e c=>bw c (P:=(λb=>P (.Subscript x b e))) λw3 l i f c=>qv c (P:=(λb=>P (.Subscript x (.Slice b l i f) e))) λc=>qv c (P:=(λb=>P (.Subscript x (.Slice none b i f) e))) λc=>jh c (P:=(λb=>P (.Subscript x (.Slice none none b f) e))) λo c=>gj c (P:=(λb=>P (.Subscript x (.Slice none none (some b) f) e))) λp m d c=>vy c (P:=(λb=>P (.Subscript x (.Slice none none (some (.UnaryOp b m d)) f) e))) λc=>yg c (P:=(λb=>P (.Subscript x (.Slice none none (some (.UnaryOp .USub b d)) f) e))) λj g h c=>zt c (P:=(λb=>P (.Subscript x (.Slice none none (some (.UnaryOp .USub (.Constant b g h) d)) f) e))) λk c=>a2 c λc1 c2=>(beq_iff_eq.mp c2).symm▸H x g h d f e c1
def fF{T:Tab}{es}{x:Expr}(b:va T (.tup es) x=true){P:Expr->Prop}(H:∀l c d,qe T es l=true->P (.Tuple l c d)):P x:=Le b (P:=(λa=>P a)) λl c d b=>H l c d b
def WE{T:Tab}{es}{x:Expr}(b:va T (.lst es) x=true){P:Expr->Prop}(H:∀l c,qe T es l=true->P (.List l c)):P x:=Fh b (P:=(λa=>P a)) λl c b=>H l c b
def Vz{T:Tab}{f es}{x:Expr}(b:va T (.call f es) x=true){P:Expr->Prop}(H:∀x c l w3,Zo T T.fns f x=true->qe T es l=true->(l.length<=10)->P (.Call (.Name x c) l [] w3)):P x:=Wa b (P:=(λa=>P a)) λe l d w3 b=>ya b (P:=(λa=>P (.Call a l d w3))) λx c b=>Na b (P:=(λa=>P (.Call (.Name x c) l a w3))) λb=>a2 b λb c3=>a2 b λc1 c2=>H x c l w3 c1 c2 (of_decide_eq_true c3)
def VE{T:Tab}{a}{x:Expr}(c:va T (.len a) x=true){P:Expr->Prop}(H:∀x e y d,Je T "len" x=true->va T a y=true->isPlain y=true->P (.Call (.Name x e) [y] [] d)):P x:=Wa c (P:=(λb=>P b)) λg f w3 d c=>ya c (P:=(λb=>P (.Call b f w3 d))) λx e c=>Ta c (P:=(λb=>P (.Call (.Name x e) b w3 d))) λy c=>Na c (P:=(λb=>P (.Call (.Name x e) [y] b d))) λc=>a2 c λc c3=>a2 c λc1 c2=>H x e y d c1 c2 c3
def bA{T:Tab}{v}{x:Expr}(b:va T (.lenv v) x=true){P:Expr->Prop}(H:∀x d y e c,Je T "len" x=true->isVar T v y=true->P (.Call (.Name x d) [(.Name y e)] [] c)):P x:=Wa b (P:=(λa=>P a)) λg f w3 c b=>ya b (P:=(λa=>P (.Call a f w3 c))) λx d b=>Ta b (P:=(λa=>P (.Call (.Name x d) a w3 c))) λh b=>ya b (P:=(λa=>P (.Call (.Name x d) [a] w3 c))) λy e b=>Na b (P:=(λa=>P (.Call (.Name x d) [(.Name y e)] a c))) λb=>a2 b λc1 c2=>H x d y e c c1 c2
def Hw{T:Tab}{a}{x:Expr}(c:va T (.listf a) x=true){P:Expr->Prop}(H:∀x e y d,Je T "list" x=true->va T a y=true->isPlain y=true->P (.Call (.Name x e) [y] [] d)):P x:=Wa c (P:=(λb=>P b)) λg f w3 d c=>ya c (P:=(λb=>P (.Call b f w3 d))) λx e c=>Ta c (P:=(λb=>P (.Call (.Name x e) b w3 d))) λy c=>Na c (P:=(λb=>P (.Call (.Name x e) [y] b d))) λc=>a2 c λc c3=>a2 c λc1 c2=>H x e y d c1 c2 c3
def Sr{T:Tab}{a}{x:Expr}(c:va T (.bytesf a) x=true){P:Expr->Prop}(H:∀x e y d,Je T "bytes" x=true->va T a y=true->isPlain y=true->P (.Call (.Name x e) [y] [] d)):P x:=Wa c (P:=(λb=>P b)) λg f w3 d c=>ya c (P:=(λb=>P (.Call b f w3 d))) λx e c=>Ta c (P:=(λb=>P (.Call (.Name x e) b w3 d))) λy c=>Na c (P:=(λb=>P (.Call (.Name x e) [y] b d))) λc=>a2 c λc c3=>a2 c λc1 c2=>H x e y d c1 c2 c3
def aA{T:Tab}{a}{x:Expr}(c:va T (.intf a) x=true){P:Expr->Prop}(H:∀x e y d,Je T "int" x=true->va T a y=true->isPlain y=true->P (.Call (.Name x e) [y] [] d)):P x:=Wa c (P:=(λb=>P b)) λg f w3 d c=>ya c (P:=(λb=>P (.Call b f w3 d))) λx e c=>Ta c (P:=(λb=>P (.Call (.Name x e) b w3 d))) λy c=>Na c (P:=(λb=>P (.Call (.Name x e) [y] b d))) λc=>a2 c λc c3=>a2 c λc1 c2=>H x e y d c1 c2 c3
def iA{T:Tab}{a}{x:Expr}(c:va T (.sumf a) x=true){P:Expr->Prop}(H:∀x e y d,Je T "sum" x=true->va T a y=true->isPlain y=true->P (.Call (.Name x e) [y] [] d)):P x:=Wa c (P:=(λb=>P b)) λg f w3 d c=>ya c (P:=(λb=>P (.Call b f w3 d))) λx e c=>Ta c (P:=(λb=>P (.Call (.Name x e) b w3 d))) λy c=>Na c (P:=(λb=>P (.Call (.Name x e) [y] b d))) λc=>a2 c λc c3=>a2 c λc1 c2=>H x e y d c1 c2 c3
def eA{T:Tab}{c es}{x:Expr}(b:va T (.make c es) x=true){P:Expr->Prop}(H:∀x d l w3,Zo T T.cls c x=true->qe T es l=true->(l.length<=10)->P (.Call (.Name x d) l [] w3)):P x:=Wa b (P:=(λa=>P a)) λf l e w3 b=>ya b (P:=(λa=>P (.Call a l e w3))) λx d b=>Na b (P:=(λa=>P (.Call (.Name x d) l a w3))) λb=>a2 b λb c3=>a2 b λc1 c2=>H x d l w3 c1 c2 (of_decide_eq_true c3)
def gA{T:Tab}{a m es}{x:Expr}(c:va T (.meth a m es) x=true){P:Expr->Prop}(H:∀x n ap l d,at? T.ats m n=true->va T a x=true->qe T es l=true->(l.length<=10)->Tg x=true->(ap.endLine==d.line)=true->P (.Call (.Attribute x n ap) l [] d)):P x:=Wa c (P:=(λb=>P b)) λf l e d c=>xb c (P:=(λb=>P (.Call b l e d))) λx n ap c=>Na c (P:=(λb=>P (.Call (.Attribute x n ap) l b d))) λc=>a2 c λc c6=>a2 c λc c5=>a2 c λc c4=>a2 c λc c3=>a2 c λc1 c2=>H x n ap l d c1 c2 c3 (of_decide_eq_true c4) c5 c6
def Uz{T:Tab}{a m}{x:Expr}(b:va T (.attr a m) x=true){P:Expr->Prop}(H:∀x n d,at? T.ats m n=true->va T a x=true->Tg x=true->P (.Attribute x n d)):P x:=xb b (P:=(λc=>P c)) λx n d b=>a2 b λb c3=>a2 b λc1 c2=>H x n d c1 c2 c3
def ZE{T:Tab}{v}{x:Expr}(b:va T (.pop v) x=true){P:Expr->Prop}(H:∀x d ap c,isVar T v x=true->(ap.endLine==c.line)=true->P (.Call (.Attribute (.Name x d) "pop" ap) [] [] c)):P x:=Wa b (P:=(λa=>P a)) λf e w3 c b=>xb b (P:=(λa=>P (.Call a e w3 c))) λg n ap b=>ya b (P:=(λa=>P (.Call (.Attribute a n ap) e w3 c))) λx d b=>Na b (P:=(λa=>P (.Call (.Attribute (.Name x d) n ap) a w3 c))) λb=>Na b (P:=(λa=>P (.Call (.Attribute (.Name x d) n ap) [] a c))) λb=>a2 b λb c3=>a2 b λc1 c2=>(vb c2).symm▸H x d ap c c1 c3
def Ur{T:Tab}{v}{x:Expr}(b:va T (.emptyq v) x=true){P:Expr->Prop}(H:∀x d e c,isVar T v x=true->P (.Compare (.Name x d) [.Eq] [(.List [] e)] c)):P x:=fj b (P:=(λa=>P a)) λg f w3 c b=>ya b (P:=(λa=>P (.Compare a f w3 c))) λx d b=>Ta b (P:=(λa=>P (.Compare (.Name x d) a w3 c))) λh b=>DO b (P:=(λa=>P (.Compare (.Name x d) [a] w3 c))) λb=>Ta b (P:=(λa=>P (.Compare (.Name x d) [.Eq] a c))) λi b=>Fh b (P:=(λa=>P (.Compare (.Name x d) [.Eq] [a] c))) λj e b=>Na b (P:=(λa=>P (.Compare (.Name x d) [.Eq] [(.List a e)] c))) λb=>H x d e c b
def Xz{T:Tab}{e it c}{x:Expr}(b:va T (.comp e it c) x=true){P:Expr->Prop}(H:∀y n f z sc d,(um T it z||va T it z)=true->og z=true->Jg it=true->sy T sc n c=true->va (T.comp sc n c) e y=true->P (.ListComp y [⟨(.Name n f),z,[],0⟩] sc d)):P x:=cB b (P:=(λa=>P a)) λy h sc d b=>Ta b (P:=(λa=>P (.ListComp y a sc d))) λw3 b=>NP b (P:=(λa=>P (.ListComp y [a] sc d))) λi z g b=>ya b (P:=(λa=>P (.ListComp y [⟨a,z,g,0⟩] sc d))) λn f b=>Na b (P:=(λa=>P (.ListComp y [⟨(.Name n f),z,a,0⟩] sc d))) λb=>a2 b λb c5=>a2 b λb c4=>a2 b λb c3=>a2 b λc1 c2=>H y n f z sc d c1 c2 c3 c4 c5
def vM{T:Tab}{x:List Expr}(b:qe T .nil x=true){P:List Expr->Prop}(H:P []):P x:=Na b λa=>H
def qI{T:Tab}{a es}{x:List Expr}(b:qe T (.cons a es) x=true){P:List Expr->Prop}(H:∀x l,va T a x=true->isPlain x=true->qe T es l=true->P (x::l)):P x:=Zc b λx l b=>a2 b λb c3=>a2 b λc1 c2=>H x l c1 c2 c3
def GW{T:Tab}{a}{x:Expr}(c:um T (.rng a) x=true){P:Expr->Prop}(H:∀x e y d,Je T "range" x=true->va T a y=true->isPlain y=true->P (.Call (.Name x e) [y] [] d)):P x:=Wa c (P:=(λb=>P b)) λg f w3 d c=>ya c (P:=(λb=>P (.Call b f w3 d))) λx e c=>Ta c (P:=(λb=>P (.Call (.Name x e) b w3 d))) λy c=>Na c (P:=(λb=>P (.Call (.Name x e) [y] b d))) λc=>a2 c λc c3=>a2 c λc1 c2=>H x e y d c1 c2 c3
def JT{T:Tab}{a b}{x:Expr}(d:um T (.rng2 a b) x=true){P:Expr->Prop}(H:∀x f y z e,Je T "range" x=true->va T a y=true->isPlain y=true->va T b z=true->isPlain z=true->P (.Call (.Name x f) [y,z] [] e)):P x:=Wa d (P:=(λc=>P c)) λh g w3 e d=>ya d (P:=(λc=>P (.Call c g w3 e))) λx f d=>Dj d (P:=(λc=>P (.Call (.Name x f) c w3 e))) λy z d=>Na d (P:=(λc=>P (.Call (.Name x f) [y,z] c e))) λd=>a2 d λd c5=>a2 d λd c4=>a2 d λd c3=>a2 d λc1 c2=>H x f y z e c1 c2 c3 c4 c5
def FW{T:Tab}{a}{x:Expr}(c:um T (.enm a) x=true){P:Expr->Prop}(H:∀x e y d,Je T "enumerate" x=true->va T a y=true->isPlain y=true->P (.Call (.Name x e) [y] [] d)):P x:=Wa c (P:=(λb=>P b)) λg f w3 d c=>ya c (P:=(λb=>P (.Call b f w3 d))) λx e c=>Ta c (P:=(λb=>P (.Call (.Name x e) b w3 d))) λy c=>Na c (P:=(λb=>P (.Call (.Name x e) [y] b d))) λc=>a2 c λc c3=>a2 c λc1 c2=>H x e y d c1 c2 c3
structure Fr where
 A:Around
 l:List Env
 env:Env
structure qr(A:Around)(l:List Env)(k:Nat):Prop where
 handled:A.handled=none
 frames:A.frames=some l
 depth:A.depth+3*k+30<=recursionLimit
 units:A.units+40*k+400<=cLine
def qr.down(h:qr A l (k+1)):qr A l k:=⟨h.handled,h.frames,Nat.le_trans (Nat.add_le_add_right (Nat.add_le_add_left (mul_le_mul_left 3 (le_succ k)) _) _) h.depth,Nat.le_trans (Nat.add_le_add_right (Nat.add_le_add_left (mul_le_mul_left 40 (le_succ k)) _) _) h.units⟩
def qr.u64(h:qr A l k):A.units+64<cLine:=Nat.lt_of_lt_of_le (Nat.add_lt_add_of_le_of_lt (le_add_right _ _) (by decide)) h.units
structure wc(env:Env)(T:Tab):Prop where
 names:env.scope.names=T.names
 kind:env.scope.kind= .function
 globals:env.globals=mainGlobals
 builtins:env.builtins=builtinsNs
section
variable {env:Env} {T:Tab} (hE:wc env T)
include hE
theorem wc.of(h:T.names.lookup x=some kd):env.kindOf x=some kd:=(congrArg (·.lookup x) hE.names).trans h
theorem wc.inter:interactive env=false:=by unfold interactive;rw [hE.kind];rfl
theorem wc.pk:(env.scope.kind== .class||(env.scope.kind== .module&&env.locals !=env.globals))=false:=by rw [hE.kind];rfl
end
structure FOK(T:Tab)(k:Nat)(F:Fr):Prop where
 a:qr F.A F.l (k+1)
 e:wc F.env T
structure Uv(T:Tab)(k:Nat)(F:Fr):Prop extends FOK T k F where
 cons:∃outer,F.l=F.env::outer
 fr:F.env.frame=some F.env.locals
inductive Kk(env:Env)(w:Wd)(m:Str->Option Value)(x:Str)(v:Value):Prop|loc:env.kindOf x=some .local->m x=some v->Kk env w m x v|cell:∀c o,env.kindOf x=some .cell->env.cells.lookup x=some c->w.h.get? c=some o->o.data= .cell (some v)->Off w c->Kk env w m x v
inductive qi(env:Env)(w:Wd)(x:Str):Prop
 |mk:∀c o v,env.cells.lookup x=some c->w.h.get? c=some o->o.data= .cell v->Off w c->qi env w x
noncomputable abbrev Vg(a:Array Value)(n:Nat)(b:Array (Option Value)):Obj:=⟨.type "list",none,.seq a n,b⟩
inductive rh(w:Wd)(l:List FV)(b:Addr):Prop
 |mk:∀its n sx,w.h.get? b=some (Vg its n sx)->Jb w.G l its.toList->l.length=its.size->Off w b->rh w l b
inductive Br(env:Env)(w:Wd)(m:Str->Option Value)(x:Str)(a:AV):Prop
 |mk:∀v,Kk env w m x v->Sa w a v->Br env w m x a
noncomputable def qf(env:Env)(w:Wd)(m:Str->Option Value)(b:Addr)(x:Str):Slot->Prop| .u=>True| .a a=>Br env w m x a| .own l=>env.kindOf x=some .local/\m x=some (.ref b)/\rh w l b
def ND(env:Env)(xs:List Str)(w:Wd)(sl:List Slot)(a:Nat->Addr)(m:Str->Option Value):Prop:=∀i x z,xs[i]? =some x->sl[i]? =some z->qf env w m (a i) x z
inductive JL(env:Env)(xs:List Str)(w:Wd)(sl:List Slot)(ow:Nat->Addr):Prop
 |mk:∀m,w.h.Ns env.locals m->ND env xs w sl ow m->JL env xs w sl ow
structure Ab(env:Env)(xs:List Str)(w:Wd)(sl:List Slot)(ow:Nat->Addr):Prop where
 nd:xs.Nodup
 len:sl.length=xs.length
 oL:Off w env.locals
 nm:JL env xs w sl ow
 od:∀(i j:Nat) (l l':List FV),i≠j->sl[i]? =some (Slot.own l)->sl[j]? =some (Slot.own l')->(ow i:Addr)≠ow j
 cl:∀x,x∈xs->env.kindOf x=some .cell->qi env w x
 ci:∀x y c,x∈xs->y∈xs->env.kindOf x=some .cell->env.kindOf y=some .cell->env.cells.lookup x=some c->env.cells.lookup y=some c->x=y
noncomputable def rV(env:Env)(a:Addr)(o:Obj):Prop:=(a=env.locals/\∃es n,o.data= .dict es n)\/(∃v,o.data= .cell v)\/∃b n,o.data= .seq b n
section
variable {env:Env} {xs:List Str} {w w':Wd} {sl:List Slot} {ow:Nat->Addr} {m:Str->Option Value}
def VR(L:Ab env xs w sl ow){i:Nat}{z:Slot}(e:sl[i]? =some z){P:Prop}(k:∀x,xs[i]? =some x->P):P:=k _ (getElem?_eq_getElem (L.len▸(List.getElem?_eq_some_iff.mp e).1))
def Ab.own(L:Ab env xs w sl ow){i:Nat}{l:List FV}(e:sl[i]? =some (Slot.own l)):rh w l (ow i):=L.nm.rec λm a h=>VR L e λx b=>(h i x _ b e).2.2
abbrev Lk(env:Env)(w w':Wd)(P:Addr->Prop):Prop:=∀a o,w.h.get? a=some o->Off w a->rV env a o->¬P a->(∃b,w'.h.get? a=some {o with slots:=b})/\Off w' a
def Kk.move(l:Up w w')(k:Lk env w w' P)(np:∀c o v,env.kindOf x=some .cell->env.cells.lookup x=some c->w.h.get? c=some o->o.data= .cell v->¬P c)(i:m x=some v->m' x=some v)(B:Kk env w m x v):Kk env w' m' x v:=B.rec (λa b=> .loc a (i b)) λc o a b f d g=>(k c o f g (.inr (.inl ⟨_,d⟩)) (np c o _ a b f d)).elim λe h=>e.elim λj e=> .cell c _ a b e d h
def qi.move(k:Lk env w w' P)(np:∀c o v,env.cells.lookup x=some c->w.h.get? c=some o->o.data= .cell v->¬P c)(B:qi env w x):qi env w' x:=B.rec λc o v b d a f=>(k c o d f (.inr (.inl ⟨_,a⟩)) (np c o _ b d a)).elim λe h=>e.elim λg e=>⟨c,_,v,b,e,a,h⟩
def rh.move(d:Up w w')(k:Lk env w w' P)(np:¬P b)(B:rh w l b):rh w' l b:=B.rec λa n c e r z o=>(k b _ e o (.inr (.inr ⟨a,n,rfl⟩)) np).elim λe h=>e.elim λc e=>⟨a,n,c,e,r.mono d.1,z,h⟩
def qf.move(d:Up w w')(k:Lk env w w' P)(np:∀c o v,env.kindOf x=some .cell->env.cells.lookup x=some c->w.h.get? c=some o->o.data= .cell v->¬P c)(nb:∀l,z= .own l->¬P b)(e:∀v,m x=some v->m' x=some v)(B:qf env w m b x z):qf env w' m' b x z:=by induction z with|u=>trivial|a a=>exact B.rec λv b r=>⟨v,b.move d k np (e v),r.up d⟩|own l=>exact ⟨B.1,e _ B.2.1,B.2.2.move d k (nb l rfl)⟩
def Ab.move(L:Ab env xs w sl ow)(j:Up w w')(k:Lk env w w' λa=>False):Ab env xs w' sl ow:=L.nm.rec λm f h=>f.elim λo z=>z.elim λes z=>z.elim λc z=>(k _ o z.1 L.oL (.inl ⟨rfl,es,c,z.2.1⟩) id).elim λe oL=>e.elim λl e=>⟨L.nd,L.len,oL,⟨m,⟨_,es,c,e,z.2⟩,λi x z b g=>(h i x z b g).move j k (λa a a a a a a=>id) (λa a=>id) λa=>id⟩,L.od,λx b d=>(L.cl x b d).move k λa a a a a a=>id,L.ci⟩
def Step.off(S:Step w w')(e:w.h.get? a=some o)(h:Off w a):Off w' a:=⟨S.gn e h.1,S.nm h.2 e⟩
def Ab.step(L:Ab env xs w sl ow)(S:Step w w'):Ab env xs w' sl ow:=L.move S.up λa o e h x x=>⟨S.keep h.2 e,S.off e h⟩
def Ab.scratch(L:Ab env xs w sl ow){ch:Addr->Prop}{h':Heap}{tk:Nat}(nm:∀b o,ch b->w.h.get? b=some o->¬rV env b o)(kp:∀b o,¬ch b->w.h.get? b=some o->h'.get? b=some o):Ab env xs (w.at h' tk) sl ow:=L.move .at λa o e h M x=>⟨⟨o.slots,kp a o (λc=>nm a o c e M) e⟩,h⟩
def OM(d:o.data= .fields vs):¬rV env b o:=λh=>h.elim (λh=>h.2.elim λx h=>h.elim λx h=>nomatch d.symm.trans h) λh=>h.elim (λh=>h.elim λx h=>nomatch d.symm.trans h) λh=>h.elim λx h=>h.elim λx h=>nomatch d.symm.trans h
end
structure J(X:Ctx)(F:Fr)(T:Tab)(w:Wd)(sl:List Slot)(ow:Nat->Addr)(st:ia):Prop where
 g:Ea X F.l w st
 l:Ab F.env T.xs w sl ow
def J.step{F:Fr}{T:Tab}{st st':ia}(x:J X F T w sl a st)(S:Step w w')(I:Ea X F.l w' st'):J X F T w' sl a st':=⟨I,x.l.step S⟩
inductive MarkV(f:Option Addr):Value->Prop|no:MarkV f .none|at:∀L,f=some L->MarkV f (rawInt L)
inductive Gq(hb:Heap)(w:Wd)(f:Option Addr)(e:Addr):Value->Prop|no:Gq hb w f e .none
 |mk:∀T oT ts x,T≠e->w.h.get? T=some oT->oT.data= .fields ts->ts[3]? =some x->MarkV f x->hb.get? T=none->Off w T->Gq hb w f e (.ref T)
inductive mz(X:Ctx)(hb:Heap)(w:Wd)(l:List Env)(t:FV)(e d:Addr):Prop
 |mk:∀n tok v,w.h.get? d=some (gv #[⟨keyHash X.w.params "told",.str "told" tok,v⟩] n)->wa w.G t v->hb.get? e=none->Off w e->Off w d->Apart l d->hb.get? d=none->mz X hb w l t e d
inductive Exc(X:Ctx)(hb:Heap)(w:Wd)(l:List Env)(f:Option Addr)(t:FV)(e:Addr):Prop
 |mk:∀sl d vs u,w.h.get? e=some ⟨.ref X.BE,some d,.fields vs,sl⟩->mz X hb w l t e d->vs[1]? =some u->Gq hb w f e u->Exc X hb w l f t e
def Gq.older(k:∀b,hb.get? b=none->hb'.get? b=none)(x:Gq hb w f e v):Gq hb' w f e v:=Gq.rec (motive:=λv a=>Gq hb' w f e v) .no (λT j l x a2 c d g h i=> .mk T j l x a2 c d g h (k T i)) x
def Exc.older(k:∀b,hb.get? b=none->hb'.get? b=none)(x:Exc X hb w l f t e):Exc X hb' w l f t e:=x.rec λsl d vs u c a2 g h=> .mk sl d vs u c (a2.rec λn a v i j m o p q r=> .mk n a v i j (k e m) o p q (k d r)) g (h.older k)
section
variable {α β γ δ:Type}
def Xd(X:Ctx)(R:Wd->α->β->Prop)(F:Fr)(w:Wd)(a:α)(st:ia)(Q:β->Shared->Prop):Prop:=∀w' v,Step w w'->Ea X F.l w' st->R w' a v->Q v w'.s
def Err(X:Ctx)(F:Fr)(w:Wd)(t:FV)(st:ia)(E:Value->Shared->Prop):Prop:=∀w' e,Step w w'->Ea X F.l w' st->Exc X w.h w' F.l none t e->E (.ref e) w'.s
def Yu(X:Ctx)(F:Fr)(w:Wd)(Z:α->ia->Prop)(m:Res α)(E:Value->Shared->Prop):Prop:=match m with|some (.ok a,st)=>Z a st|some (.error t,st)=>Err X F w t st E|none=>False
def Oa(X:Ctx)(R:Wd->α->β->Prop)(F:Fr)(w:Wd)(m:Res α)(Q:β->Shared->Prop)(E:Value->Shared->Prop):Prop:=Yu X F w (λa st=>Xd X R F w a st Q) m E
def ub(X:Ctx)(R:Wd->α->β->Prop)(F:Fr)(w:Wd)(m:Res α)(t:Sem β):Prop:=∀Q E,Oa X R F w m Q E->wpAny X.M F.A t Q E w.s
noncomputable abbrev RB:Wd->Bool->Bool->Prop:=λx a b=>a=b
section
variable {X:Ctx} {R:Wd->α->β->Prop} {R':Wd->γ->δ->Prop} {F:Fr} {T:Tab} {w w':Wd} {sl:List Slot} {ow:Nat->Addr} {st st':ia} {Q:β->Shared->Prop} {Q':δ->Shared->Prop} {E:Value->Shared->Prop} {m:Res α} {t:Sem β}
def Oa.step(c:Oa X R F w m Q E)(S:Step w w'):Oa X R F w' m Q E:=by induction m with|none=>exact c|some p=>induction p with|mk r st=>induction r with|ok a=>exactλf v d b x=>c f v (S.trans d) b x|error t=>exactλf e d b x=>c f e (S.trans d) b (x.older S.dead)
def ub.bnd(D:ub X R F w m t)(c:Oa X R' F w (bnd m k) Q' E)(go:∀a b w₁ v,Step w w₁->Ea X F.l w₁ b->R w₁ a v->Oa X R' F w₁ (k a b) Q' E->Q v w₁.s):wpAny X.M F.A t Q E w.s:=by refine D Q E ?_;induction m with|none=>exact c|some p=>induction p with|mk r st=>induction r with|ok a=>exactλw₁ v S I x=>go a st w₁ v S I x (Oa.step (m:=k a st) c S)|error t=>exact c
def ub.bndZ(D:ub X R F w m t)(c:Yu X F w Z (Mine.bnd m k) E)(go:∀a b w₁ v,Step w w₁->Ea X F.l w₁ b->R w₁ a v->Yu X F w Z (k a b) E->Q v w₁.s):wpAny X.M F.A t Q E w.s:=by refine D Q E ?_;induction m with|none=>exact c|some p=>induction p with|mk r st=>induction r with|ok a=>exactλw₁ v S I x=>go a st w₁ v S I x c|error t=>exact c
def ub.go(D:ub X R F w m t)(L:Ab F.env T.xs w sl ow)(c:Oa X R' F w (Mine.bnd m k) Q' E)(go:∀a b w₁ v,Step w w₁->J X F T w₁ sl ow b->R w₁ a v->Oa X R' F w₁ (k a b) Q' E->Q v w₁.s):wpAny X.M F.A t Q E w.s:=D.bnd c λa b w₁ v S I=>go a b w₁ v S ⟨I,L.step S⟩
end
section
variable {X:Ctx} {R':Wd->γ->δ->Prop} {F:Fr} {T:Tab} {w:Wd} {sl:List Slot} {ow:Nat->Addr} {st:ia} {Q:Value->Shared->Prop} {Q':δ->Shared->Prop} {E:Value->Shared->Prop} {m:Res AV} {t:Sem Value}
def ub.onV(D:ub X Sa F w m t)(L:Ab F.env T.xs w sl ow)(c:Oa X R' F w (Mine.onV m k) Q' E)(go:∀f b w₁ v,Step w w₁->J X F T w₁ sl ow b->wa w₁.G f v->Oa X R' F w₁ (k f b) Q' E->Q v w₁.s):wpAny X.M F.A t Q E w.s:=D.go L c λa b w₁ v S I x d=>by induction a with|v f=>exact go f b w₁ v S I x d|o i=>exact d.elim
def ub.onI(D:ub X Sa F w m t)(L:Ab F.env T.xs w sl ow)(c:Oa X R' F w (Mine.onI m k) Q' E)(go:∀i e b w₁,Step w w₁->J X F T w₁ sl ow b->Oa X R' F w₁ (k i b) Q' E->Q (.int i e) w₁.s):wpAny X.M F.A t Q E w.s:=D.go L c λa b w₁ v S I x d=>by induction a with|o i=>exact d.elim|v f=>cases f with|int i=>exact wa.atI (P:=λv=>Q v w₁.s) x λe=>go i e b w₁ S I d| _=>exact d.elim
def ub.onB(D:ub X Sa F w m t)(L:Ab F.env T.xs w sl ow)(c:Oa X R' F w (Mine.onB m k) Q' E)(go:∀b d w₁,Step w w₁->J X F T w₁ sl ow d->Oa X R' F w₁ (k b d) Q' E->Q (.bool b) w₁.s):wpAny X.M F.A t Q E w.s:=D.go L c λa d w₁ v S I x e=>by induction a with|o i=>exact e.elim|v f=>cases f with|bool b=>exact wa.atB (P:=λv=>Q v w₁.s) x (go b d w₁ S I e)| _=>exact e.elim
def Oa.retV{m:Option FV}{P:Prop}(c:Oa X Sa F w (Mine.retV m st) Q E)(k:∀f,m=some f->Xd X Sa F w (.v f) st Q->P):P:=by induction m with|some f=>exact k f rfl c|none=>exact c.elim
def Oa.retB{m:Option Bool}{P:Prop}(c:Oa X Sa F w (Mine.retB m st) Q E)(k:∀b,m=some b->Xd X Sa F w (.v (.bool b)) st Q->P):P:=by induction m with|some f=>exact k f rfl c|none=>exact c.elim
def Oa.lift{m:Option γ}{P:Prop}(c:Oa X R' F w (Mine.lift m st) Q' E)(k:∀f,m=some f->Xd X R' F w f st Q'->P):P:=by induction m with|some f=>exact k f rfl c|none=>exact c.elim
def Oa.ite[Decidable b]{m:Res γ}{P:Prop}(c:Oa X R' F w (if b then m else none) Q' E)(k:b->Oa X R' F w m Q' E->P):P:=by
 by_cases h:b;·rw [if_pos h] at c;exact k h c
 ·rw [if_neg h] at c;exact c.elim
def Xd.tok(c:Xd X R' F w a st Q')(I:Ea X F.l w st)(tk:Nat)(x:R' (w.at w.h tk) a v):Q' v {w.s with toks:=tk}:=c (w.at w.h tk) v (Step.kept λy y e=>e) (I.kept λy y e=>e) x
def Xd.push(c:Xd X Sa F w (.v f) st Q)(I:Ea X F.l w st)(a:o.isFreed=false)(tk:Nat)(x:wa (Pj w.G w.h.objs.size o) f (.ref w.h.objs.size)):Q (.ref w.h.objs.size) {w.s with heap:=w.h.push o,toks:=tk}:=c (w.push o tk) _ (.push I) (I.push a) x
def Uj(I:Ea X l w st)(a:Jb w.G vs xs):Jb (Pj w.G w.h.objs.size o) vs xs:=a.mono (lg (I.gnone (Ka _)))
end
end
noncomputable def Own(sl:List Slot)(a:Nat->Addr)(b:Addr):Prop:=∃i l,sl[i]? =some (Slot.own l)/\b=a i
def uV(env:Env)(P:Addr->Prop)(w:Wd)(b:Addr)(o:Obj):Prop:=b∉Td w.sa/\b≠env.locals/\((∀p∈env.cells,b≠p.2)\/∀v,o.data≠ .cell v)/\¬P b
structure zb(env:Env)(P:Addr->Prop)(w w':Wd):Prop where
 grow:yd w.G w'.G
 fresh:∀a o,w'.G a=some o->w.G a=some o\/w.h.get? a=none\/P a
 kp:∀b o,uV env P w b o->w.h.get? b=some o->Kept w'.h b o
 alive:∀b,(w.h.get? b).isSome->(w'.h.get? b).isSome
 more:More w w'
 rest:Rest w w'
structure SStep(env:Env)(P:Addr->Prop)(w:Wd)(P':Addr->Prop)(w':Wd):Prop where
 f:zb env P w w'
 owns:∀b,P' b->P b\/w.h.get? b=none
section
variable {env:Env} {P P₁ P':Addr->Prop} {w w₁ w':Wd}
def zb.dead(x:zb env P w w')(b:Addr)(e:w'.h.get? b=none):w.h.get? b=none:=vz (x.alive b) e
def zb.of_step(S:Step w w'):zb env P w w':=⟨S.grow,λa o e=>(S.fresh a o e).imp id .inl,λb o hb e=>S.kp b o hb.1 e,S.alive,S.more,S.rest⟩
def SStep.of_step(S:Step w w'):SStep env P w P w':=⟨.of_step S,λx=> .inl⟩
def SStep.refl:SStep env P w P w:= .of_step .refl
def SStep.thenF(x:SStep env P w P₁ w₁)(y:zb env P₁ w₁ w'):zb env P w w':=⟨λa o e=>y.grow _ _ (x.f.grow _ _ e),λa o e=>(y.fresh a o e).elim (x.f.fresh a o) λz=> .inr (z.elim (λz=> .inl (x.f.dead a z)) λz=>(x.owns a z).elim .inr .inl),λb o hb e=>(x.f.kp b o hb e).trans λi f=>y.kp b i ⟨x.f.more.elim λc g=>g.1▸ip g.2 hb.1 e,hb.2.1,hb.2.2.1.imp id λh v d=>(x.f.kp b o hb e).some.elim λc q=>h v ((congrArg Obj.data (Option.some.inj (q.symm.trans f))).trans d),λq=>(x.owns b q).elim hb.2.2.2 λz=>Zd e z⟩ f,λb e=>y.alive _ (x.f.alive _ e),x.f.more.trans y.more x.f.dead,x.f.rest.trans y.rest⟩
def SStep.trans(x:SStep env P w P₁ w₁)(y:SStep env P₁ w₁ P' w'):SStep env P w P' w':=⟨x.thenF y.f,λb e=>(y.owns b e).elim (x.owns b) λz=> .inr (x.f.dead b z)⟩
def zb.scratch(S:zb env P w w₁){ch:Addr->Prop}{h':Heap}{tk:Nat}(fr:∀b,ch b->w.h.get? b=none)(kp:∀b o,¬ch b->w₁.h.get? b=some o->h'.get? b=some o):zb env P w (w₁.at h' tk):=have a:∀b o,w.h.get? b=some o->¬ch b:=λb x e c=>Zd e (fr b c)
 ⟨S.grow,S.fresh,λb o hb e=>(S.kp b o hb e).imp (kp b _ (a b o e)) (.imp λes=> .imp λn=> .imp λsl z=>⟨z.1,kp b _ (a b o e) z.2⟩),λb hb=>Nl hb λo e=>Nl (S.alive b hb) λf d=>eg (kp b f (a b o e) d),S.more,S.rest⟩
end
def pf(X:Ctx)(F:Fr)(T:Tab)(w:Wd)(P:Addr->Prop)(fl:Fl)(sl':List Slot)(st':ia)(Q:Flow->Shared->Prop)(E:Value->Shared->Prop):Prop:=match fl with| .exc t=>∀w' e f,zb F.env P w w'->Ea X F.l w' st'->Exc X w.h w' F.l f t e->(f=none\/f=some F.env.locals)->E (.ref e) w'.s| .next=>∀w' b,SStep F.env P w (Own sl' b) w'->J X F T w' sl' b st'->Q .next w'.s| .brk=>∀w' b,SStep F.env P w (Own sl' b) w'->J X F T w' sl' b st'->Q .brk w'.s| .ret a=>∀w' v,zb F.env P w w'->Ea X F.l w' st'->Sa w' a v->Q (.ret v) w'.s
def Ja(X:Ctx)(F:Fr)(T:Tab)(w:Wd)(P:Addr->Prop)(r:Bb)(Q:Flow->Shared->Prop)(E:Value->Shared->Prop):Prop:=match r with|some (fl,sl',st')=>pf X F T w P fl sl' st' Q E|none=>False
section
variable {α β:Type} {X:Ctx} {R:Wd->α->β->Prop} {F:Fr} {T:Tab} {w w₁:Wd} {P P₁:Addr->Prop} {sl:List Slot} {ow:Nat->Addr} {st:ia} {r:Bb} {Q:Flow->Shared->Prop} {E:Value->Shared->Prop}
def pf.after(C:pf X F T w P fl sl' st' Q E)(S:SStep F.env P w P₁ w₁):pf X F T w₁ P₁ fl sl' st' Q E:=by
 induction fl with
 |exc t=>exactλw' e f c b x g=>C w' e f (S.thenF c) b (x.older S.f.dead) g|next=>exactλw' d c b=>C w' d (S.trans c) b
 |brk=>exactλw' d c b=>C w' d (S.trans c) b|ret a=>exactλw' v c b r=>C w' v (S.thenF c) b r
def Ja.after(C:Ja X F T w P r Q E)(S:SStep F.env P w P₁ w₁):Ja X F T w₁ P₁ r Q E:=by induction r with|none=>exact C|some p=>exact pf.after C S
def Ja.toZ(C:Ja X F T w P (sE m sl k) Q E):Yu X F w (λa st=>Ja X F T w P (k a st) Q E) m E:=by induction m with|none=>exact C|some p=>induction p with|mk r st=>induction r with|ok a=>exact C|error t=>exactλw' e S I x=>C w' e none (.of_step S) I x (.inl rfl)
def pf.err(C:pf X F T w P (.exc t) sl' st' Q' E):Err X F w t st' E:=λw' e S I x=>C w' e none (.of_step S) I x (.inl rfl)
def ub.stm(D:ub X R F w m t)(L:Ab F.env T.xs w sl ow)(C:Ja X F T w P (sE m sl k) Q E)(go:∀a b w₁ v,Step w w₁->J X F T w₁ sl ow b->R w₁ a v->Ja X F T w₁ P (k a b) Q E->Q' v w₁.s):wpAny X.M F.A t Q' E w.s:=by refine D Q' E ?_;induction m with|none=>exact C|some p=>induction p with|mk r st=>induction r with|ok a=>exactλw₁ v S I x=>go a st w₁ v S ⟨I,L.step S⟩ x (Ja.after (r:=k a st) C (.of_step S))|error t=>exact pf.err (T:=T) (sl':=sl) (Q':=Q) C
def ub.stmV(D:ub X Sa F w m t)(L:Ab F.env T.xs w sl ow)(C:Ja X F T w P (sV m sl k) Q E)(go:∀f b w₁ v,Step w w₁->J X F T w₁ sl ow b->wa w₁.G f v->Ja X F T w₁ P (k f b) Q E->Q' v w₁.s):wpAny X.M F.A t Q' E w.s:=D.stm L C λa b w₁ v S I x C=>by induction a with|v f=>exact go f b w₁ v S I x C|o i=>exact C.elim
def Ja.ite[Decidable b]{Z:Prop}(C:Ja X F T w P (if b then r else none) Q E)(k:b->Ja X F T w P r Q E->Z):Z:=by
 by_cases h:b;·rw [if_pos h] at C;exact k h C
 ·rw [if_neg h] at C;exact C.elim
def Ja.put{z:Slot}{Z:Prop}(C:Ja X F T w P (Hi (put sl i z) st) Q E)(k:i<sl.length->pf X F T w P .next (sl.set i z) st Q E->Z):Z:=by induction q:Mine.put sl i z with|none=>rw [q] at C;exact C.elim|some s=>rw [q,(mh q).2] at C;exact k (mh q).1 C
end
def vq(h:small a=true):Builtin.Int.intBits a<=64:=by rw [Yb] at h;exact a2 h λb c=>intBits_le_64 (by have:=of_decide_eq_true b;lia) (by have:=of_decide_eq_true c;lia)
def xZ{o:Obj}{T:String}{xs:Array Value}{n:Nat}(c:o.cls= .type T)(d:o.data= .seq xs n):o=⟨.type T,o.dict,.seq xs n,o.slots⟩:=by cases o;subst c;subst d;rfl
section
variable {X:Ctx} {F:Fr} {w:Wd} {st:ia} {Q:Value->Shared->Prop} {E:Value->Shared->Prop} {f:FV}
def Xd.int(c:Xd X Sa F w (.v f) st Q)(I:Ea X F.l w st)(e: .int i=f):Q (.int i t) {w.s with toks:=tk}:=Xd.tok (a:=AV.v f) c I tk (e▸wa.int i t)
def NO{a b:Addr}{c d:Obj}{xs ys:Array Value}{n k:Nat}(i:w.h.get? a=some c)(e:c.cls= .type "list")(j:c.data= .seq xs n)(hb:w.h.get? b=some d)(g:d.cls= .type "list")(l:d.data= .seq ys k)(m:xs.size+ys.size<=sizeLine) (h:Q (.ref w.h.objs.size) {w.s with heap:=w.h.push {cls:= .type "list",data:= .seq (xs++ys)}}):wpAny X.M F.A (binaryOp .Add (.ref a) (.ref b)) Q E w.s:=concat_meets ⟨_,i,e⟩ ⟨_,hb,g⟩ noFill_list_add seq_list_add slot_list_add entry_list_add (args_list_add_2 _ _) (list_addW a b xs ys n k _ _ _ _ m) ⟨i.trans (congrArg _ (xZ e j)),hb.trans (congrArg _ (xZ g l)),h⟩
def eJ{G:GH}{d:Type}{x y:FV}{v u:Value}{k:Int->Int->Option d}{z:d}{P:Value->Value->Prop}(i:wa G x v)(j:wa G y u)(h:Tf x y k=some z)(H:∀a b,k a b=some z->∀c l,P (.int a c) (.int b l)):P v u:=AO h λa b e g h=>wa.atI (P:=λv=>P v u) (e▸i) λc=>wa.atI (P:=λu=>P (.int a c) u) (g▸j) (H a b h c)
def bits_mul(h:small a=true)(c:0<=b)(d:b<=64):(Builtin.Int.intBits a:Int)*b<=64*64:=Int.mul_le_mul (ofNat_le.mpr (vq h)) d c (by decide)
def XS{B:Operator}{x y:FV}{v u:Value}(I:Ea X F.l w st)(V:wa w.G x v)(W:wa w.G y u)(c:Oa X Sa F w (retV (Ia B x y) st) Q E):wpAny X.M F.A (binaryOp B v u) Q E w.s:=by
 revert c
 refineλs=>s.retV λf j c=> ?_
 clear s;have e:∀{k:Int->Int->Option FV},Tf x y k=some f->(∀a b,k a b=some f->∀l r,wpAny X.M F.A (binaryOp B (.int a l) (.int b r)) Q E w.s)->wpAny X.M F.A (binaryOp B v u) Q E w.s:=eJ (P:=λv u=>wpAny X.M F.A (binaryOp B v u) Q E w.s) V W;induction B with
 |Add=>
  exact Ao j (λh=>e h λa b h l r=>P.add_int (c.int I (Option.some.inj h))) λh=>Ao h
   (λh=>wk h λp H h=>wk h λq L h=>ze h λA C=>wa.atY (P:=λp v=>p.length+q.length<=big-> .bytes (p++q)=f->wpAny X.M F.A (binaryOp .Add v u) Q E w.s) (H▸V) (λb t=>wa.atY (P:=λq u=>(b.toList.map UInt8.toNat).length+q.length<=big-> .bytes (b.toList.map UInt8.toNat++q)=f->wpAny X.M F.A (binaryOp .Add (.bytes b t) u) Q E w.s) (L▸W) λb' t' A C=>by rw [length_map,length_map,length_toList,length_toList] at A;exact KBy.add_bytes (Nat.le_trans A (by decide)) λt' k=>Xd.tok (a:=AV.v f) c I k (C▸wa.bytes _ (by rw [toList_append,map_append]))) (of_decide_eq_true A) C)
   (λh=>YB h λp H h=>YB h λq L h=>ze h λA C=>wa.atL (P:=λv=>wpAny X.M F.A (binaryOp .Add v u) Q E w.s) (H▸V) λa o xs n g cl d rs la=>wa.atL (P:=λu=>wpAny X.M F.A (binaryOp .Add (.ref a) u) Q E w.s) (L▸W) λb o' ys m g' G d' rs' lb=>NO (I.gin _ _ g) cl d (I.gin _ _ g') G d' (by have:=of_decide_eq_true A;rw [la,lb] at this;exact Nat.le_trans this (by decide)) (Xd.push c I (o:={cls:= .type "list",data:= .seq (xs++ys)}) rfl w.s.toks (C▸wa.lst (Bc _ _ _) rfl rfl (by rw [toList_append];exact Uj I (rs.append rs')))))
 |Sub=>exact e j λa b h l r=>P.sub_int (c.int I (Option.some.inj h))|Mult=>exact e j λa b h l r=>ze h λi h=>a2 i λi z=>P.mul_int (c.int I h) (IntMulOk.of_left (vq i))|FloorDiv=>exact e j λa b h l r=>ze h λi h=>a2 i λA i=>floordiv_int (of_decide_eq_false (Th A)) (c.int I h) (.inl (PyProof.noPylong_small (of_decide_eq_true i)))|Mod=>exact e j λa b h l r=>ze h λi h=>mod_int' (of_decide_eq_false (Th i)) (c.int I h)|LShift=>exact e j λa b h l r=>ze h λi h=>a2 i λi O=>a2 i λD M=>lshift_int (of_decide_eq_true D) (by have:=vq O;have:=of_decide_eq_true M;lia) (c.int I h)|RShift=>exact e j λa b h l r=>ze h λi h=>rshift_int (of_decide_eq_true i) (c.int I h)|BitAnd=>exact e j λa b h l r=>and_int (c.int I (Option.some.inj h))|BitOr=>exact e j λa b h l r=>or_int (c.int I (Option.some.inj h))|Pow=>exact e j λa b h l r=>ze h λi h=>a2 i λi O=>a2 i λD M=>pow_int (of_decide_eq_true D) (by have:=bits_mul O (of_decide_eq_true D) (of_decide_eq_true M);lia) (c.int I h)| _=>exact Cb j
def Xd.bool(c:Xd X Sa F w (.v (.bool b)) st Q)(I:Ea X F.l w st):Q (.bool b) {w.s with toks:=tk}:=Xd.tok c I tk (wa.bool b)
variable {b:Bool} {x y:FV} {v u:Value}
def lT{P:Prop}(I:Ea X F.l w st)(i:wa w.G x v)(j:wa w.G y u)(e:PR x y=some b)(H:∀a c as bs,Reads w.h v a as->Reads w.h u c bs->shaped a=true->shaped c=true->eqv a c=b->P):P:=Ke e λa q1 e=>Ke e λc q2 e=>ze e λh e=>(i.reads I.gin q1).elim λas r1=>(j.reads I.gin q2).elim λbs r2=>a2 h λd g=>H a c as bs r1 r2 d g e
def NL(p q:Array UInt8):(p.toList.map UInt8.toNat==q.toList.map UInt8.toNat)=(p.toList==q.toList):=by rw [Bool.eq_iff_iff,beq_iff_eq,beq_iff_eq];exact List.map_inj_right λa b=>UInt8.toNat_inj.mp
def kT{P:Value->Value->Prop}(g:wa w.G x v)(h:wa w.G y u)(e:(yt x λx=>yt y λy=>some (x==y))=some b)(H:∀(p q:Array UInt8) t a,(p.toList==q.toList)=b->P (.bytes p t) (.bytes q a)):P v u:=wk e λp c e=>wk e λq d e=>wa.atY (P:=λp v=>(p==q)=b->P v u) (c▸g) (λp t=>wa.atY (P:=λq u=>(p.toList.map UInt8.toNat==q)=b->P (.bytes p t) u) (d▸h) λq a z=>H p q t a ((NL p q).symm.trans z)) (Option.some.inj e)
def wa.atS{G:GH}{s:Str}{v:Value}{P:Value->Prop}(h:wa G (.str s) v)(H:∀t,P (.str s t)):P v:=by cases h;exact H _
def nT{P:Value->Value->Prop}(g:wa w.G x v)(h:wa w.G y u)(e:(onStr x λx=>onStr y λy=>some (x==y))=some b)(H:∀p q t a,(p==q)=b->P (.str p t) (.str q a)):P v u:=bC e λp c e=>bC e λq d e=>wa.atS (P:=λv=>P v u) (c▸g) λt=>wa.atS (P:=λu=>P (.str p t) u) (d▸h) λa=>H p q t a (Option.some.inj e)
def lI{m:List FV}{P:Prop}(e:Oh (.lst m) (.lst [])=some b)(H:∀ds,FV.pys m=some ds->shaped (.list ds)=true->shaped (.list [])=true->eqv (.list ds) (.list [])=b->P):P:=Ao (show (PR (.lst m) (.lst [])).or _=some b from e) (λe=>Ke e λh q1 e=>Ke e λi q2 e=>ze e λg e=>wG q1 λl q3 a=>a2 g λc d=>H l q3 (a▸c) (Option.some.inj q2▸d) (by rw [<-e,<-a,<-Option.some.inj q2])) λe=>Cb e
def jI{P:Value->Value->Prop}(I:Ea X F.l w st)(d:wa w.G x v)(g:wa w.G y u)(e:Oh x y=some b)(i:∀p q t h,(p==q)=b->P (.str p t) (.str q h))(j:∀a c as bs,Reads w.h v a as->Reads w.h u c bs->shaped a=true->shaped c=true->eqv a c=b->P v u)(k:∀(p q:Array UInt8) t h,(p.toList==q.toList)=b->P (.bytes p t) (.bytes q h)):P v u:=Ao e (λe=>nT d g e i) λe=>Ao e (λe=>lT I d g e j) λe=>kT d g e k
def nW(I:Ea X F.l w st)(g:wa w.G x v)(h:wa w.G y u)(e:Oh x y=some b)(d:F.A.units+64<cLine)(c:Q (.bool b) w.s):wpAny X.M F.A (compareOp .Eq v u) Q E w.s:=jI (P:=λv u=>wpAny X.M F.A (compareOp .Eq v u) Q E w.s) I g h e (λp q t i z=>eq_str (z▸c)) (λa a a a r1 r2 s1 s2 z=>eq_dataH r1 r2 s1 s2 d (z▸c)) λp q t i z=>eq_bytes (z▸c)
def WW(I:Ea X F.l w st)(g:wa w.G x v)(h:wa w.G y u)(e:Oh x y=some b)(d:F.A.units+64<cLine)(c:Q (.bool (!b)) w.s):wpAny X.M F.A (compareOp .NotEq v u) Q E w.s:=jI (P:=λv u=>wpAny X.M F.A (compareOp .NotEq v u) Q E w.s) I g h e (λp q t i z=>ne_str (show Q (.bool (!(p==q))) w.s from z▸c)) (λa a a a r1 r2 s1 s2 z=>ne_dataH r1 r2 s1 s2 d (z▸c)) λp q t i z=>ne_bytes (show Q (.bool (!(p.toList==q.toList))) w.s from z▸c)
def tH{x:Int}{u:Tok}:asIndex (.int x u)=pure x:=by
 unfold asIndex;have h:specialOf (.int x u) "__index__"=pure (some (.builtin "int.__index__")):=(show specialOf (.int x u) "__index__"=typeLookup (.type "int") "__index__" from rfl).trans AutoSeq1.idx_int;first
  |rfl|(rw [h];rfl)|(simp only [h];rfl)
def TO{x:Int}(a:0<=x)(c:x<256):¬((decide (x<0)||decide (x≥256))=true):=λh=>(or_eq_true_iff.mp h).elim (λh=>Int.not_lt.mpr a (of_decide_eq_true h)) λh=>Int.not_le.mpr c (of_decide_eq_true h)
def Tz{b:Array UInt8}{t u:Tok}{x:Int}(a:0<=x)(c:x<256):Gives (Builtin.«bytes.__contains__» ⟨[.bytes b t,.int x u],[]⟩) (.val (.bool (b.contains x.toNat.toUInt8))):=by refine .of_wp λM A E s Q d=> ?_;show wpAny M A (Builtin.Bytes.containsIn "bytes.__contains__" (.bytes b t) (.int x u)>>=λr=>ret (.bool r)) _ E s;refine wpAny_bind ?_;unfold Builtin.Bytes.containsIn;refine wpAny_bind (wpAny_attempt (wpAny_of_eq tH (wpAny_bind (wpAny_of_eq KBy.buffer_eq ?_))));show wpAny M A (if x<0||x≥256 then _ else _:Sem Bool) _ E s;rw [if_neg (TO a c)];exact wpAny_pure (wpAny_pure ⟨_,rfl,d⟩)
def zO{b:Array UInt8}{t u:Tok}{x:Int}(a:0<=x)(c:x<256)(h:Q (.bool (b.contains x.toNat.toUInt8)) w.s):wpAny X.M F.A (compareOp .In (.int x u) (.bytes b t)) Q E w.s:=in_gives (typeIs_bytes w.s b t) FB.slot_bytes_contains FB.entry_bytes_contains (FB.args_bytes_contains_2 _ _) (Tz a c) h
def byte_back{x:Int}(a:0<=x)(c:x<256):((x.toNat.toUInt8.toNat:Nat):Int)=x:=(congrArg ofNat (mod_eq_of_lt (show x.toNat<256 by lia))).trans (toNat_of_nonneg a)
def contains_eq{b:Array UInt8}{x:Int}(a:0<=x)(c:x<256):(b.toList.map UInt8.toNat).any (λ(y:Nat)=>decide ((y:Int)=x))=b.contains x.toNat.toUInt8:=by rw [any_map,Bool.eq_iff_iff,any_eq_true,<-Array.contains_toList,contains_iff_mem];exact ⟨λh=>h.elim λy h=>(show y=x.toNat.toUInt8 from UInt8.toNat_inj.mp (ofNat_inj.mp ((of_decide_eq_true h.2).trans (byte_back a c).symm)))▸h.1,λh=>⟨_,h,decide_eq_true (byte_back a c)⟩⟩
def wa.isN(h:wa G x v):isNone x=true->v= .none:=by cases h with|none=>exactλa=>rfl| _=>exactλh=>Ec h
def wa.bN(h:wa G x v):(v== .none)=isNone x:=by cases h<;>rfl
def yj{p:CmpOp}(I:Ea X F.l w st)(o:wa w.G x v)(m:wa w.G y u)(e:yb p x y=some b)(D:F.A.units+64<cLine)(i:Q (.bool b) w.s):wpAny X.M F.A (compareOp p v u) Q E w.s:=by
 have j:∀{k:Int->Int->Option Bool},Tf x y k=some b->(∀a c,k a c=some b->∀n q,wpAny X.M F.A (compareOp p (.int a n) (.int c q)) Q E w.s)->wpAny X.M F.A (compareOp p v u) Q E w.s:=eJ (P:=λv u=>wpAny X.M F.A (compareOp p v u) Q E w.s) o m;induction p with
 |Eq=>exact nW I o m e D i|NotEq=>exact (map_eq_some_iff.mp (show (Oh x y).map not=some b from e)).elim λL h=>WW I o m h.1 D (h.2▸i)|Lt=>exact j e λa b e n q=>P.lt_int (Option.some.inj e▸i)|LtE=>exact j e λa b e n q=>P.le_int (Option.some.inj e▸i)|Gt=>exact j e λa b e n q=>P.gt_int (Option.some.inj e▸i)|GtE=>exact j e λa b e n q=>P.ge_int (Option.some.inj e▸i)|Is=>exact ze e λA e=>m.isN A▸is_none (o.bN▸e▸i)|IsNot=>exact ze e λA e=>m.isN A▸isNot_none (show Q (.bool (!(v== .none))) w.s from o.bN▸e▸i)|In=>
  refine Ql e λa s e=>wa.atI (P:=λv=>wpAny X.M F.A (compareOp .In v u) Q E w.s) (s▸o) λn=>Ao e (λe=>wk e λl G e=>ze e λH z=> ?_) λe=> ?_;·exact wa.atY (P:=λl u=>l.any (λ(y:Nat)=>decide ((y:Int)=a))=b->wpAny X.M F.A (compareOp .In (.int a n) u) Q E w.s) (G▸m) (λl t z=>a2 H λB C=>zO (of_decide_eq_true B) (of_decide_eq_true C) ((contains_eq (of_decide_eq_true B) (of_decide_eq_true C)).symm.trans z▸i)) z
  ·cases m with|tup g c d r=>exact Ke e λns s e=>in_tuple_ints ⟨_,I.gin _ _ g,c,_,d⟩ (r.ints s) (show Q (.bool (ns.any (·==a))) w.s from Option.some.inj e▸i)| _=>exact Cb e
 |NotIn=>exact Cb e
end
def jd(h:Sg y=true)(o i:Value):subscripted y false o i=operate [o,i] (getItem o i):=by cases y<;>first|rfl|exact Ec h
def Te(h:n<=big):n<=sizeLine:=Nat.le_trans h (by decide)
def fits{n:Nat}(h:k<(n:Int))(a:n<=big):k<2^63:=Int.lt_of_lt_of_le h (Int.le_trans (ofNat_le.mpr a) (by decide))
def lF{P:Prop}(e:jc a i=some f)(k:∀l,a= .lst l->i<0->l.length<=big->0<=i+l.length->l[(i+l.length).toNat]? =some f->P)(j:∀l,a= .lst l->0<=i->l.length<=big->l[i.toNat]? =some f->P)(m:∀l,a= .tup l->0<=i->l.length<=big->l[i.toNat]? =some f->P)(g:∀l n,a= .bytes l->0<=i->l.length<=big->l[i.toNat]? =some n-> .int (n:Nat)=f->P):P:=by
 unfold jc at e;have go:∀{c:Prop} [Decidable c] {o:Option FV},(if c then o else none)=some f->c/\o=some f:=λ{c x o} e=>by
  by_cases h:c;·rw [if_pos h] at e;exact ⟨h,e⟩
  ·rw [if_neg h] at e;exact Cb e
 by_cases b:i<0;·rw [if_pos b] at e;cases a with|lst l=>exact a2 (go e).1 λp q=>k l rfl b (of_decide_eq_true p) (of_decide_eq_true q) (go e).2| _=>exact Cb e
 ·rw [if_neg b] at e;have d:=Int.not_lt.mp b;cases a with|lst l=>exact j l rfl d (go e).1 (go e).2|tup l=>exact m l rfl d (go e).1 (go e).2|bytes l=>exact (map_eq_some_iff.mp (go e).2).elim λn h=>g l n rfl d (go e).1 h.1 h.2| _=>exact Cb e
def Xk{l:List b}(a:0<=i)(e:l[i.toNat]? =some x):i<(l.length:Int):=(toNat_of_nonneg a).symm▸ofNat_lt.mpr (List.getElem?_eq_some_iff.mp e).1
section
variable {X:Ctx} {F:Fr} {w:Wd} {st:ia} {Q:Value->Shared->Prop} {E:Value->Shared->Prop} {value:Expr}
def QJ{t u:Tok}(a:0<=k)(c:b.size<=big)(e:(b.toList.map UInt8.toNat)[k.toNat]? =some n)(h:∀t tk,Q (.int (n:Nat) t) {w.s with toks:=tk}):wpAny X.M F.A (getItem (.bytes b t) (.int k u)) Q E w.s:=by rw [getElem?_map] at e;refine (map_eq_some_iff.mp e).elim λz e=>getItem_bytes (l:=b.toList) (Nat.le_trans c (by decide)) a (Xk a e.1) ?_;rw [getD_eq_getElem?_getD,e.1];show Q (.int ((z.toNat:Nat):Int) _) _;rw [e.2];exact h _ _
def rI{x:FV}{k:Int}(I:Ea X F.l w st)(z:wa w.G x v)(s:Sg slice=true)(c:Oa X Sa F w (retV (jc x k) st) Q E):wpAny X.M F.A (subscriptTail value slice v (.int k u)) Q E w.s:=by
 refine c.retV λf e c=>lF e ?_ ?_ ?_ ?_
 ·exactλl m G i h q=>wa.atL (P:=λv=>wpAny X.M F.A (subscriptTail value slice v (.int k u)) Q E w.s) (m▸z) λa o xs n g cl d r A=>(r.get q).elim λy j=>have p:w.h.IsList a xs:=⟨_,I.gin _ _ g,cl,_,d⟩
   tail_any p.typeIs slot_list_getitem.lookup (wpAny_getItem_list_neg p G (by lia) (by unfold big at i;lia) (x:=y) (by rw [<-getElem?_toList,<-A];exact j.1) (Xd.tok c I w.s.toks j.2)) (jd s _ _)
 ·exactλl m h i q=>wa.atL (P:=λv=>wpAny X.M F.A (subscriptTail value slice v (.int k u)) Q E w.s) (m▸z) λa o xs n g cl d r A=>(r.get q).elim λy j=>have p:w.h.IsList a xs:=⟨_,I.gin _ _ g,cl,_,d⟩
   tail_any p.typeIs slot_list_getitem.lookup (wpAny_getItem_list p h (fits (Xk h q) i) (x:=y) (by rw [<-getElem?_toList];exact j.1) (Xd.tok c I w.s.toks j.2)) (jd s _ _)
 ·exactλl m h i q=>wa.atT (P:=λv=>wpAny X.M F.A (subscriptTail value slice v (.int k u)) Q E w.s) (m▸z) λa o xs n g cl d r A=>(r.get q).elim λy j=>have B:IsTup w.h a xs:=⟨_,I.gin _ _ g,cl,_,d⟩
   have C:=Xk h q
   tail_any B.typeIs slot_tuple_getitem.lookup (getItem_tuple B (Int.le_trans (by decide) h) (fits C i) (seqIndex_of h (A▸C)) (x:=y) (by rw [<-getElem?_toList];exact j.1) (Xd.tok c I w.s.toks j.2)) (jd s _ _)
 ·exactλl n m h i q D=>wa.atY (P:=λl v=>l.length<=big->l[k.toNat]? =some n->wpAny X.M F.A (subscriptTail value slice v (.int k u)) Q E w.s) (m▸z) (λb t i q=>tail_any (typeIs_bytes _ _ _) FB.slot_bytes_getitem.lookup (QJ h (by rwa [length_map,length_toList] at i) q λt tk=>c.int I D) (jd s _ _)) i q
def mO(items:Array Value)(b a:Option Int):slicePick items b a none=(cut items.toList b a).toArray:=by rw [slicePick_plain,<-length_toList];rfl
def CB(b:Array UInt8)(c a:Option Int):KBy.picked b c a=(cut b.toList c a).toArray:=by rw [KBc.picked_eq,<-length_toList];rfl
def tJ(l:List c)(b a:Option Int):(cut l b a).length<=l.length:=((take_sublist ..).trans (drop_sublist ..)).length_le
def bT(f:c->d)(l:List c)(b a:Option Int):cut (l.map f) b a=(cut l b a).map f:=by unfold cut;rw [length_map,map_take,map_drop]
def Jb.cut(h:Jb G f v)(b a:Option Int):Jb G (cut f b a) (cut v b a):=by unfold Mine.cut;rw [h.length];exact (h.drop _).take _
def sH(k:Int)(n:Nat)(h:0<=k):sliceAdjust none (some k) 1 (n:Int)=((0:Int),((min k.toNat n:Nat):Int)):=by exact (congrArg (Prod.mk (0:Int)) ((if_neg (Int.not_lt.mpr h)).trans (show min k (n:Int)=((min k.toNat n:Nat):Int) from (Int.le_total k n).elim (λz=>by rw [Int.min_eq_left z,Nat.min_eq_left (toNat_le.mpr z),toNat_of_nonneg h]) λz=>by rw [Int.min_eq_right z,Nat.min_eq_right ((le_toNat h).mpr z)])):((0:Int),if k<0 then max (k+(n:Int)) 0 else min k (n:Int))=_)
def NH(m:Nat):slicePlaces 0 (m:Int) 1=m:=by unfold slicePlaces;rw [if_pos (by decide),ediv_one];split<;>lia
def XM(xs:Array Value)(k:Nat):((range (min k xs.size)).filterMap λ(i:Nat)=>xs[((0:Int)+(i:Int)*1).toNat]?).toArray=(xs.toList.take k).toArray:=by have e:=pick_run xs 0 (min k xs.size);rw [filterMap_map,drop_zero,<-length_toList,kmk_take_min,length_toList] at e;rw [<-e];exact congrArg (λf=>(filterMap f _).toArray) (funext λi=>congrArg (xs[·]?) (by rw [Int.zero_add,Int.mul_one,toNat_natCast];exact (Nat.zero_add i).symm))
noncomputable abbrev Dk(a b vs:Value):Obj:={cls:= .type "slice",data:= .fields #[a,b,vs]}
section
variable {prog:Program} {W:World} {A:Around} {s:Shared}
def Sv{Q:Int×Int×Nat->Shared->Prop}(a:s.heap.IsSliceOf sl .none (.int k u) .none)(d:0<=k)(h:Q ((0:Int),1,min k.toNat n) s):wpAny (model prog W) A (sliceApplied (.ref sl) (pure (n:Int))) Q E s:=by refine a.elim λos a=> ?_;unfold sliceApplied sliceFields;refine wpAny_bind (wpAny_bind (wpAny_field a.1 a.2.2 (x:= .none) rfl (wpAny_bind (wpAny_field a.1 a.2.2 (x:= .int k u) rfl (wpAny_bind (wpAny_field a.1 a.2.2 (x:= .none) rfl (wpAny_pure (wpAny_bind (slicePart_none ?_)))))))));show wpAny _ _ (if ((1:Int)==0)=true then _ else _) _ _ s;rw [if_neg (by decide)];refine wpAny_bind (slicePart_none (wpAny_bind (slicePart_int (wpAny_bind (wpAny_pure ?_)))));show wpAny _ _ (match sliceAdjust none (some k) 1 (n:Int) with|(b,c)=>pure (b,(1:Int),slicePlaces b c 1)) _ _ s;rw [sH k n d];show wpAny _ _ (pure ((0:Int),(1:Int),slicePlaces 0 ((min k.toNat n:Nat):Int) 1)) _ _ s;rw [NH];exact wpAny_pure h
def Rr(b:IsTup s.heap t items)(d:s.heap.IsSliceOf sl .none (.int k u) .none)(f:0<=k)(e:items.toList.take k.toNat=items.toList->Q (.ref t) s)(h:Q (.ref s.heap.objs.size) {s with heap:=s.heap.push {cls:= .type "tuple",data:= .seq (items.toList.take k.toNat).toArray}}) (a:items.size<=sizeLine):wpAny (model prog W) A (getItem (.ref t) (.ref sl)) Q E s:=by
 unfold getItem;try with_reducible refine wpAny_holding ?_
 first|refine wpAny_bind (wpAny_pure ?_)|skip
 refine wpAny_bind (wpAny_sequenceKey b.typeIs (by decide) (wpAny_bind (wpAny_callSpecial?_slot (name:=ofString "__getitem__") b.typeIs slot_tuple_getitem
  (wpAny_call_entry slot_tuple_getitem b.typeIs entry_tuple_getitem ?_ (args_tuple_getitem _ _)))))
 show wpAny _ _ (tupleItemsOf (.ref t)>>=_) _ _ s;refine wpAny_bind (tupleItemsOf_ b (wpAny_bind (wpAny_typeOf (T:="slice") (d.imp λx h=>⟨h.1,h.2.1⟩) ?_)));rw [if_pos (by decide)];refine wpAny_bind (Sv d f ?_);show wpAny _ _ (if (min k.toNat items.size==items.size)=true then _ else _) _ _ s;by_cases c:(min k.toNat items.size==items.size)=true
 ·rw [if_pos c];have fin:=e (take_of_length_le (by rw [length_toList,<-beq_iff_eq.mp c];exact Nat.min_le_left _ _));refine wpAny_bind (wpAny_bind (wpAny_typeOf b.typeIs (wpAny_pure ?_)));rw [if_pos (by decide)];first
   |exact wpAny_bind (wpAny_rule (wpAny_pure ⟨_,rfl,fin⟩))|exact wpAny_bind (wpAny_rule (wpAny_pure ⟨_,rfl,wpAny_pure fin⟩))|exact wpAny_bind (wpAny_bind (wpAny_rule (wpAny_pure ⟨_,rfl,wpAny_pure fin⟩)))
 ·rw [if_neg c,XM];have a:sizeOk (.seq (items.toList.take k.toNat).toArray):=by
   show (items.toList.take k.toNat).toArray.size<=sizeLine;rw [size_toArray];exact Nat.le_trans (length_take_le' ..) (by rw [length_toList];exact a)
  first
   |exact wpAny_bind (m:=tupleExact _) (wpAny_newObj_type (wpAny_pure ⟨_,rfl,wpAny_pure h⟩) a)|exact wpAny_bind (m:=tupleExact _) (wpAny_newObj_type (wpAny_bind (wpAny_pure (wpAny_pure ⟨_,rfl,wpAny_pure h⟩))) a)|exact wpAny_bind (wpAny_bind (m:=tupleExact _) (wpAny_newObj_type (wpAny_pure (wpAny_pure ⟨_,rfl,wpAny_pure h⟩)) a))|exact wpAny_bind (wpAny_bind (m:=tupleExact _) (wpAny_newObj_type (wpAny_pure ⟨_,rfl,wpAny_pure h⟩) a))
end
def WK{d b:Option Int}{P:Prop}(e:Va a d b=some f)(g:∀l,a= .bytes l->l.length<=big-> .bytes (cut l d b)=f->P)(i:∀l,a= .lst l->l.length<=big-> .lst (cut l d b)=f->P)(j:∀l k,a= .tup l->d=none->b=some k->0<=k->l.length<=big-> .tup (l.take k.toNat)=f->P):P:=by
 have go:∀{c:Prop} [Decidable c] {z:FV},(if c then some z else none)=some f->c/\z=f:=λ{c x o} e=>by
  by_cases h:c;·rw [if_pos h] at e;exact ⟨h,Option.some.inj e⟩
  ·rw [if_neg h] at e;exact Cb e
 cases a with
 |bytes l=>exact g l rfl (go e).1 (go e).2|lst l=>exact i l rfl (go e).1 (go e).2|tup l=>induction d with|some x=>exact Cb e|none=>induction b with|none=>exact Cb e|some k=>exact a2 (go e).1 λm n=>j l k rfl rfl rfl (of_decide_eq_true m) (of_decide_eq_true n) (go e).2
 | _=>exact Cb e
def nF(e:h.get? a=some o)(c:o.cls= .type "tuple")(d:o.data= .seq xs n):IsTup h a xs:=⟨o,e,c,n,d⟩
def FQ{v:Value}{r m:Option Int}(C:w.h.IsSliceOf sl V W .none)(I:Ea X F.l w st)(D:wa w.G x v)(pl:IsPart V r)(H:IsPart W m)(c:Oa X Sa F w (retV (Va x r m) st) Q E):
  wpAny X.M F.A (subscriptTail value (.Slice a b none p) v (.ref sl)) Q E w.s:=by
 refine c.retV λf e u=>WK e ?_ ?_ ?_
 ·exactλl j i h=>wa.atY (P:=λl v=>l.length<=big-> .bytes (cut l r m)=f->wpAny X.M F.A (subscriptTail value (.Slice a b none p) v (.ref sl)) Q E w.s) (j▸D) (λy t i h=>tail_any (typeIs_bytes _ _ _) FB.slot_bytes_getitem.lookup (getItem_meets (typeIs_bytes _ _ _) (by decide) FB.slot_bytes_getitem FB.entry_bytes_getitem (FB.args_bytes_getitem_2 _ _) (KBc.meets_slice2 y t _ pl H)
   ⟨C,by rw [CB,size_toArray];rw [length_map] at i;exact Nat.le_trans (tJ _ _ _) (Te i),λt' k=>Xd.tok (a:=AV.v f) u I k (h▸wa.bytes _ (by rw [CB,bT]))⟩) rfl) i h
 ·exactλl j i h=>wa.atL (P:=λv=>wpAny X.M F.A (subscriptTail value (.Slice a b none p) v (.ref sl)) Q E w.s) (j▸D) λy o xs n g cl d s G=>have L:w.h.IsList y xs:=⟨_,I.gin _ _ g,cl,_,d⟩
   tail_any L.typeIs slot_list_getitem.lookup (wpAny_getItem_list_slice L C pl H .none (λz=>nomatch z) (Xd.push u I (o:={cls:= .type "list",data:= .seq (slicePick xs r m none)}) rfl w.s.toks (h▸wa.lst (Bc _ _ _) rfl rfl (by rw [mO];exact Uj I (s.cut r m)))) (G▸Te i)) rfl
 ·intro l k j B A O i h;subst B A;cases pl;cases H;exact wa.atT (P:=λv=>wpAny X.M F.A (subscriptTail value (.Slice a b none p) v (.ref sl)) Q E w.s) (j▸D) λy o xs n g cl d s G=>have M:=nF (I.gin _ _ g) cl d
   tail_any M.typeIs slot_tuple_getitem.lookup (Rr M C O (λq=>Xd.tok (a:=AV.v f) u I w.s.toks (h▸wa.tup g cl d (q▸s.take _))) (Xd.push u I (o:={cls:= .type "tuple",data:= .seq (xs.toList.take k.toNat).toArray}) rfl w.s.toks (h▸wa.tup (Bc _ _ _) rfl rfl (Uj I (s.take _)))) (G▸Te i)) rfl
def CZ{g f:Option Int}(I:Ea X F.l w st)(h:wa w.G x v)(pl:IsPart d g)(i:IsPart e f)(c:Oa X Sa F w (retV (Va x g f) st) Q E):
  wpAny X.M F.A (subscriptTail value (.Slice a b none p) v (.ref w.h.objs.size)) Q E {w.s with heap:=w.h.push (Dk d e .none)}:=
 have S:=Step.push (o:=Dk d e .none) (tk:=w.s.toks) I
 FQ (w:=w.push (Dk d e .none) w.s.toks) (Heap.IsSliceOf.new ..) (I.push rfl) (h.mono S.grow) pl i (c.step S)
def ZP(f:w.h.IsSliceOf sl .none .none (.int (-1) t))(I:Ea X F.l w st)(j:wa w.G (.lst vs) v)(k:vs.length<=big)(i:c'.isSome=true)(h:∀xs,Jb w.G vs.reverse xs.toList->Q (.ref w.h.objs.size) {w.s with heap:=w.h.push {cls:= .type "list",data:= .seq xs}}):wpAny X.M F.A (subscriptTail value (.Slice a b c' p) v (.ref sl)) Q E w.s:=Nl i λz e=>wa.atL (P:=λv=>wpAny X.M F.A (subscriptTail value (.Slice a b c' p) v (.ref sl)) Q E w.s) j λy o xs n g cl d m l=>have c:w.h.IsList y xs:=⟨_,I.gin _ _ g,cl,_,d⟩
  tail_any c.typeIs slot_list_getitem.lookup (wpAny_getItem_list_slice c f .none .none (.int (-1) t) (λz=>nomatch z) (h _ (by rw [krv_pick];exact m.reverse)) (l▸Te k)) (by rw [e];rfl)
def pY(I:Ea X F.l w st)(e:wa w.G (.lst vs) v)(f:vs.length<=big)(d:c'.isSome=true)(h:∀w₁ xs,Step w w₁->Ea X F.l w₁ st->Jb w₁.G vs.reverse xs.toList->Q (.ref w₁.h.objs.size) {w₁.s with heap:=w₁.h.push {cls:= .type "list",data:= .seq xs}}):
  wpAny X.M F.A (subscriptTail value (.Slice a b c' p) v (.ref w.h.objs.size)) Q E {w.s with heap:=w.h.push (Dk .none .none (.int (-1) t)),toks:=w.s.toks+1}:=
 have S:=Step.push (o:=Dk .none .none (.int (-1) t)) (tk:=w.s.toks+1) I;have c:=I.push (o:=Dk .none .none (.int (-1) t)) (tk:=w.s.toks+1) rfl
 ZP (w:=w.push (Dk .none .none (.int (-1) t)) (w.s.toks+1)) (Heap.IsSliceOf.new ..) c (e.mono S.grow) f d λxs=>h _ xs S c
def LO{P:Prop}(e:Iw a=some n)(b:∀l,a= .bytes l->l.length<=big->l.length=n->P)(d:∀l,a= .lst l->l.length<=big->l.length=n->P)(f:∀l,a= .tup l->l.length<=big->l.length=n->P):P:=by
 have go:∀{c:Prop} [Decidable c] {z:Nat},(if c then some z else none)=some n->c/\z=n:=λ{c x o} e=>by
  by_cases h:c;·rw [if_pos h] at e;exact ⟨h,Option.some.inj e⟩
  ·rw [if_neg h] at e;exact Cb e
 cases a with|bytes l=>exact b l rfl (go e).1 (go e).2|lst l=>exact d l rfl (go e).1 (go e).2|tup l=>exact f l rfl (go e).1 (go e).2| _=>exact Cb e
def OT{n:Nat}(I:Ea X F.l w st)(h:wa w.G x v)(e:Iw x=some n)(fin:∀t tk,Q (.int (n:Int) t) {w.s with toks:=tk}):wpAny X.M F.A (call (.builtin "len") [v]) Q E w.s:=LO e (λl f c a=>wa.atY (P:=λl v=>l.length<=big->l.length=n->wpAny X.M F.A (call (.builtin "len") [v]) Q E w.s) (f▸h) (λb t c a=>by
   rw [length_map,length_toList] at c a;exact len_bytes (Nat.le_trans c (by decide)) (a▸fin _ _)) c a)
  (λl f c a=>wa.atL (P:=λv=>wpAny X.M F.A (call (.builtin "len") [v]) Q E w.s) (f▸h) λy o xs n g cl d j i=>call_len_list ⟨_,I.gin _ _ g,cl,_,d⟩ (by unfold big at c;lia) (by rw [<-i,a];exact fin _ _))
  (λl f c a=>wa.atT (P:=λv=>wpAny X.M F.A (call (.builtin "len") [v]) Q E w.s) (f▸h) λy o xs n g cl d j i=>len_tuple (nF (I.gin _ _ g) cl d) (by unfold big at c;lia) (by rw [<-i,a];exact fin _ _))
end
structure I4(X:Ctx)(c:Nat):Prop where
 over:plainOver X.K (X.N.clsA c)=true
 dict:hasDictIn X.K (X.N.clsA c)=true
 get:plainGet X.K (X.N.clsA c) empty=true
 set:findIn X.K (.ref (X.N.clsA c)) "__setattr__"=some (some (.builtin "object.__setattr__"))
structure ObjOK(X:Ctx):Prop where
 kin:X.K.In X.g0
 cls:∀c m,sd c m=true\/Nb c m=true->I4 X c
 fld:∀c m,sd c m=true->findIn X.K (.ref (X.N.clsA c)) (X.N.atN m)=some none
 met:∀c m,Nb c m=true->findIn X.K (.ref (X.N.clsA c)) (X.N.atN m)=some (some (.ref (X.N.metA c m)))/\typeIn X.K (.ref (X.N.metA c m))=some (.type "function")/\keepIn X.K (.ref (X.N.metA c m))=true
 mkC:∀c,Nb c 999=true->makesIn X.K (X.N.clsA c)=true/\keepIn X.K (.ref (X.N.clsA c))=true
 inj:∀c k m,sd c k=true->sd c m=true->X.N.atN k=X.N.atN m->k=m
 ini:X.N.atN 999="__init__"
def jH(n:Str):(n==n)=true:=beq_self_eq_true n
def PN{m n:Str}(h:m≠n):¬(m==n)=true:=λz=>h (beq_iff_eq.mp z)
def pM:getL n (⟨h,.str n t,v⟩::es)=some (some v):=by unfold getL;rw [find?_cons_of_pos (by exact jH n)]
def OB{n m:Str}(a:m≠n):getL n (⟨h,.str m t,v⟩::es)=getL n es:=by unfold getL;rw [find?_cons_of_neg (by exact PN a),any_cons];exact congrArg (λb=>match es.find? λe=>e.key.isStr n with|some e=>some (some e.val)|none=>if b=true then none else some none) (Bool.false_or _)
section
variable {X:Ctx} {w:Wd} {fs:List (Nat×AV)} {es:List DictEntry}
abbrev KeysIn(c:Nat)(fs:List (Nat×AV)):Prop:=∀p∈fs,sd c p.1=true
inductive CR(X:Ctx)(w:Wd)(es:List DictEntry)(m:Nat)(av:AV):Prop
 |mk:∀v,getL (X.N.atN m) es=some (some v)->Sa w av v->CR X w es m av
def FJ(inj:∀k,sd c k=true->X.N.atN k=X.N.atN m->k=m)(R:xd X w fs es):KeysIn c fs->zy fs m=some av->CR X w es m av:=by
 induction R with
 |nil=>exactλx h=>Cb h| @cons k j t v fs es a r i=>
  intro b h;unfold zy at h;by_cases e:k=m;·rw [if_pos e] at h;exact ⟨v,e▸pM,Option.some.inj h▸a⟩
  ·rw [if_neg e] at h;exact (i (λp g=>b p (.tail _ g)) h).rec λu d f=>⟨u,(OB λz=>e (inj k (b _ (.head _)) z)).trans d,f⟩
def DH(R:xd X w fs es):(∀p∈fs,X.N.atN p.1≠n)->getL n es=some none:=R.rec (motive:=λfs es x=>(∀p∈fs,X.N.atN p.1≠n)->getL n es=some none) (λx=>rfl) λx x c a=>(OB (a _ (.head _))).trans (c λp b=>a p (.tail _ b))
def CH(R:xd X w fs es):∀e∈es,e.refKey=false:=R.rec (motive:=λx es x=>∀e∈es,e.refKey=false) (λx h=>nomatch h) λx x a=>forall_mem_cons.mpr ⟨rfl,a⟩
noncomputable abbrev Ctx.put(X:Ctx)(m:Nat)(t:Tok)(v:Value):List DictEntry->List DictEntry:=putL (X.N.atN m) (keyHash X.w.params (X.N.atN m)) (.str (X.N.atN m) t) v
def HJ{c m:Nat}(inj:∀k,sd c k=true->X.N.atN k=X.N.atN m->k=m)(f:Sa w av v)(R:xd X w fs es):KeysIn c fs->xd X w (qg fs m av) (X.put m t v es):=by
 induction R with
 |nil=>exactλx=> .cons f .nil| @cons k x y b fs es a r h=>
  intro d;unfold qg Ctx.put putL;by_cases e:k=m;·subst e;rw [if_pos rfl,if_pos (by exact jH _)];exact .cons f r
  ·rw [if_neg e,if_neg (by exact PN λz=>e (inj k (d _ (.head _)) z))];exact .cons a (h λp g=>d p (.tail _ g))
def cN(h:sd c m=true):KeysIn c fs->KeysIn c (qg fs m x):=fs.rec (motive:=λfs=>KeysIn c fs->KeysIn c (qg fs m x)) (λa=>forall_mem_cons.mpr ⟨h,λa h=>nomatch h⟩) λq r e b=>by unfold qg;exact (Classical.em (q.1=m)).elim (λz=>if_pos z▸forall_mem_cons.mpr ⟨b q (.head _),λp d=>b p (.tail _ d)⟩) λz=>if_neg z▸forall_mem_cons.mpr ⟨b _ (.head _),e λp d=>b p (.tail _ d)⟩
def SP:(qg fs m x).length<=fs.length+1:=fs.rec (motive:=λfs=>(qg fs m x).length<=fs.length+1) (Nat.le_refl _) λq r a=>by unfold qg;exact (Classical.em (q.1=m)).elim (λz=>if_pos z▸le_succ _) λz=>if_neg z▸succ_le_succ a
def GJ(R:xd X w fs es):fs.length=es.length:=R.rec (motive:=λfs es x=>fs.length=es.length) rfl λx x b=>congrArg Nat.succ b
end
section
variable {X:Ctx} {F:Fr} {w w':Wd} {st:ia}
def Ri.set(d:Up w w'){os:List PO}(R:Ri X w as os):∀{i:Nat} {a:SA} {o:PO},(as.map SA.mu).Nodup->(∀b,b≠a.mu->w'.h.get? b=w.h.get? b)->as[i]? =some a->jw X w' a o->Ri X w' as (os.set i o):=by induction R with|nil=>exactλc c e c=>Cb e| @cons g r h s x y f=>intro i a o nd k e p;have nd:=nodup_cons.mp nd;induction i with|zero=>(injection e with e;subst e);exact .cons p (Ri.up d (λb hb=>k _ λz=>nd.1 (z▸mem_map_of_mem hb)) y)|succ i=>exact .cons (x.up d (k _ λz=>nd.1 (z▸mem_map_of_mem (mem_of_getElem? e)))) (f nd.2 k e p)
def Ea.upd(I:Ea X l w st)(j:w.sa[i]? =some a)(d:∀b,b≠a.mu->h'.get? b=w.h.get? b)(k:(h'.get? a.mu).isSome)(p:jw X (w.at h' tk) a o):Ea X l (w.at h' tk) (st.set i o)/\Step w (w.at h' tk):=have c:a.mu∈Td w.sa:=mem_map_of_mem (mem_of_getElem? j)
 have alive:∀b,(w.h.get? b).isSome->(h'.get? b).isSome:=λb hb=>(Classical.em (b=a.mu)).elim (λz=>z▸k) λz=>(d b z).symm▸hb
 ⟨⟨I.base,λb x e=>(d b λz=>Zd e (z▸(I.muG _ c).1)).trans (I.gin _ _ e),Ri.set (w:=w) (w':=w.at h' tk) .at I.store I.nd d j p,λb hb=>⟨(I.muG b hb).1,alive b (I.muG b hb).2⟩,I.nd,Nj (λe g L f=>(I.frD e g L f).imp λo h=>h.imp λes h=>h.imp λn h=>⟨(d L λz=>(I.frS e g L f).2 (z▸c)).trans h.1,h.2⟩) I.frames,I.frS,λe g L f=>(I.frD e g L f).imp λo h=>h.imp λes h=>h.imp λn h=>⟨(d L λz=>(I.frS e g L f).2 (z▸c)).trans h.1,h.2⟩⟩,⟨λy y e=>e,λy y e=> .inl e,λb m hb e=> .inl ((d b λz=>hb (z▸c)).trans e),alive,Fi w,rfl,rfl⟩⟩
noncomputable abbrev MJ(X:Ctx)(c:Nat)(d:Addr):Obj:=⟨.ref (X.N.clsA c),some d,.plain,#[]⟩
inductive ER(X:Ctx)(w:Wd)(c:Nat)(fs:List (Nat×AV))(i:Nat):Value->Prop
 |mk:∀x d es n,w.sa[i]? =some (.inst x d)->w.G x=some (MJ X c d)->w.h.get? d=some (dictOf es n)->xd X w fs es->KeysIn c fs->es.length<=100->ER X w c fs i (.ref x)
def jA(I:Ea X l w st)(g:st[i]? =some (.inst c fs))(e:Sa w (.o i) v):ER X w c fs i v:=e.elim λf e=>(I.store.back g).elim λa b=>by cases Option.some.inj (e.1.symm.trans b.1);rw [e.2];induction f with|dl y=>exact b.2.elim|inst x d=>exact rD.rec (λes n r1 r2 r3 r4 r5=>⟨x,d,es.toList,n,b.1,r1,r2,r3,r4,by rw [length_toList];exact r5⟩) b.2
def jv(I:Ea X l w st)(g:w.G x=some (MJ X c d))(a:w.h.get? d=some (dictOf es n)):InstAt w.h x (MJ X c d) (X.N.clsA c) (some (dictOf es n)):=⟨I.gin _ _ g,rfl,rfl,a⟩
def Wv(r:Sa w av v):handedIn v=true:=by induction av with|v f=>exact wa.casesOn (motive_1:=λx v x=>handedIn v=true) r rfl (λx=>rfl) (λx x=>rfl) (λx x=>rfl) (λx x=>rfl) (λx x x x=>rfl) λx x x x=>rfl|o i=>exact r.elim λa h=>h.2▸rfl
def xT(B:ObjOK X)(I:Ea X l w st){E:Value->Shared->Prop}(r:st[i]? =some (.inst c fs))(t:Sa w (.o i) v)(b:sd c m=true)(q:zy fs m=some av)(h:∀u,Sa w av u->Q u {w.s with toks:=w.s.toks+1}):wpAny X.M A (getAttr v (X.N.atN m) true) Q E w.s:=(jA I r t).rec (motive:=λv a=>wpAny X.M A (getAttr v (X.N.atN m) true) Q E w.s) λx d es n a g p o f a=>(FJ (λk f e=>B.inj c k m f b e) o f q).rec λu s j=>have C:=B.cls c m (.inl b)
  get_value (B.kin.keeps I.keep0) (jv I g p) (plainGet_of C.get).1 (findObj_own C.dict (B.fld c m b) rfl s) (Wv j) (h u j)
def pU(B:ObjOK X)(I:Ea X l w st){E:Value->Shared->Prop}(P:st[i]? =some (.inst c fs))(W:Sa w (.o i) v)(z:sd c m=true)(ru:Sa w av u)(hz:fs.length<90) (h:∀w',Step w w'->Ea X l w' (st.set i (.inst c (qg fs m av)))->Q () w'.s):wpAny X.M A (setAttr v (X.N.atN m) u) Q E w.s:=by
 refine (jA I P W).rec (motive:=λv y=>wpAny X.M A (setAttr v (X.N.atN m) u) Q E w.s) λx d es n M g q G D y=> ?_;have C:=B.cls c m (.inl z);have j:=B.kin.keeps I.keep0;have V:takerIn X.K (X.N.clsA c) (X.N.atN m)=some none:=by unfold takerIn;rw [B.fld c m z];rfl
 refine set_plain j (jv I g q) C.set (osa_open (s:={w.s with toks:=w.s.toks+1}) j (jv I g q) C.over V λb=>(any_some C.dict).elim λcd H=> ?_);refine wpAny_bind (wpAny_pure (wpAny_bind (wpAny_bind (wpAny_loadPart (I.gin _ _ g) (wpAny_bind ((looks_clsIn j H.1).at ?_))))));rw [H.2];refine wpAny_pure (a:=some d) (wpAny_bind (wpAny_pure (wpAny_bind ?_)));unfold nsSet;refine wpAny_bind (wpAny_bind (wpAny_askSetting (wpAny_pure (wpAny_bind (wpAny_mkText (wpAny_bind (wpAny_loadPart q ?_)))))));have p:=HJ (t:=w.s.toks+1) (λk D e=>B.inj c k m D z e) ru G D;have r:(X.put m (w.s.toks+1) u es).length<=100:=by rw [<-GJ p];exact Nat.le_trans SP (Nat.le_trans hz (by decide))
 have f:=get?_update_self (putName (X.N.atN m) (keyHash X.w.params (X.N.atN m)) (.str (X.N.atN m) (w.s.toks+1)) u) q (by rw [putName_dict];rfl);rw [putName_dict] at f;dsimp only [dictOf];rw [show aRefKeyMayBeTheName (X.N.atN m) es.toArray=false from (aRefKeyMayBeTheName_at _ _).trans (by rw [show (es.toArray.any λx=>x.refKey)=false from (any_toArray ..).trans (any_eq_false.mpr λe O=>by rw [CH G e O];exact Bool.false_ne_true),Bool.and_false])];have L:=I.upd (o:= .inst c (qg fs m av)) (tk:=w.s.toks+1+1) M (λb hb=>get?_update_other _ _ (Ne.symm hb)) (eg f) (rD.mk (X.put m (w.s.toks+1) u es).toArray _ g f (p.up .at) (cN z D) (by rw [size_toArray];exact r));exact wpAny_updatePart q (wpAny_bind (wpAny_lookBehind f (by exact pastItsLine_dict (by rw [size_toArray];exact Nat.le_trans r (by decide))) (wpAny_pure (h _ L.2 L.1))))
end
noncomputable abbrev Po(X:Ctx)(n:Str)(v:Value):Prop:=X.mg n=none/\X.mb n=some v
structure ib(X:Ctx):Prop extends ObjOK X where
 ns:X.g0.Ns mainGlobals X.mg
 nb:X.g0.Ns builtinsNs X.mb
 nolimit:X.g0.NoLimit
 b_len:Po X "len" (.builtin "len")
 b_list:Po X "list" (.type "list")
 b_bytes:Po X "bytes" (.type "bytes")
 b_int:Po X "int" (.type "int")
 b_sum:Po X "sum" (.builtin "sum")
 b_range:Po X "range" (.type "range")
 b_enum:Po X "enumerate" (.type "enumerate")
abbrev Back(Q:Value->Shared->Prop)(E:Value->Shared->Prop)(r:Result)(s':Shared):Prop:=match r with| .ok (.ret v)=>Q v s'| .ok x=>False| .error e=>E e s'
def vr(X:Ctx)(R:Heap->Wd->b->Value->Prop)(k:Nat)(f:Value)(a:List AV)(st:ia)(m:Res b):Prop:=∀F w vs Q E,qr F.A F.l k->Ea X F.l w st->Qd w a vs->Oa X (R w.h) F w m Q E->codeAny X.M F.A (.call f ⟨vs,[]⟩) (Back Q E) w.s
abbrev RV:Heap->Wd->AV->Value->Prop:=λx=>Sa
inductive fJ(X:Ctx)(x:Str)(P:Addr->Prop):Prop
 |mk:∀a o fd,X.mg x=some (.ref a)->X.g0.get? a=some o->o.data= .func fd->P a->fJ X x P
inductive LD(X:Ctx)(x:Str)(f:FV):Prop
 |mk:∀v,X.mg x=some v->wa X.g0.get? f v->LD X x f
structure pe(X:Ctx)(O:wb)(T:Tab)(k:Nat):Prop where
 glob:∀g f x,O.glob g=some f->T.glob[g]? =some x->LD X x f
 call:∀f x,T.fns[f]? =some x->fJ X x λa=>∀args st,vr X RV k (.ref a) args st (O.call f args st)
 cls:∀c x,T.cls[c]? =some x->X.mg x=some (.ref (X.N.clsA c))
 ats:∀m x,T.ats[m]? =some x->x=X.N.atN m
 meth:∀c m args st,Nb c m=true->vr X RV k (.ref (X.N.metA c m)) args st (O.meth c m args st)
section
variable {X:Ctx} {O:wb} {T:Tab} {k:Nat}
noncomputable abbrev ROI:Wd->Option Int->Value->Prop:=λx a v=>IsPart v a
def Md(m:Res AV):Res Bool:=Mine.onB m λb st=>ok b st
def Ha(X:Ctx)(O:wb)(T:Tab)(k:Nat)(e:E):Prop:=∀x F w sl a st,va T e x=true->FOK T k F->J X F T w sl a st->ub X Sa F w (pa O e sl st) (eval x F.env)
def He(X:Ctx)(O:wb)(T:Tab)(k:Nat)(e:E):Prop:=∀x F w sl a st,va T e x=true->FOK T k F->J X F T w sl a st->ub X RB F w (Md (pa O e sl st)) (isTrue x F.env (eval x F.env))
def ri(X:Ctx)(O:wb)(T:Tab)(k:Nat)(e:E):Prop:=∀xs pos F w sl a st,qe T e xs=true->FOK T k F->J X F T w sl a st->ub X Qd F w (Ef O e sl st) (spliced (backTo pos (starEach xs F.env)))
def Et{R:Res e->Prop}(m:Res e)(b:R none)(c:∀a st,R (some (.ok a,st)))(d:∀t st,R (some (.error t,st))):R m:=by induction m with|none=>exact b|some p=>induction p with|mk r st=>induction r<;>first|exact c _ _|exact d _ _
def avr{R:AV->Prop}(a:AV)(c:∀i,R (.o i))(d:∀b,R (.v (.bool b)))(e:∀f,(∀b,f≠ .bool b)->R (.v f)):R a:=by induction a with|o i=>exact c i|v f=>cases f<;>first|exact d _|exact e _ λx z=>nomatch z
def SM{f:FV}{st:ia}{k:Bool->ia->Res a}(h:∀b,f≠ .bool b):Mine.onB (some (.ok (.v f),st)) k=none:=by cases f<;>first|rfl|exact absurd rfl (h _)
def Oo{f:FV->ia->Res AV}:Md (Mine.onV m f)=Mine.onV m λx st=>Md (f x st):=Et (R:=λm=>Md (Mine.onV m f)=Mine.onV m λx st=>Md (f x st)) m rfl (λa st=>by induction a<;>rfl) λy y=>rfl
def bB{b:Type}{m:Res AV}{f:Bool->ia->Res b}:Mine.onB m f=bnd (Md m) f:=Et (R:=λm=>Mine.onB m f=bnd (Md m) f) m rfl (λa st=>avr (R:=λa=>Mine.onB (some (.ok a,st)) f=bnd (Md (some (.ok a,st))) f) a (λx=>rfl) (λx=>rfl) λg h=>(SM h).trans (by unfold Md;rw [SM h];rfl)) λx x=>rfl
def cV{f:Bool->ia->Res AV}:Md (bnd m f)=bnd m λb st=>Md (f b st):=Et (R:=λm=>Md (bnd m f)=bnd m λb st=>Md (f b st)) m rfl (λx x=>rfl) λx x=>rfl
def Mo:Md (Mine.onB m f)=bnd (Md m) λb st=>Md (f b st):=(congrArg Md bB).trans cV
def nH:Md (Mine.onB m λy st=>ok (.v (.bool y)) st)=Md m:=Mo.trans (bB (f:=λb st=>ok b st)▸Et (R:=λm=>bnd (Md m) (λb st=>Md (ok (.v (.bool b)) st))=bnd (Md m) λb st=>ok b st) m rfl (λx x=>rfl) λx x=>rfl)
def rb{R':Wd->a->b->Prop}{F:Fr}{w:Wd}{E:Value->Shared->Prop}(e:m=m')(c:Oa X R' F w m Q E):Oa X R' F w m' Q E:=e▸c
def ub.onT{R':Wd->i->j->Prop}{F:Fr}{w:Wd}{m:Res AV}{E:Value->Shared->Prop}(D:ub X RB F w (Md m) t) (L:Ab F.env T.xs w sl h) (c:Oa X R' F w (Mine.bnd (Md m) f) Q' E) (go:∀b d w₁,Step w w₁->J X F T w₁ sl h d->Oa X R' F w₁ (f b d) Q' E->Q b w₁.s):wpAny X.M F.A t Q E w.s:=D.go L c λa d w₁ v S J e g=>e▸go a d w₁ S J g
def ub.test(D:ub X Sa F w m t)(L:Ab F.env T.xs w sl g)(f:isTrue x F.env t=(do let v<-t;standAt x.pos;holding [v] (truthy v))):ub X RB F w (Md m) (isTrue x F.env t):=λa a c=>isTrue_plain (D.onB L c λb e w₁ S J d=>wpAny_truthy_bool (d w₁ b .refl J.g rfl)) f
def Ea.mono{w:Wd}{st:ia}(I:Ea X l w st){f:FV}(r:wa X.g0.get? f v):wa w.G f v:=wa.mono I.base r
section
variable {F:Fr} {w:Wd} {sl:List Slot} {ow:Nat->Addr} {st:ia} {x:Str} {pos:Pos} {v:Value} {Q:Value->Shared->Prop} {E:Value->Shared->Prop}
def Qf(B:ib X)(a:wc F.env T)(I:Ea X F.l w st)(c:Kb T.names x .globalImplicit=true)(b:(x==("__debug__":Str))=false)(d:X.mg x=some v)(h:Q v w.s):wpAny X.M F.A (eval (.Name x pos) F.env) Q E w.s:=Name_function_global a.kind (a.of (Vb c)) (loadGlobal_global (a.globals▸B.ns.keeps I.keep0) d h) b
def gs(B:ib X)(a:wc F.env T)(I:Ea X F.l w st)(d:Kb T.names x .globalImplicit=true)(c:(x==("__debug__":Str))=false)(b:Po X x v)(h:Q v w.s):wpAny X.M F.A (eval (.Name x pos) F.env) Q E w.s:=Name_function_global a.kind (a.of (Vb d)) (loadGlobal_builtin (a.globals▸B.ns.keeps I.keep0) b.1 (a.builtins▸B.nb.keeps I.keep0) b.2 h) c
def uy{i:Nat}{P:Prop}(h:Zo T g i x=true)(k:g[i]? =some x->Kb T.names x .globalImplicit=true->(x==("__debug__":Str))=false->P):P:=a2 h λh c=>a2 h λa b=>k (at?_iff a) b (Th c)
def sI{P:Prop}(h:isVar T i x=true)(k:T.xs[i]? =some x->(x==("__debug__":Str))=false->P):P:=a2 h λa b=>k (at?_iff a) (Th b)
def Vr{P:Prop}(h:isLocal T i x=true)(k:T.xs[i]? =some x->T.names.lookup x=some .local->P):P:=a2 h λa b=>k (at?_iff a) (Vb b)
def Ay(f:wc F.env T)(j:w.h.Ns F.env.locals m)(b:Kk F.env w m x v)(h:Q v w.s):wpAny X.M F.A (loadName F.env x) Q E w.s:=b.rec (λd e=>wpAny_loadName_local f.kind d j e h) λc o d e g i a=>wpAny_loadName_cell f.kind d e ⟨_,g,i⟩ h
def Dv{a:AV}{P:Prop}(h:Lb z=some a)(k:z=some (.a a)->P):P:=by
 unfold Lb at h;split at h;·exact k (Option.some.inj h▸rfl)
 ·exact Cb h
def xg(d:wc F.env T)(L:Ab F.env T.xs w sl ow)(f:isVar T i x=true){a:AV}(e:sl[i]? =some (.a a))(h:∀v,Sa w a v->Q v w.s):wpAny X.M F.A (eval (.Name x pos) F.env) Q E w.s:=sI f λb c=>L.nm.rec λm g q=>Br.rec (λv j r=>wpAny_Name (Ay d g j (h v r)) c) (q i x (.a a) b e)
def Tj(d:wc F.env T)(L:Ab F.env T.xs w sl ow)(e:isVar T i x=true){l:List FV}(b:sl[i]? =some (.own l))(h:Q (.ref (ow i)) w.s):wpAny X.M F.A (eval (.Name x pos) F.env) Q E w.s:=sI e λa c=>L.nm.rec λm f q=>wpAny_Name (wpAny_loadName_local d.kind (q i x (.own l) a b).1 f (q i x (.own l) a b).2.1 h) c
end
def vg(h:isPlain x=true):starEach (x::r) env=(false,eval x env)::starEach r env:=by cases x<;>first|rfl|exact Ec h
def Se{A:Around}{E:Value->Shared->Prop}{s:Shared}{pos:Pos}(b:∀x∈xs,isPlain x=true)(h:wpAny M A (spliced (backTo pos (starEach xs env))) (λvs s'=>Q ⟨vs,[]⟩ s') E s):wpAny M A (evalArgs f true (backTo pos (starEach xs env)) []) Q E s:=by induction xs with|nil=>unfold evalArgs;show wpAny M A (spliced []>>=_) Q E s;exact wpAny_bind (wpAny_mono h (λvs s' h'=>wpAny_bind (wpAny_pure (wpAny_holding (wpAny_bind (wpAny_pure (wpAny_bind (wpAny_pure (wpAny_pure h')))))))) λa a x=>x)|cons x r=>rw [vg (b x (.head _))] at h|-;exact evalArgs_plain h
def Fx(a:isPlain x=true)(h:∀x∈l,isPlain x=true):∀y∈x::l,isPlain y=true:=forall_mem_cons.mpr ⟨a,h⟩
def Ie:∀(e:E) {xs:List Expr},qe T e xs=true->∀x∈xs,isPlain x=true:=by intro e;induction e with|nil=>exactλh=>vM h (P:=λxs=>∀x∈xs,isPlain x=true) λx f=>nomatch f|cons a es b g=>exactλh=>qI h (P:=λxs=>∀x∈xs,isPlain x=true) λy l b c d=>forall_mem_cons.mpr ⟨c,g d⟩| _=>exactλh=>Ec h
section
variable {F:Fr} {w:Wd} {st:ia} {Q:Value->Shared->Prop} {E:Value->Shared->Prop}
def HD{K:Const}{n:Nat}{p:Pos}(h:rJ c K=true)(q:∀v tk,wa w.G c v->Q v {w.s with toks:=tk}):wpAny X.M F.A (eval (.Constant K n p) F.env) Q E w.s:=by
 cases c with
 |none=>induction K<;>first|exact Ec h|exact wpAny_Constant_none (q _ _ .none)
 |bool b=>induction K<;>first|exact Ec h|exact wpAny_Constant_bool (q _ _ (beq_iff_eq.mp h▸ .bool _))
 |int b=>induction K<;>first|exact Ec h|exact wpAny_Constant_int (q _ _ (beq_iff_eq.mp h▸ .int _ _))
 |str b=>induction K<;>first|exact Ec h|exact wpAny_Constant_str (q _ _ (vb h▸ .str _ _))
 |bytes b=>induction K<;>first|exact Ec h|exact Constant_bytes (q _ _ (.bytes _ (beq_iff_eq.mp h).symm))
 |tup x=>induction K<;>exact Ec h
 |lst x=>induction K<;>exact Ec h
end
def xU(c:FV):Ha X O T k (.cst c):=λx F w sl h st e g b Q E d=>QE e (P:=λx=>wpAny X.M F.A (eval x F.env) Q E w.s) λK n p f=>HD f λv tk r=>Xd.tok (a:=AV.v c) d b.g tk r
def IU(i:Nat):Ha X O T k (.var i):=λx F w sl g st b e d Q E c=>jF b (P:=λx=>wpAny X.M F.A (eval x F.env) Q E w.s) λx p b=>Oa.lift c λa q c=>Dv q λq=>xg e.e d.l b q λv f=>c w v .refl d.g f
def LQ(B:ib X)(d:pe X O T k)(g:Nat):Ha X O T k (.glob g):=λx F w sl n st b j a Q E c=>Yz b (P:=λx=>wpAny X.M F.A (eval x F.env) Q E w.s) λx p b=>uy b λe h i=>Oa.retV c λf q c=>(d.glob g f x q e).rec λv l m=>Qf B j.e a.g h i l (c w v .refl a.g (a.g.mono m))
def vU(B:Operator)(a b:E)(z:Ha X O T k a)(hb:Ha X O T k b):Ha X O T k (.bin B a b):=λx F w sl t st A s o Q E c=>OE A (P:=λx=>wpAny X.M F.A (eval x F.env) Q E w.s) λl r p c1 c2=>wpAny_BinOp ((z l F w sl t st c1 s o).onV o.l c λf e w₁ v q d j c=>(hb r F w₁ sl t e c2 s d).onV d.l c λg n y u i h m c=>XS h.g (j.mono i.grow) m c)
def wU(D:CmpOp)(a b:E)(B:Ha X O T k a)(hb:Ha X O T k b):Ha X O T k (.cmp D a b):=λx F w sl y st C n s Q E c=>PE C (P:=λx=>wpAny X.M F.A (eval x F.env) Q E w.s) λl r p c1 c2 c3=>wpAny_Compare1 ((B l F w sl y st c1 n s).onV s.l c λf h w₁ v t d j c=>(hb r F w₁ sl y h c2 n d).onV d.l c λg o A u i e m c=>c.retB λz q c=>yj e.g (j.mono i.grow) m q n.a.u64 (c.bool e.g)) c3
def Px{st:ia}:Md (Mine.retB m st)=lift m st:=by induction m<;>rfl
def fV(G:CmpOp)(a b:E)(C:Ha X O T k a)(hb:Ha X O T k b):He X O T k (.cmp G a b):=λx F w sl B st D s y Q E c=>PE D (P:=λx=>wpAny X.M F.A (isTrue x F.env (eval x F.env)) Q E w.s) λl r p c1 c2 c3=>wpAny_isTrue_Compare1 ((C l F w sl B st c1 s y).onV y.l (rb (Oo (m:=pa O a sl st)) c) λf d w₁ v A e j c=>(hb r F w₁ sl B d c2 s e).onV e.l (rb (Oo (m:=pa O b sl d)) c) λg t o u i h n c=>Oa.lift (rb Px c) λz q c=>yj h.g (j.mono i.grow) n q s.a.u64 (wpAny_truthy_bool (c o z .refl h.g rfl))) c3
end
section
variable {X:Ctx} {O:wb} {T:Tab} {k:Nat}
def DU(a:E)(i:Ha X O T k a):Ha X O T k (.not a):=λx F w sl l st j h f Q E c=>YE j (P:=λx=>wpAny X.M F.A (eval x F.env) Q E w.s) λx p c1=>UnaryOp_ ((i x F w sl l st c1 h f).onB f.l c λb e w₁ g d c=>not_of (wpAny_truthy_bool (c w₁ _ .refl d.g (.bool _))))
def iV(a:E)(i:He X O T k a):He X O T k (.not a):=λx F w sl l st j h f Q E c=>YE j (P:=λx=>wpAny X.M F.A (isTrue x F.env (eval x F.env)) Q E w.s) λx p c1=>isTrue_not ((i x F w sl l st c1 h f).onT f.l (rb (Mo (m:=pa O a sl st)) c) λb e w₁ g d c=>c w₁ _ .refl d.g rfl)
def zU(t a b:E)(n:He X O T k t)(j:Ha X O T k a)(hb:Ha X O T k b):Ha X O T k (.ite t a b):=λx F w sl g st l f h Q E c=>SE l (P:=λx=>wpAny X.M F.A (eval x F.env) Q E w.s) λy u v p c1 c2 c3=>IfExp_ ((n y F w sl g st c1 f h).onT h.l (rb (bB (m:=pa O t sl st)) c) λz d w₁ i e c=>by induction z with|true=>exact j u F w₁ sl g d c2 f e _ _ c|false=>exact hb v F w₁ sl g d c3 f e _ _ c)
def gV(t a b:E)(n:He X O T k t)(j:He X O T k a)(hb:He X O T k b):He X O T k (.ite t a b):=λx F w sl g st l f h Q E c=>SE l (P:=λx=>wpAny X.M F.A (isTrue x F.env (eval x F.env)) Q E w.s) λy u v p c1 c2 c3=>isTrue_IfExp ((n y F w sl g st c1 f h).onT h.l (rb (Mo (m:=pa O t sl st)) c) λz d w₁ i e c=>by induction z with|true=>exact j u F w₁ sl g d c2 f e _ _ c|false=>exact hb v F w₁ sl g d c3 f e _ _ c)
abbrev gJ(X:Ctx)(T:Tab)(F:Fr)(sl:List Slot)(a:Nat->Addr)(Z:Wd->ia->Prop):Prop:=∀w st,J X F T w sl a st->Z w st
def Fq{x y:Expr}{F:Fr}{st:ia}{E:Value->Shared->Prop}(o:Ha X O T k a)(n:FOK T k F)(i:J X F T w sl m st)(c1:va T a x=true)(D:gJ X T F sl m λw st=>ub X Sa F w (pa O b sl st) (eval (.BoolOp .And (y::r) p) F.env)) (c:Oa X Sa F w (pa O (.and a b) sl st) Q E):wpAny X.M F.A (eval (.BoolOp .And (x::y::r) p) F.env) Q E w.s:=BoolOp_and ((o x F w sl m st c1 n i).onB i.l c λz e w₁ j d c=>wpAny_truthy_bool (by
  induction z with|false=>exact c w₁ _ .refl d.g (.bool _)|true=>exact (D w₁ e d).onB d.l c λz h g l f c=>c g _ .refl f.g (.bool _)))
def snd_and(a b:E)(f:Ha X O T k a)(hb:Ha X O T k b):Ha X O T k (.and a b):=λx F w sl g st h d e Q E c=>ME h (P:=λx=>wpAny X.M F.A (eval x F.env) Q E w.s)
 (λx y p c1 c2=>Fq f d e c1 (λw st J Q E c=>BoolOp_one (hb y F w sl g st c2 d J Q E c)) c) λx y z r p c1 c2=>Fq f d e c1 (λw st J=>hb _ F w sl g st c2 d J) c
def tr{x y:Expr}{F:Fr}{st:ia}{E:Value->Shared->Prop}(o:Ha X O T k a)(n:FOK T k F)(i:J X F T w sl m st)(c1:va T a x=true)(D:gJ X T F sl m λw st=>ub X Sa F w (pa O b sl st) (eval (.BoolOp .Or (y::r) p) F.env)) (c:Oa X Sa F w (pa O (.or a b) sl st) Q E):wpAny X.M F.A (eval (.BoolOp .Or (x::y::r) p) F.env) Q E w.s:=BoolOp_or ((o x F w sl m st c1 n i).onB i.l c λz e w₁ j d c=>wpAny_truthy_bool (by
  induction z with|true=>exact c w₁ _ .refl d.g (.bool _)|false=>exact (D w₁ e d).onB d.l c λz h g l f c=>c g _ .refl f.g (.bool _)))
def DZ(a b:E)(f:Ha X O T k a)(hb:Ha X O T k b):Ha X O T k (.or a b):=λx F w sl g st h d e Q E c=>KJ h (P:=λx=>wpAny X.M F.A (eval x F.env) Q E w.s)
 (λx y p c1 c2=>tr f d e c1 (λw st J Q E c=>BoolOp_one (hb y F w sl g st c2 d J Q E c)) c) λx y z r p c1 c2=>tr f d e c1 (λw st J=>hb _ F w sl g st c2 d J) c
def Jq{x:Expr}{v:Sem Value}{f:Nat->Addr}{st:ia}{Q:Bool->Shared->Prop}{E:Value->Shared->Prop}(j:He X O T k a)(i:FOK T k F)(g:J X F T w sl f st)(c1:va T a x=true)(D:gJ X T F sl f λw st=>ub X RB F w (Md (pa O b sl st)) (isTrue (.BoolOp .And r p) F.env v)) (c:Oa X RB F w (Md (pa O (.and a b) sl st)) Q E):wpAny X.M F.A (isTrue (.BoolOp .And (x::r) p) F.env v) Q E w.s:=isTrue_and ((j x F w sl f st c1 i g).onT g.l (rb (Mo (m:=pa O a sl st)) c) λz d w₁ h e c=>by induction z with|false=>exact c w₁ _ .refl e.g rfl|true=>exact D w₁ d e _ _ (rb (nH (m:=pa O b sl d)) c))
def bV(a b:E)(f:He X O T k a)(hb:He X O T k b):He X O T k (.and a b):=λx F w sl g st h d e Q E c=>ME h (P:=λx=>wpAny X.M F.A (isTrue x F.env (eval x F.env)) Q E w.s)
 (λx y p c1 c2=>Jq f d e c1 (λw st J Q E c=>isTrue_and (wpAny_mono (hb y F w sl g st c2 d J Q E c) (λb s' q=>by induction b with|true=>exact isTrue_and_nil q|false=>exact q) λu u q=>q)) c) λx y z r p c1 c2=>Jq f d e c1 (λw st J=>hb _ F w sl g st c2 d J) c
def Wr{x:Expr}{v:Sem Value}{f:Nat->Addr}{st:ia}{Q:Bool->Shared->Prop}{E:Value->Shared->Prop}(j:He X O T k a)(i:FOK T k F)(g:J X F T w sl f st)(c1:va T a x=true)(D:gJ X T F sl f λw st=>ub X RB F w (Md (pa O b sl st)) (isTrue (.BoolOp .Or r p) F.env v)) (c:Oa X RB F w (Md (pa O (.or a b) sl st)) Q E):wpAny X.M F.A (isTrue (.BoolOp .Or (x::r) p) F.env v) Q E w.s:=isTrue_or ((j x F w sl f st c1 i g).onT g.l (rb (Mo (m:=pa O a sl st)) c) λz d w₁ h e c=>by induction z with|true=>exact c w₁ _ .refl e.g rfl|false=>exact D w₁ d e _ _ (rb (nH (m:=pa O b sl d)) c))
def n4(a b:E)(f:He X O T k a)(hb:He X O T k b):He X O T k (.or a b):=λx F w sl g st h d e Q E c=>KJ h (P:=λx=>wpAny X.M F.A (isTrue x F.env (eval x F.env)) Q E w.s)
 (λx y p c1 c2=>Wr f d e c1 (λw st J Q E c=>isTrue_or (wpAny_mono (hb y F w sl g st c2 d J Q E c) (λb s' q=>by induction b with|false=>exact isTrue_or_nil q|true=>exact q) λu u q=>q)) c) λx y z r p c1 c2=>Wr f d e c1 (λw st J=>hb _ F w sl g st c2 d J) c
def Kq(h:behindInMarks q' r'=false):lastMarks [q,q'] [r,r']=false:=by simpa [lastMarks] using h
def Oa.cmp2{R':Wd->a->b->Prop}{o:Option Bool}{E:Value->Shared->Prop}{P:Prop}(c:Oa X R' F w (match o with|some u=>br u m m'|none=>none) Q' E)(k:∀u,o=some u->Oa X R' F w (br u m m') Q' E->P):P:=by induction o with|some u=>exact k u rfl c|none=>exact c.elim
def JQ(p q:CmpOp)(a b d:E)(ha:Ha X O T k a)(hb:Ha X O T k b)(hd:Ha X O T k d):Ha X O T k (.cmp2 p q a b d):=λx F w sl G st hc B L Q E c=>Wz hc (P:=λx=>wpAny X.M F.A (eval x F.env) Q E w.s) λl r r' ps c1 c2 c3 c4=>Compare_chain ((ha l F w sl G st c1 B L).onV L.l c λf o w₁ v M i C c=>chain_link ((hb r F w₁ sl G o c2 B i).onV i.l c λg s n u t h m c=>c.cmp2 λz e c=>yj h.g (C.mono t.grow) m e B.a.u64 (wpAny_truthy_bool (by
  induction z with|false=>exact c n _ .refl h.g (.bool _)|true=>exact chain_last ((hd r' F n sl G s c3 B h).onV h.l c λy H W V A j D c=>c.retB λz e c=>yj j.g (m.mono A.grow) D e B.a.u64 (c.bool j.g)))))) (Kq c4)
def pR(p q:CmpOp)(a b d:E)(ha:Ha X O T k a)(hb:Ha X O T k b)(hd:Ha X O T k d):He X O T k (.cmp2 p q a b d):=λx F w sl L st hc C V Q E c=>Wz hc (P:=λx=>wpAny X.M F.A (isTrue x F.env (eval x F.env)) Q E w.s) λl r r' ps c1 c2 c3 c4=>isTrue_chain ((ha l F w sl L st c1 C V).onV V.l (rb (Oo (m:=pa O a sl st)) c) λf i w₁ v W n D c=>test_link ((hb r F w₁ sl L i c2 C n).onV n.l (rb (Oo (m:=pa O b sl i)) c) λg j t u A h s c=>by
  induction e:yb p f g with
  |none=>rw [e] at c;exact c.elim|some z=>
   rw [e] at c;exact yj h.g (D.mono A.grow) s e C.a.u64 (wpAny_truthy_bool (by
    induction z with|false=>exact c t _ .refl h.g rfl|true=>exact test_last ((hd r' F t sl L j c3 C h).onV h.l (rb (Oo (m:=pa O d sl j)) c) λy M H u₃ B o G c=>Oa.lift (rb Px c) λz e c=>yj o.g (s.mono B.grow) G e C.a.u64 (wpAny_truthy_bool (c H z .refl o.g rfl))))))) (Kq c4)
def CU(n:Nat):Ha X O T k (.neg n):=λx F w sl e st b d a Q E c=>XE b (P:=λx=>wpAny X.M F.A (eval x F.env) Q E w.s) λf g p3=>UnaryOp_ (wpAny_Constant_int (neg_int (Xd.int c a.g rfl)))
def yU(a i:E)(r:Ha X O T k a)(t:Ha X O T k i):Ha X O T k (.idx a i):=λx F w sl o st s n l Q E c=>RE s (P:=λx=>wpAny X.M F.A (eval x F.env) Q E w.s) λx y p c1 c2 c3=>Subscript_ ((r x F w sl o st c1 n l).onV l.l c λf d w₁ v m b h c=>(t y F w₁ sl o d c2 n b).onI b.l c λi u j q g e c=>rI e.g (h.mono g.grow) c3 c)
def MT{w:Wd}{st:ia}{E:Value->Shared->Prop}{s:Int}(I:Ea X F.l w st)(o:rh w vs a)(r:Sg slice=true)(c:Oa X Sa F w (retV (jc (.lst vs) s) st) Q E):wpAny X.M F.A (subscriptTail value slice (.ref a) (.int s u)) Q E w.s:=c.retV λf e c=>o.rec λi n A p t z b=>lF e
  (λl d v m j q=>by (injection d with d;subst d);have g:w.h.IsList a i:=⟨_,p,rfl,_,rfl⟩;exact (t.get q).elim λy h=>tail_any g.typeIs slot_list_getitem.lookup (wpAny_getItem_list_neg g v (by lia) (by unfold big at m;lia) (x:=y) (by rw [<-getElem?_toList,<-z];exact h.1) (Xd.tok (a:=AV.v f) c I w.s.toks h.2)) (jd r _ _))
  (λl d j m q=>by (injection d with d;subst d);have g:w.h.IsList a i:=⟨_,p,rfl,_,rfl⟩;exact (t.get q).elim λy h=>tail_any g.typeIs slot_list_getitem.lookup (wpAny_getItem_list g j (fits (Xk j q) m) (x:=y) (by rw [<-getElem?_toList];exact h.1) (Xd.tok (a:=AV.v f) c I w.s.toks h.2)) (jd r _ _))
  (λb d=>nomatch d) λb b d=>nomatch d
def ownAt{R:Wd->a->Value->Prop}{z:Option Slot}{f:List FV->Res a}{E:Value->Shared->Prop}{P:Prop}(c:Oa X R F w (match z with|some (.own l)=>f l| _=>none) Q E)(k:∀l,z=some (.own l)->Oa X R F w (f l) Q E->P):P:=by induction z with|none=>exact c.elim|some s=>induction s<;>first|exact k _ rfl c|exact c.elim
def MQ(v:Nat)(i:E)(l:Ha X O T k i):Ha X O T k (.idxv v i):=λx F w sl m st j g d Q E c=>Zz j (P:=λx=>wpAny X.M F.A (eval x F.env) Q E w.s) λx p y q c1 c2 c3=>ownAt c λo b c=>Subscript_ (Tj g.e d.l c1 b ((l y F w sl m st c2 g d).onI d.l c λi n e h f a c=>MT a.g (a.l.own b) c3 c))
def ZN(X:Ctx)(O:wb)(T:Tab)(k:Nat)(e:E):Prop:=∀x F w sl a st,Qab T e x=true->FOK T k F->J X F T w sl a st->ub X ROI F w (QR O e sl st) (evalPart x F.env)
def JS(h:Ha X O T k e):ZN X O T k e:=by intro x F w sl n st b m d Q E c;unfold QR fB at c;induction x with|none=>rw [show isNil e=true from b] at c;exact evalPart_none_step (c w _ .refl d.g .none)|some x=>refine a2 b λl b=> ?_;rw [Th l] at c;exact evalPart_some_step ((h x F w sl n st b m d).onI d.l c λi g f w₁ j a c=>c w₁ _ .refl a.g (.int i g))
def GU(a u t:E)(D:Ha X O T k a)(L:ZN X O T k u)(H:ZN X O T k t):Ha X O T k (.slc a u t):=λx F w sl y st G s A Q E c=>dF G (P:=λx=>wpAny X.M F.A (eval x F.env) Q E w.s) λx l h p M c1 c2 c3=>Subscript_ ((D x F w sl y st c1 s A).onV A.l c λf e w₁ v B b n c=>wpAny_Slice ((L l F w₁ sl y e c2 s b).go b.l c λu g r V j d o c=>(H h F r sl y g c3 s d).go d.l c λt z C W m i q c=>evalPart_none_step (CZ i.g ((n.mono j.grow).mono m.grow) o q c)))
def CS{F:Fr}{p:Nat->Addr}{st:ia}{u:Nat}{E:Value->Shared->Prop}{q:Type}{R:Wd->q->Value->Prop}{f:List FV->ia->Res q}(s:Ha X O T k a)(c1:va T a x=true)(r:FOK T k F)(o:J X F T w sl p st)(c:Oa X R F w (onV (pa O a sl st) λz st=>Ky z (λl=>some l)|>.elim none λl=>if l.length<=big then f l st else none) Q E)(h:∀vs d w₁ b xs,Step w w₁->Oa X R F w₁ (f vs d) Q E->Step w₁ b->Ea X F.l b d->Jb b.G vs.reverse xs.toList->Q (.ref b.h.objs.size) {b.s with heap:=b.h.push {cls:= .type "list",data:= .seq xs}}):
  wpAny X.M F.A (eval (.Subscript x (.Slice none none (some (.UnaryOp .USub (.Constant (.int 1) u p2) p3)) p4) p5) F.env) Q E w.s:=
 Subscript_ ((s x F w sl p st c1 r o).onV o.l c λz d w₁ v j i n c=>by cases z with|lst vs=>exact c.ite λt c=>wpAny_Slice (evalPart_none_step (evalPart_none_step (evalPart_some_step (UnaryOp_ (wpAny_Constant_int (neg_int (pY (w:=w₁.at w₁.h (w₁.s.toks+1)) (i.g.kept λy y e=>e) n t rfl λb xs m g A=>h vs d w₁ b xs j c ((Step.kept λy y e=>e).trans m) g A)))))))| _=>exact c.elim)
def UP{st:ia}:retV (VP x) st=(Ky x λl=>some l).elim none λl=>if l.length<=big then ok (.v (.lst l.reverse)) st else none:=by
 cases x<;>first|rfl|skip
 show retV (if _ then _ else _) st=if _ then _ else _;split<;>rfl
def FU(a:E)(l:Ha X O T k a):Ha X O T k (.rev a):=λx F w sl o st m j i Q E c=>qy m (P:=λx=>wpAny X.M F.A (eval x F.env) Q E w.s) λx p q p3 s t c1=>CS l c1 j i (f:=λvs st=>ok (.v (.lst vs.reverse)) st) (rb (congrArg (onV (pa O a sl st)) (funext λx=>funext λst=>UP (x:=x) (st:=st))) c) λvs g w₁ e xs h c d b n=>Xd.push (f:= .lst vs.reverse) (λw' v S I r=>c w' v (d.trans S) I r) b rfl e.s.toks (wa.lst (Bc _ _ _) rfl rfl (Uj b n))
def SQ:ri X O T k .nil:=λxs pos F w sl e st b d a Q E c=>vM b (P:=λxs=>wpAny X.M F.A (spliced (backTo pos (starEach xs F.env))) Q E w.s) (wpAny_items_nil (c w _ .refl a.g .nil))
def wN(a es:E)(t:Ha X O T k a)(n:ri X O T k es):ri X O T k (.cons a es):=λxs pos F w sl s st y r p Q E c=>qI y (P:=λxs=>wpAny X.M F.A (spliced (backTo pos (starEach xs F.env))) Q E w.s) λx l c1 c2 c3=>wpAny_items_cons ((t x F w sl s st c1 r p).go p.l c λf d w₁ v q b i c=>(n l pos F w₁ sl s d c3 r b).go b.l c λg o m u h e j c=>c m _ .refl e.g (.cons (h.arel i) j)) (vg c2)
def NR{C:List FV->FV}{l:List AV}{st:ia}{w:Wd}{E:Value->Shared->Prop}{P:Prop}(r:Qd w l vs)(c:Oa X Sa F w (retV (Ug (fvs l) λm=>gd (decide (m.length<=big)) (C m)) st) Q E)(k:∀m,Jb w.G m vs->vs.length<=sizeLine->Xd X Sa F w (.v (C m)) st Q->P):P:=c.retV λf e c=>Ke e λm q e=>ze e λa e=>k m (r.fvs q) ((r.fvs q).length▸Te (of_decide_eq_true a)) (e▸c)
def jV(o:Option (List FV)):AL o=Ug o λm=>gd (decide (m.length<=big)) (.tup m):=by induction o with|none=>rfl|some l=>unfold AL Ug gd;by_cases h:l.length<=big<;>simp [h,br]
def QT(o:Option (List FV)):yF o=Ug o λm=>gd (decide (m.length<=big)) (.lst m):=by induction o with|none=>rfl|some l=>unfold yF Ug gd;by_cases h:l.length<=big<;>simp [h,br]
def HU(es:E)(e:ri X O T k es):Ha X O T k (.tup es):=λx F w sl r st j i h Q E c=>fF j (P:=λx=>wpAny X.M F.A (eval x F.env) Q E w.s) λl n p c1=>wpAny_Tuple ((e l _ F w sl r st c1 i h).bnd c λg b w₁ vs f a d c=>NR d (rb (congrArg (λo=>retV o b) (jV (fvs g))) c) λm s q c=>⟨q,c.push a (o:={cls:= .type "tuple",data:= .seq vs.toArray}) rfl w₁.s.toks (wa.tup (Bc _ _ _) rfl rfl (Uj a s))⟩)
def BU(es:E)(e:ri X O T k es):Ha X O T k (.lst es):=λx F w sl q st j i h Q E c=>WE j (P:=λx=>wpAny X.M F.A (eval x F.env) Q E w.s) λl p c1=>wpAny_List ((e l _ F w sl q st c1 i h).bnd c λg b w₁ vs f a d c=>NR d (rb (congrArg (λo=>retV o b) (QT (fvs g))) c) λm r n c=>⟨n,c.push a (o:={cls:= .type "list",data:= .seq vs.toArray}) rfl w₁.s.toks (wa.lst (Bc _ _ _) rfl rfl (Uj a r))⟩)
def IQ(B:ib X)(q:pe X O T k)(f:Nat)(es:E)(j:ri X O T k es):Ha X O T k (.call f es):=λx F w sl A st u i m Q E c=>Vz u (P:=λx=>wpAny X.M F.A (eval x F.env) Q E w.s) λx p l C c1 c2 c3=>uy c1 λr s t=>(q.call f x r).rec λa o fd y z v d=>Call_Name rfl (Qf B i.e m.g s t y (callWith_function (o:=o) (fd:=fd) (Se (Ie es c2) ((j l _ F w sl A st c2 i m).bnd c λg e w₁ vs n b h c=>⟨⟨b.keep0 _ _ z,v⟩,wpAny_call (d g e F w₁ vs Q E i.a.down b h c)⟩))))
end
section
variable {X:Ctx} {O:wb} {T:Tab} {k:Nat}
def az{env:Env}{pos:Pos}{xs:List Expr}(a:∀x∈xs,isPlain x=true):∀t∈backTo pos (starEach xs env),t.1=false:=by induction xs with|nil=>exactλt h=>nomatch h|cons x r c=>rw [vg (a x (.head _))];exact forall_mem_cons.mpr ⟨rfl,c λy b=>a y (.tail _ b)⟩
def zq{env:Env}{pos:Pos}{xs:List Expr}(a:∀x∈xs,isPlain x=true):(backTo pos (starEach xs env)).any (·.1)=false:=any_eq_false.mpr λt b=>az a t b▸Bool.false_ne_true
def mR{env:Env}{pos:Pos}{xs:List Expr}(a:∀x∈xs,isPlain x=true):(backTo pos (starEach xs env)).all (λx=> !x.1)=true:=all_eq_true.mpr λt b=>congrArg not (az a t b)
def UD{A:Around}{s:Shared}{o:Expr}{n:Str}{env:Env}{t:Sem Value}{Q:Value->Shared->Prop}{E:Value->Shared->Prop}(a:Tg o=true)(h:wpAny X.M A t Q E s):wpAny X.M A (attributeBase o n env t) Q E s:=(or_eq_true_iff.mp a).elim (λa=> @Expr.Name.elim (λo=>wpAny X.M A (attributeBase o n env t) Q E s) o (eq_of_beq_eq_true a) λx x=>h) λa=>(or_eq_true_iff.mp a).elim (λa=> @Expr.Attribute.elim (λo=>wpAny X.M A (attributeBase o n env t) Q E s) o (eq_of_beq_eq_true a) λx x x=>h) λa=>Wa a (P:=λo=>wpAny X.M A (attributeBase o n env t) Q E s) λf as b p a=>ya a (P:=λf=>wpAny X.M A (attributeBase (.Call f as b p) n env t) Q E s) λid q a=>by
   have e:(id !=("super":Str))=true:=bne_iff_ne.mpr λe=>Ec (e▸a:(!Dc ("super":Str) "super")=true);induction as<;>induction b<;>first|exact h|skip
   show wpAny X.M A (if _ then _ else _) Q E s;rw [if_pos (by rw [e];rfl)];exact h
def sT{n:Nat}{pos:Pos}{a:List Expr}{env:Env}(c:∀x∈a,isPlain x=true)(b:a.length<=10):methodCallForm (a.length+([]:List Keyword).length) (backTo pos (starEach a env)) (backToKw pos (keywordEach [] env))=true:=by unfold methodCallForm;rw [mR c];exact and_eq_true_iff.mpr ⟨rfl,decide_eq_true (Nat.lt_of_le_of_lt (show a.length+0+0<=10 from b) (by decide))⟩
def IL{A:Around}{s:Shared}{o:Expr}{n:Str}{ap pos:Pos}{b:List Expr}{env:Env}{Q:Value->Shared->Prop}{E:Value->Shared->Prop}(q:Tg o=true)(r:∀x∈b,isPlain x=true)(p:b.length<=10)(f:(ap.endLine==pos.line)=true)(h:wpAny X.M A (eval o env) (λm c=>∀pl,wpAny X.M A (getMethod m n pl) (λl d=>wpAny X.M A (callWith pos l.1 l.2 (backTo pos (starEach b env)) []) Q E d) E c) E s):
  wpAny X.M A (eval (.Call (.Attribute o n ap) b [] pos) env) Q E s:=by
 have g:methodCallPos true o env ap pos=pure pos:=by unfold methodCallPos;simp [f]
 rw [arm_eval_Call];refine wpAny_bind (UD q (wpAny_mono h (λm c i=>wpAny_bind (wpAny_standAt ?_)) λa a e=>e));unfold methodCall;rw [sT (n:=0) r p];exact wpAny_bind (wpAny_holding (wpAny_mono (i _) (λl d j=>wpAny_bind (wpAny_of_eq g j)) λa a e=>e))
def Dq{A:Around}{s:Shared}{o:Expr}{n:Str}{ap:Pos}{env:Env}{Q:Value->Shared->Prop}{E:Value->Shared->Prop}(i:Tg o=true)(h:wpAny X.M A (eval o env) (λf b=>wpAny X.M A (getAttr f n true) Q E b) E s):wpAny X.M A (eval (.Attribute o n ap) env) Q E s:=show wpAny X.M A (do
  let e<-attributeBase o n env (eval o env)
  standAt ap.atName
  let r<-holding [e] (getAttr e n true)
  letTemporaryGo o e r
  pure r) Q E s from wpAny_bind (UD i (wpAny_mono h (λf b c=>wpAny_bind (wpAny_standAt (wpAny_bind (wpAny_holding (wpAny_mono c (λr g d=>wpAny_bind (wpAny_letTemporaryGo (wpAny_pure d))) λa a x=>x))))) λa a x=>x))
def Oa.obj{d g:Type}{R:Wd->d->g->Prop}{F:Fr}{w:Wd}{a:AV}{st:ia}{f:Nat->Nat->List (Nat×AV)->Res d}{Q:g->Shared->Prop}{E:Value->Shared->Prop}{P:AV->Prop}(c:Oa X R F w (match a with| .o i=>(match st[i]? with|some (.inst c fs)=>f i c fs| _=>none)| .v x=>none) Q E)(k:∀i b fs,st[i]? =some (.inst b fs)->Oa X R F w (f i b fs) Q E->P (.o i)):P a:=by induction a with|v x=>exact c.elim|o i=>induction e:st[i]? with|none=>dsimp only at c;rw [e] at c;exact c.elim|some z=>dsimp only at c;rw [e] at c;induction z with|dl x=>exact c.elim|inst b fs=>exact k i b fs e c
def HQ(B:ib X)(j:pe X O T k)(a:E)(m:Nat)(s:Ha X O T k a):Ha X O T k (.attr a m):=λx F w sl z st t o g Q E c=>Uz t (P:=λx=>wpAny X.M F.A (eval x F.env) Q E w.s) λx n p c1 c2 c3=>Dq c3 ((s x F w sl z st c2 o g).go g.l c λav f w₁ v h b d c=>Oa.obj (P:=λav=>Sa w₁ av v->wpAny X.M F.A (getAttr v n true) Q E w₁.s) c (λi C fs e c r=>c.ite λy c=>c.lift λl q c=>j.ats m n (at?_iff c1)▸xT B.toObjOK b.g e r y q λu A=>Xd.tok (a:=l) c b.g _ (A.up .at)) d)
def PM(B:ObjOK X){w:Wd}{c m:Nat}{fs:List (Nat×AV)}{es:List DictEntry}{n:Nat}(b:Nb c m=true)(R:xd X w fs es)(a:KeysIn c fs):shadowIn (some (dictOf es n)) (X.N.atN m)=some false:=by unfold shadowIn;dsimp only;rw [lookIn_dict,DH R λp d z=>by have:=B.fld c p.1 (a p d);rw [z,(B.met c m b).1] at this;exact Cb (Option.some.inj this).symm];rfl
def QQ(B:ib X)(W:pe X O T k)(a:E)(m:Nat)(es:E)(ha:Ha X O T k a)(L:ri X O T k es):Ha X O T k (.meth a m es):=λx F w sl ow st hc G Jv Q E c=>gA hc (P:=λx=>wpAny X.M F.A (eval x F.env) Q E w.s) λx n ap l C c1 c2 c3 c4 c5 c6=>IL c5 (Ie es c3) c4 c6 ((ha x F w sl ow st c2 G Jv).go Jv.l c λav o w₁ v S₁ e t c pl=>Oa.obj (P:=λav=>Sa w₁ av v->wpAny X.M F.A (getMethod v n pl) (λs f=>wpAny X.M F.A (callWith C s.1 s.2 (backTo C (starEach l F.env)) []) Q E f) E w₁.s) c (λi D fs V c r=>c.ite λA c=>W.ats m n (at?_iff c1)▸
  (jA e.g V r).rec (motive:=λv b=>Sa w₁ (.o i) v->wpAny X.M F.A (getMethod v (X.N.atN m) pl) (λs f=>wpAny X.M F.A (callWith C s.1 s.2 (backTo C (starEach l F.env)) []) Q E f) E w₁.s) (λy d es' n' b g hd H hk b r=>have M:=B.met D m A
   have hg:=plainGet_of (B.cls D m (.inr A)).get
   method_fn (B.kin.keeps e.g.keep0) (jv e.g g hd) hg.1 hg.2 M.1 M.2.1 (PM B.toObjOK A H hk) (callWith_of (P:=λh=>X.K.In h) (by rw [zq (Ie es c3)];rfl) (keeps_K M.2.2) (Se (Ie es c3) ((L l _ F w₁ sl ow o c3 G e).bnd c λg p z vs q j u c=>⟨B.kin.keeps j.keep0,wpAny_call (W.meth D m _ p A F z (.ref y::vs) Q E G.a.down j (.cons (q.arel r) u) c)⟩)))) r) t)
def Ea.add{l:List Env}{w w':Wd}{st:ia}{a:SA}{o:PO}(I:Ea X l w st)(i:w'.sa=w.sa++ [a])(rest:Rest w w')(kp:yd w.h.get? w'.h.get?)(r:yd w.G w'.G)(fr:∀b x,w'.G b=some x->w.G b=some x\/(w.h.get? b=none/\b≠a.mu/\w'.h.get? b=some x))(m:w.h.get? a.mu=none)(s:(w'.h.get? a.mu).isSome)(p:jw X w' a o):Ea X l w' (st++ [o])/\Step w w':=by
 have alive:∀b,(w.h.get? b).isSome->(w'.h.get? b).isSome:=λb hb=>Nl hb λo e=>eg (kp b o e);have j:∀b,(w.h.get? b).isSome->w.G b=none->w'.G b=none:=λb hb v=>Ue λx q=>(fr b x q).elim (λz=>Zd z v) λz=>Ec (z.1▸hb:(none:Option Obj).isSome=true);have t:w'.G a.mu=none:=Ue λx q=>(fr _ x q).elim (λz=>Zd (I.gin _ _ z) m) λz=>z.2.1 rfl;have g:Td w'.sa=Td w.sa++ [a.mu]:=by rw [i,Hg];rfl
 have S:Step w w':=⟨r,λb x e=>(fr b x e).imp id λz=>z.1,λb x y e=> .inl (kp b x e),alive,⟨[a],i,λb hb=>mem_singleton.mp hb▸m⟩,rest⟩;refine ⟨⟨λb x e=>r _ _ (I.base _ _ e),λb x e=>(fr b x e).elim (λz=>kp _ _ (I.gin _ _ z)) λz=>z.2.2,?_,λb hb=> ?_,?_,Nj (λe f L d=>(I.frD e f L d).imp λo h=>h.imp λes h=>h.imp λn h=>⟨kp _ _ h.1,h.2⟩) I.frames,λe f L d=> ?_,λe f L d=>(I.frD e f L d).imp λo h=>h.imp λes h=>h.imp λn h=>⟨kp _ _ h.1,h.2⟩⟩,S⟩;·rw [i];exact Eb.append (Ri.up S.up (λb hb=>Nl (I.muG b.mu (mem_map_of_mem hb)).2 λo e=>(kp _ _ e).trans e.symm) I.store) (.cons p .nil)
 ·rw [g] at hb;exact (mem_append.mp hb).elim (λhb=>⟨j b (I.muG b hb).2 (I.muG b hb).1,alive b (I.muG b hb).2⟩) λhb=>mem_singleton.mp hb▸⟨t,s⟩
 ·rw [g];exact nodup_append.mpr ⟨I.nd,.cons (λy h=>nomatch h) .nil,λb hb c u z=>I.nm m (mem_singleton.mp u▸z▸hb)⟩
 ·refine ⟨(I.frD e f L d).elim λo h=>h.elim λes h=>h.elim λn h=>j L (eg h.1) (I.frS e f L d).1,λz=> ?_⟩;rw [g] at z;exact (mem_append.mp z).elim (I.frS e f L d).2 λz=>I.apart m e f (mem_singleton.mp z▸d)
def qR{A:Around}{l:List Env}{C:Addr}{vs:List Value}(h:qr A l (k+1)):qr (A.under (.builtin "type.__call__" ⟨.ref C::vs,[]⟩)) l k:=by
 refine ⟨h.handled,?_,?_,?_⟩
 ·unfold Around.under;first
   |(show pushEnvs [] A.frames=some l;exact h.frames)|(simp [pushEnvs,h.frames,Code.envs];done)
 ·show A.depth+1+3*k+30<=recursionLimit;have:=h.depth;lia
 ·have e:(A.under (.builtin "type.__call__" ⟨.ref C::vs,[]⟩)).units<=A.units+1:=Nat.le_refl _;have:=h.units;lia
abbrev Wd.mk'(X:Ctx)(w:Wd)(c:Nat):Wd:=⟨w.sa++ [.inst (w.h.objs.size+1) w.h.objs.size],Pj w.G (w.h.objs.size+1) (instObj (X.N.clsA c) w.h.objs.size),{w.s with heap:=(w.h.push emptyDict).push (instObj (X.N.clsA c) w.h.objs.size)}⟩
def OO{l:List Env}{w:Wd}{st:ia}{c:Nat}(I:Ea X l w st):(Ea X l (w.mk' X c) (st++ [.inst c []])/\Step w (w.mk' X c))/\Sa (w.mk' X c) (.o st.length) (.ref (w.h.objs.size+1)):=by
 have i:(w.h.push emptyDict).objs.size=w.h.objs.size+1:=size_push _ _;have h:((w.h.push emptyDict).push (instObj (X.N.clsA c) w.h.objs.size)).get? (w.h.objs.size+1)=some (instObj (X.N.clsA c) w.h.objs.size):=by rw [<-i];exact get?_push_size _ rfl
 have f:((w.h.push emptyDict).push (instObj (X.N.clsA c) w.h.objs.size)).get? w.h.objs.size=some emptyDict:=get?_push_of_some _ (get?_push_size _ rfl);have d:w.h.get? (w.h.objs.size+1)=none:=get?_none_of_le (le_succ _);exact ⟨I.add (w':=w.mk' X c) (a:= .inst (w.h.objs.size+1) w.h.objs.size) (o:= .inst c []) rfl ⟨rfl,rfl⟩ (λb x e=>Ob b x (Ob b x e)) (lg (I.gnone d)) (λb x e=>Xo e (λz q=> .inr (by rw [z,q];exact ⟨d,succ_ne_self _,h⟩)) .inl) (Ka _) (eg f) ⟨#[],0,Bc _ _ _,f,.nil,(λp g=>nomatch g),zero_le _⟩,_,by rw [<-I.store.length,getElem?_append_right (Nat.le_refl _),Nat.sub_self];rfl,rfl⟩
def PQ(B:ib X)(H:pe X O T k)(i:Nat)(es:E)(D:ri X O T k es):Ha X O T k (.make i es):=λx F w sl ow st hc C L Q E c=>eA hc (P:=λx=>wpAny X.M F.A (eval x F.env) Q E w.s) λx p l pp c1 c2 c3=>uy c1 λh1 h2 h3=>Oa.ite c λG c=>have W:=B.mkC i G
 have V:=B.met i 999 G
 Call_Name rfl (Qf B C.e L.g h2 h3 (H.cls _ _ h1) (callWith_of (P:=λh=>X.K.In h) (by rw [zq (Ie es c2)];rfl) (keeps_K W.2) (Se (Ie es c2) ((D l _ F w sl ow st c2 C L).bnd c λg b w₁ vs M j u c=>have d:=B.kin.keeps j.keep0
  have s:=OO (c:=i) j
  ⟨d,wpAny_call (make_core (makes_of d W.1) (looks_findIn d (B.ini▸V.1)) (λself=>bind_fn d self V.2.1) (.inl rfl) (codeAny_mono (H.meth i 999 (.o b.length::g) (b++ [.inst i []]) G ⟨F.A.under (.builtin "type.__call__" ⟨.ref (X.N.clsA i)::vs,[]⟩),F.l,F.env⟩ (w₁.mk' X i) (.ref (w₁.h.objs.size+1)::vs)
   (λv s'=>v= .none/\Q (.ref (w₁.h.objs.size+1)) s') E (qR C.a) s.1.1 (.cons s.2 (s.1.2.arels u)) (Et (R:=λm=>Oa X Sa F (w₁.mk' X i) (Mine.bnd m λx st'=>match x with| .v .none=>ok (.o b.length) st'| _=>none) Q E->Oa X Sa F (w₁.mk' X i) m (λv s'=>v= .none/\Q (.ref (w₁.h.objs.size+1)) s') E) _ (λc=>c) (λa st c=>by
     induction a with|o y=>exact c.elim|v f=>cases f with|none=>exactλA v n q rv=>⟨wa.casesOn (motive_1:=λf v y=>f= .none->v= .none) rv (λy=>rfl) (λy z=>nomatch z) (λy y z=>nomatch z) (λy y z=>nomatch z) (λy y z=>nomatch z) (λy y y y z=>nomatch z) (λy y y y z=>nomatch z) rfl,c A _ n q (n.arel s.2)⟩| _=>exact c.elim) (λt st c=>c) (c.step s.1.2))) λr s' z=>by
    rcases r with e|(v| _| _| _)<;>first|exact z|exact z.elim))⟩))))
end
def OL:typeLookup (.type "bytes") "__len__"=pure (some (.builtin "bytes.__len__")):=by rw [typeLookup_type,builtinLookup_eq_fast];kernel_rfl
noncomputable abbrev vD(b:Array UInt8)(i:Nat)(v:Value):Prop:=∃c u,b[i]? =some c/\v= .int (c.toNat:Int) u
abbrev gone(S:Addr)(h h':Heap):Prop:=∀x o,x≠S->h.get? x=some o->h'.get? x=some o
def GC{s s':Shared}(g:s'.gens=s.gens)(d:s'.drawn=s.drawn)(o:s'.os=s.os):s'={s with heap:=s'.heap,toks:=s'.toks}:=by cases s';subst g;subst d;subst o;rfl
section
variable {prog:Program} {W:World} {A:Around} {E:Value->Shared->Prop} {s:Shared} {R:Result->Shared->Prop}
def rE(n:A.handled=none)(S:Addr)(b:Array UInt8)(t:Tok)(res:Value)(g:Nat)(l:s.heap.get? S=some (td #[] g))(m:∀s' a c,gone S s.heap s'.heap->s'={s with heap:=s'.heap,toks:=s'.toks}->s'.heap.get? S=some (td a c)->ItemsOf (vD b) a b.size->R (.ok (.ret res)) s')(o:b.size<=sizeLine):
  wpAny (model prog W) A.in1 (listExtendWith (.ref S) (.bytes b t) res) (λfin s'=>match fin with| .done f=>R (.ok f) s'| .again c=>c.quiet=true/\codeAny (model prog W) A c R s') (λe s'=>R (.error e) s') s:=by
 unfold listExtendWith;refine wpAny_bind (wpAny_typeOf (T:="bytes") (v:= .bytes b t) (typeIs_bytes _ _ _) ?_);rw [show (listSameRef (ref S) (Value.bytes b t)||type "bytes"==type "list"||type "bytes"==type "tuple")=false from rfl,if_neg Bool.false_ne_true];refine wpAny_bind (KBw.pyIter_bytes (wpAny_bind (wpAny_holding ?_)));unfold listLengthHint;refine wpAny_bind (wpAny_specialOf (T:="bytes") (v:= .bytes b t) (typeIs_bytes _ _ _) OL ?_)
 wp_delta
 refine wpAny_bind (wpAny_isInstance (T:="bytes") (v:= .bytes b t) (b:=true) (typeIs_bytes _ _ _) (by rw [isSubtype_type];kernel_rfl) ?_);show wpAny _ A.in1 (typeOf (Value.bytes b t)>>=_) _ _ _;refine wpAny_bind (wpAny_typeOf (T:="bytes") (v:= .bytes b t) (typeIs_bytes _ _ _) (wpAny_pure ?_));rw [if_neg (by decide)];have k:S≠s.heap.objs.size:=ne_of_lt (lt_size l);refine wpAny_pure ⟨plainId_quiet F.plain_extend_loop _,codeAny_extend_loopS (KBw.walks (A:=A.in1) n s.heap.objs.size b t).toS o _ (λd=>k (mem_singleton.mp d)) _ b.size 0 _ _ _ rfl (zero_le _) ⟨_,get?_push_size _ rfl,rfl,rfl⟩ (get?_push_of_some _ l) (ItemsOf.nil _) λs' a c d j i=>m s' a c (λx q p e=>d.heap x q (λhb=>(mem_cons.mp hb).elim p λh=>Zd e (mem_singleton.mp h▸Ka _)) (get?_push_of_some _ e)) (GC d.gens d.drawn d.os) j i⟩
def LJ(n:A.handled=none)(S:Addr)(b:Array UInt8)(t:Tok)(h:s.heap.get? S=some (td #[] 0))(m:∀s' c d,gone S s.heap s'.heap->s'={s with heap:=s'.heap,toks:=s'.toks}->s'.heap.get? S=some (td c d)->ItemsOf (vD b) c b.size->R (.ok (.ret .none)) s')(o:b.size<=sizeLine):
  wpAny (model prog W) A.in1 (Builtin.«list.__init__» ⟨[.ref S,.bytes b t],[]⟩) (λfin s'=>match fin with| .done f=>R (.ok f) s'| .again d=>d.quiet=true/\codeAny (model prog W) A d R s') (λe s'=>R (.error e) s') s:=by
 show wpAny _ A.in1 (do let j<-listItems (.ref S);listUpdate (.ref S) (λa=> #[]);letGo j.toList.reverse;listExtendWith (.ref S) (.bytes b t) .none) _ _ s;refine wpAny_bind ?_;unfold listItems;refine wpAny_bind (wpAny_seqItems h rfl (wpAny_pure ?_));show wpAny _ A.in1 (updateSeq S (λa=> #[])>>=λa=>letGo (#[]:Array Value).toList.reverse>>=λa=>listExtendWith (.ref S) (.bytes b t) .none) _ _ s;exact wpAny_bind (wpAny_updateSeq h rfl (wpAny_bind (wpAny_letGo (rE n S b t .none _ (get?_update_self (mapSeq (λa=>(#[]:Array Value))) h rfl) (λs' c d k g q i=>m s' c d (λx p l e=>k x p l ((get?_update_other _ _ (Ne.symm l)).trans e)) g q i) o))))
def Vx(m:A.handled=none)(b:Array UInt8)(t:Tok)(n:b.size<=sizeLine)(l:∀h' a h tk,yd s.heap.get? h'.get? ->h'.get? s.heap.objs.size=some (td a h)->ItemsOf (vD b) a b.size->Q (.ref s.heap.objs.size) {s with heap:=h',toks:=tk}):
  wpAny (model prog W) A (call (.type "list") [.bytes b t]) Q E s:=by
 refine callType_codes (Q₁:=λf d=>f= .ref s.heap.objs.size/\d={s with heap:=s.heap.push {cls:= .type "list",data:= .seq #[]}}) F.called_list (F.typeCall_list_1 _) F.entry_list_init (code_list_new _ ⟨rfl,rfl⟩) λf d c=> ?_;rw [c.1,c.2];have j:(s.heap.push {cls:= .type "list",data:= .seq #[]}).get? s.heap.objs.size=some {cls:= .type "list",data:= .seq #[]}:=get?_push_size _ rfl;exact ⟨⟨_,j,rfl⟩,F.args_list_init_2 _ _,LJ (by exact m) _ b t j (λs' a h k g q i=>⟨rfl,g▸l s'.heap a h s'.toks (λx o e=>k x o (ne_of_lt (lt_size e)) (get?_push_of_some _ e)) q i⟩) n⟩
end
def Eb.of_back:∀{f:List g},f.length=v.length->(∀(i:Nat) (y:j),v[i]? =some y->∃x,f[i]? =some x/\R x y)->Eb R f v:=by induction v with|nil=>exactλh a=>length_eq_zero_iff.mp h▸ .nil|cons y v c=>intro f h k;induction f with|nil=>exact absurd h (succ_ne_zero _).symm|cons x f=>exact (k 0 y rfl).elim λd b=> .cons (Option.some.inj b.1▸b.2) (c (Nat.succ.inj h) λi y e=>k (i+1) y e)
noncomputable abbrev RX(b:Array UInt8):List FV:=(b.toList.map UInt8.toNat).map λ(x:Nat)=>FV.int (x:Int)
def pG(b:Array UInt8):(RX b).length=b.size:=by rw [length_map,length_map,length_toList]
def BI(h:vD b i v):∃x,(RX b)[i]? =some x/\wa G x v:=h.elim λc h=>h.elim λu h=>⟨.int (c.toNat:Int),by rw [getElem?_map,getElem?_map,getElem?_toList,h.1];rfl,h.2▸ .int _ _⟩
section
variable {X:Ctx} {O:wb} {T:Tab} {k:Nat}
def uf{F:Fr}{w:Wd}{st:ia}{g pos:Pos}{y:Expr}{Q:Value->Shared->Prop}{E:Value->Shared->Prop}(B:ib X)(d:wc F.env T)(I:Ea X F.l w st){n:Str}(hb:Je T n x=true)(f:isPlain y=true)(e:Po X n v)(h:wpAny X.M F.A (callWith pos v [] [(false,eval y F.env)] []) Q E w.s):wpAny X.M F.A (eval (.Call (.Name x g) [y] [] pos) F.env) Q E w.s:=a2 hb λhb c=>a2 hb λa b=>Call_Name (by rw [vg f];rfl) (gs B d I b (Th c) (vb a▸e) h)
def QW{x:FV}{f:FV}{P:Prop}(e:Rg x=some f)(k:∀n,Iw x=some n-> .int (n:Int)=f->P):P:=by unfold Rg at e;induction q:Iw x with|none=>rw [q] at e;exact Cb e|some n=>rw [q] at e;exact k n q (Option.some.inj e)
def AU(B:ib X)(a:E)(m:Ha X O T k a):Ha X O T k (.len a):=λx F w sl q st o j g Q E c=>VE o (P:=λx=>wpAny X.M F.A (eval x F.env) Q E w.s) λx p y r c1 c2 c3=>uf B j.e g.g c1 c3 B.b_len (PySem.callWith_builtin1 ((m y F w sl q st c2 j g).onV g.l c λf h w₁ v i b d c=>c.retV λz e c=>QW e λn e l=>OT b.g d e λt tk=>c.int b.g l))
def OQ(B:ib X)(v:Nat):Ha X O T k (.lenv v):=λx F w sl m st f d b Q E c=>bA f (P:=λx=>wpAny X.M F.A (eval x F.env) Q E w.s) λx p y o q c1 c2=>ownAt c λl e c=>c.ite λh c=>uf B d.e b.g c1 rfl B.b_len (PySem.callWith_builtin1 (Tj d.e b.l c2 e ((b.l.own e).rec λi n s g r j a=>call_len_list ⟨_,g,rfl,_,rfl⟩ (by unfold big at h;lia) (j▸Xd.int c b.g rfl))))
def NQ(B:ib X)(a:E)(j:Ha X O T k a):Ha X O T k (.intf a):=λx F w sl m st l h d Q E c=>aA l (P:=λx=>wpAny X.M F.A (eval x F.env) Q E w.s) λx p y n c1 c2 c3=>uf B h.e d.g c1 c3 B.b_int (PySem.callWith_type1 ((j y F w sl m st c2 h d).onI d.l c λi f e w₁ g b c=>call_int_int (c w₁ _ .refl b.g (.int i f))))
def uH(ns:List Int)(h:∀n∈ns,0<=n/\n<256):(byteArr ns).toList.map UInt8.toNat=ns.map toNat:=by unfold byteArr;rw [map_map];exact map_congr_left λn a=>mod_eq_of_lt (show n.toNat<256 by have:=h n a;lia)
def eO{x f:FV}{P:Prop}(e:Jj x=some f)(k:∀m ns,x= .lst m->Fd m=some ns->(∀n∈ns,0<=n/\n<256)->ns.length<=big-> .bytes (ns.map toNat)=f->P):P:=by
 cases x with
 |lst m=>
  unfold Jj at e;induction q:Fd m with
  |none=>simp only [q] at e;exact Cb e|some ns=>
   simp only [q] at e;set_option tactic.hygienic true in split at e
   ·rename_i h;exact a2 h λa b=>k m ns rfl q (λn c=>a2 (all_eq_true.mp a n c) λa b=>⟨of_decide_eq_true a,of_decide_eq_true b⟩) (of_decide_eq_true b) (Option.some.inj e)
   ·exact Cb e
 | _=>exact Cb e
def XK(B:ib X)(a:E)(C:Ha X O T k a):Ha X O T k (.bytesf a):=λx F w sl L st D j i Q E c=>Sr D (P:=λx=>wpAny X.M F.A (eval x F.env) Q E w.s) λx p y V c1 c2 c3=>uf B j.e i.g c1 c3 B.b_bytes (PySem.callWith_type1 ((C y F w sl L st c2 j i).onV i.l c λf l w₁ v r b h c=>c.retV λz e c=>eO e λm ns u q hb G A=>wa.atL (P:=λv=>wpAny X.M F.A (call (.type "bytes") [v]) Q E w₁.s) (u▸h) λa o xs n g cl d s M=>call_bytes_ints ⟨_,b.g.gin _ _ g,cl,_,d⟩ (s.ints q) hb ((s.ints q).length▸Te G) j.a.handled λh' t H kp=>c (w₁.at h' H) _ (Step.kept kp) (b.g.kept kp) (A▸wa.bytes t (uH ns hb))))
def XU(ns:List Int):∀n:Nat,n<=ns.length->preSum (λi=>ns.getD i 0) n=(ns.take n).sum:=Nat.rec (λx=>rfl) λn a h=>by rw [take_add_one,sum_append,preSum,a (le_of_succ_le h),getElem?_eq_getElem h];simp;exact congrArg (·.getD 0) (getElem?_eq_getElem h)
def ints_get(h:IntsAre vs ns):∀{i:Nat} {v:Value},vs[i]? =some v->∃t,v= .int (ns.getD i 0) t:=by induction h with|nil=>exactλe=>Cb e| @cons n t vs ns r a=>intro i v e;induction i with|zero=>exact ⟨t,(Option.some.inj e).symm⟩|succ i=>exact a e
def VZ{x f:FV}{P:Prop}(e:sumF x=some f)(k:∀m ns,x= .tup m->Fd m=some ns-> .int ns.sum=f->P):P:=by
 cases x with
 |tup m=>
  unfold sumF at e;induction q:Fd m with
  |none=>simp only [q] at e;exact Cb e|some ns=>
   simp only [q] at e;split at e;·exact k m ns rfl q (Option.some.inj e)
   ·exact Cb e
 | _=>exact Cb e
def YU{prog:Program}{W:World}{A:Around}{a:Addr}{xs:Array Value}{Q:Value->Shared->Prop}{E:Value->Shared->Prop}(j:A.handled=none)(f:s.heap.IsTuple a xs)(g:IntsAre xs.toList ns)(h:∀h' t tk,yd s.heap.get? h'.get? ->Q (.int ns.sum t) {s with heap:=h',toks:=tk}):wpAny (model prog W) A (call (.builtin "sum") [.ref a]) Q E s:=by
 have c:a<s.heap.objs.size:=f.elim λo h=>lt_size h.1;refine call_sum_walkAnyS (wpAny_pyIter_tuple f ⟨_,[s.heap.objs.size,a],[s.heap.objs.size],_,xs.size,_,_,λi=>ns.getD i 0,rfl,(Walks.tuple (A:=A.in1) j s.heap.objs.size a (ne_of_lt c) xs).toS,⟨⟨_,get?_push_size _ rfl,rfl,rfl⟩,f.push _⟩,λb hb=> ?_,λi v m=>ints_get g (by rw [getElem?_toList];exact m),λs' n d=> ?_⟩);·show b<(s.heap.push _).objs.size;rw [size_push];exact (mem_cons.mp hb).elim (λe=>e▸lt_succ_self _) λhb=>mem_singleton.mp hb▸lt_succ_of_lt c
 ·have l:preSum (λi=>ns.getD i 0) xs.size=ns.sum:=by rw [show xs.size=ns.length from (length_toList).symm.trans g.length,XU ns ns.length (Nat.le_refl _),take_length]
  have fin:=h s'.heap n s'.toks λb x e=>d.heap b x (λhb=>Zd e (mem_singleton.mp hb▸Ka _)) (get?_push_of_some _ e);rw [GC (s:=s) d.gens d.drawn d.os,l];exact fin
def RQ(B:ib X)(a:E)(A:Ha X O T k a):Ha X O T k (.sumf a):=λx F w sl D st C j i Q E c=>iA C (P:=λx=>wpAny X.M F.A (eval x F.env) Q E w.s) λx p y L c1 c2 c3=>uf B j.e i.g c1 c3 B.b_sum (PySem.callWith_builtin1 ((A y F w sl D st c2 j i).onV i.l c λf l w₁ v r b h c=>c.retV λz e c=>VZ e λm ns s q u=>wa.atT (P:=λv=>wpAny X.M F.A (call (.builtin "sum") [v]) Q E w₁.s) (s▸h) λa o xs n g cl d G H=>YU j.a.handled ⟨_,b.g.gin _ _ g,cl,_,d⟩ (G.ints q) λh' t tk kp=>c (w₁.at h' tk) _ (Step.kept kp) (b.g.kept kp) (u▸wa.int _ t)))
def xy{a:FV}{m:List FV}{P:Prop}(e:pb a=some m)(b:∀l,a= .bytes l->l.length<=big->(l.map λ(x:Nat)=>FV.int (x:Int))=m->P)(d:a= .lst m->m.length<=big->P)(f:a= .tup m->m.length<=big->P):P:=by
 have go:∀{c:Prop} [Decidable c] {z:List FV},(if c then some z else none)=some m->c/\z=m:=λ{c y o} e=>by
  by_cases h:c;·rw [if_pos h] at e;exact ⟨h,Option.some.inj e⟩
  ·rw [if_neg h] at e;exact Cb e
 cases a with|bytes l=>exact b l rfl (go e).1 (go e).2|lst l=>exact d ((go e).2▸rfl) ((go e).2▸(go e).1)|tup l=>exact f ((go e).2▸rfl) ((go e).2▸(go e).1)| _=>exact Cb e
def yI{F:Fr}{w:Wd}{st:ia}{E:Value->Shared->Prop}{f:FV}{m:List FV}(B:F.A.handled=none)(I:Ea X F.l w st)(r:wa w.G f v)(e:pb f=some m)(h:∀h' acc j tk,yd w.h.get? h'.get? ->h'.get? w.h.objs.size=some (td acc j)->Jb w.G m acc.toList->Q (.ref w.h.objs.size) {w.s with heap:=h',toks:=tk}):wpAny X.M F.A (call (.type "list") [v]) Q E w.s:=xy e (λl p c s=>wa.atY (P:=λl v=>l.length<=big->(l.map λ(x:Nat)=>FV.int (x:Int))=m->wpAny X.M F.A (call (.type "list") [v]) Q E w.s) (p▸r) (λb t c s=>Vx B b t (by rw [length_map] at c;exact Te c) λh' acc j tk kp q A=>h h' acc j tk kp q (s▸Eb.of_back ((pG b).trans A.1.symm) λi y C=>BI (A.2 i y (by rw [<-getElem?_toList];exact C)))) c s)
  (λp c=>wa.atL (P:=λv=>wpAny X.M F.A (call (.type "list") [v]) Q E w.s) (p▸r) λa o xs n g cl d z u=>call_list_seq a (.inl rfl) (I.gin _ _ g) cl d (λh' j kp q=>h h' xs j w.s.toks kp q z) (u▸Te c))
  (λp c=>wa.atT (P:=λv=>wpAny X.M F.A (call (.type "list") [v]) Q E w.s) (p▸r) λa o xs n g cl d z u=>call_list_seq a (.inr rfl) (I.gin _ _ g) cl d (λh' j kp q=>h h' xs j w.s.toks kp q z) (u▸Te c))
def PT{x f:FV}{P:Prop}(e:nv x=some f)(k:∀m,pb x=some m-> .lst m=f->P):P:=by unfold nv at e;induction q:pb x with|none=>rw [q] at e;exact Cb e|some n=>rw [q] at e;exact k n q (Option.some.inj e)
def uN(B:ib X)(a:E)(r:Ha X O T k a):Ha X O T k (.listf a):=λx F w sl u st s h g Q E c=>Hw s (P:=λx=>wpAny X.M F.A (eval x F.env) Q E w.s) λx p y C c1 c2 c3=>uf B h.e g.g c1 c3 B.b_list (PySem.callWith_type1 ((r y F w sl u st c2 h g).onV g.l c λf i w₁ v j b d c=>c.retV λz e c=>PT e λm e q=>yI h.a.handled b.g d e λh' acc l tk kp t A=>have n:=Ka w₁.h
  have S:=(Step.kept (w:=w₁) (tk:=tk) kp).freeze (o:=td acc l) n (b.g.gnone n)
  c ((w₁.at h' tk).frz _ _) _ S ((b.g.kept kp).freeze (w:=w₁.at h' tk) (b.g.off n) (b.g.apart n) t) (q▸wa.lst (Bc _ _ _) rfl rfl (A.mono S.grow))))
inductive qD(w:Wd)(m:List FV)(i:Nat):Value->Prop
 |mk:∀a,w.sa[i]? =some (.dl a)->ag w a m->qD w m i (.ref a)
def qn{l:List Env}{w:Wd}{st:ia}(I:Ea X l w st){m:List FV}{v:Value}(f:st[i]? =some (.dl m))(c:Sa w (.o i) v):qD w m i v:=c.elim λe c=>(I.store.back f).elim λa b=>by cases Option.some.inj (c.1.symm.trans b.1);rw [c.2];induction e with|dl a=>exact ⟨a,b.1,b.2⟩|inst x d=>exact b.2.elim
def fE{b d:Type}{R:Wd->b->d->Prop}{F:Fr}{z:Option Slot}{st:ia}{f:Nat->List FV->Res b}{Q:d->Shared->Prop}{E:Value->Shared->Prop}{P:Prop}(c:Oa X R F w (match z with|some (.a (.o i))=>(match st[i]? with|some (.dl l)=>f i l| _=>none)| _=>none) Q E)(k:∀i l,z=some (.a (.o i))->st[i]? =some (.dl l)->Oa X R F w (f i l) Q E->P):P:=by
 induction z with
 |none=>exact c.elim|some s=>induction s with
  |a a=>induction a with
   |o i=>dsimp only at c;induction e:st[i]? with|none=>rw [e] at c;exact c.elim|some z=>rw [e] at c;induction z with|dl l=>exact k i l rfl e c|inst x y=>exact c.elim
   |v x=>exact c.elim
  | _=>exact c.elim
def YK(v:Nat):Ha X O T k (.emptyq v):=λx F w sl u st h e d Q E c=>Ur h (P:=λx=>wpAny X.M F.A (eval x F.env) Q E w.s) λx p z A c1=>fE c λi m l r c=>c.retB λb q c=>wpAny_Compare1 (xg e.e d.l c1 l λv t=>wpAny_List (wpAny_items_nil ⟨zero_le _,(qn d.g r t).rec (motive:=λv y=>wpAny X.M F.A (compareOp .Eq v (.ref w.h.objs.size)) Q E {w.s with heap:=w.h.push {cls:= .type "list",data:= .seq ([]:List Value).toArray}}) λa y f=>f.rec λxs n j s=>lI q λds q1 s1 s2 g=>have S:=Step.push (o:={cls:= .type "list",data:= .seq ([]:List Value).toArray}) (tk:=w.s.toks) d.g
  have I:=d.g.push (o:={cls:= .type "list",data:= .seq ([]:List Value).toArray}) (tk:=w.s.toks) rfl
  ((s.mono S.grow).reads I.gin q1).elim λas rd=>eq_dataH (.list (Ob _ _ j) rfl rfl rd) (.list (get?_push_size _ rfl) rfl rfl .nil) s1 s2 e.a.u64 (g▸c (w.push _ _) _ S I (.bool b))⟩)) rfl
def EH(f:Array Value->Array Value)(a:Array Value)(n:Nat)(b:Array (Option Value)):∃c,mapSeq f (Vg a n b)=Vg (f a) c b:=⟨_,rfl⟩
def Wm{h:Heap}{a:Addr}{b:Array Value}{d:Array (Option Value)}(e:h.get? a=some (Vg b n d))(f:Array Value->Array Value):∃c,(h.update a (mapSeq f)).get? a=some (Vg (f b) c d):=(EH f b n d).elim λc z=>⟨c,(get?_update_self (mapSeq f) e (by rw [z];rfl)).trans (congrArg some z)⟩
def zJ(xs:Array Value):(xs.eraseIdxIfInBounds (xs.size-1)).toList=xs.toList.take (xs.size-1):=by
 induction xs with|mk xs=>
 rw [eraseIdxIfInBounds_toArray,size_toArray,eraseIdx_length_sub_one,dropLast_eq_take]
def HI{G:GH}{m:List FV}{xs:Array Value}(a:Jb G m xs.toList)(c:m.getLast? =some y):(∃u,xs[xs.size-1]? =some u/\wa G y u)/\Jb G m.dropLast (xs.eraseIdxIfInBounds (xs.size-1)).toList:=by have b:m.length=xs.size:=a.length.trans length_toList;rw [getLast?_eq_getElem?,b] at c;rw [zJ,dropLast_eq_take,b,<-getElem?_toList];exact ⟨a.get c,a.take _⟩
def EU(v:Nat):Ha X O T k (.pop v):=λx F w sl L st A t h Q E c=>ZE A (P:=λx=>wpAny X.M F.A (eval x F.env) Q E w.s) λx p ap M c1 c2=>fE c λi m B C c=>by
 induction g:m.getLast? with
 |none=>rw [g] at c;exact c.elim|some y=>
  rw [g] at c;refine Oa.ite (R':=Sa) c λD c=> ?_;exact PySem.Call_method0 rfl c2 (xg t.e h.l c1 B λv G=>(qn h.g C G).rec λa z s=>s.rec λxs n f j=>(HI j g).1.elim λu q=>⟨"list","list.pop",plainAttrs_list,slot_list_pop,type_list_pop,⟨_,f,rfl⟩,λb e=>by (injection e with e;subst e);exact ⟨_,f,rfl⟩,method_meets slot_list_pop entry_list_pop rfl (evalArgs_nil3 ⟨rfl,⟨_,f,rfl⟩,args_list_pop_1 _,_,MeetsSeq.list_pop_last a xs n u q.1 (j.length.trans length_toList▸Te D),f,(Wm f λl=>l.eraseIdxIfInBounds (xs.size-1)).elim λH d=>have r:=h.g.upd (o:= .dl m.dropLast) (tk:=w.s.toks) z (λb hb=>get?_update_other _ _ (Ne.symm hb)) (eg d) ⟨_,_,d,(HI j g).2⟩
    c (w.at _ _) u r.2 r.1 q.2⟩)⟩)
end
inductive sD(G:GH):List FV->Value->Prop|seq {f l v}:wa G f v->pb f=some l->sD G l v|rng {a b:Int} {r:Addr} {t u v:Tok}:mid a=true->mid b=true->G r=some ⟨.type "range",none,.fields #[.int a t,.int b u,.int 1 v],#[]⟩->sD G (Ye a b) (.ref r)
abbrev xi(h:Heap)(I:Addr):Prop:=∃o vs,h.get? I=some o/\o.data= .fields vs
structure yr(X:Ctx)(A:Around)(G:GH)(I:Addr)(m:List FV)(St:Nat->Heap->Prop):Prop where
 keep:∀i h h',St i h->(∀b o,(b=I\/∃o,G b=some o)->h.get? b=some o->h'.get? b=some o)->St i h'
 at':∀i h,St i h->xi h I
 item:∀i (s:Shared) (Q:Option Value->Shared->Prop) (E:Value->Shared->Prop),i<m.length->St i s.heap->(∀f v h' tk,m[i]? =some f->wa G f v->St (i+1) h'->gone I s.heap h'->Q (some v) {s with heap:=h',toks:=tk})->wpAny X.M A (pyNext (.ref I)) Q E s
 done:∀(s:Shared) (Q:Option Value->Shared->Prop) (E:Value->Shared->Prop),St m.length s.heap->(∀h' tk,gone I s.heap h'->Q none {s with heap:=h',toks:=tk})->wpAny X.M A (pyNext (.ref I)) Q E s
 self:∀i (s:Shared) (Q:Value->Shared->Prop) (E:Value->Shared->Prop),St i s.heap->Q (.ref I) s->wpAny X.M A (pyIter (.ref I)) Q E s
def yr.of{St:Nat->Heap->Prop}(W:Walks X.prog X.w A I r [I] n P St)(g:m.length=n)(d:∀b∈r,b=I\/∃o,G b=some o)(t:∀i v,i<n->P i v->∃f,m[i]? =some f/\wa G f v)(c:∀i h,St i h->xi h I):yr X A G I m St:=have a:∀{h h':Heap},(∀b o,b∉ [I]->h.get? b=some o->h'.get? b=some o)->gone I h h':=λk b o hb e=>k b o (λz=>hb (mem_singleton.mp z)) e
 ⟨λi h h' st k=>W.frame i h h' st λb hb o e=>k b o (d b hb) e,c,λi s Q E q st j=>W.item i s Q E (g▸q) st λv h' tk p st' k=>(t i v (g▸q) p).elim λf l=>j f v h' tk l.1 l.2 st' (a k),λs Q E st j=>W.done s Q E (g▸st) λh' tk k=>j h' tk (a k),W.self⟩
def UB(h:mid a=true): -10000<=a/\a<=10000:=a2 h λb c=>⟨of_decide_eq_true b,of_decide_eq_true c⟩
def Ly(a b:Int):rangeSize a b 1=((b-a).toNat:Int):=by
 unfold rangeSize;rw [if_pos (by decide)];split;·rw [ediv_one];lia
 ·lia
def Mj(a: -100000<=x)(b:x<=100000):rangeFitsLong x=true:=by unfold rangeFitsLong;exact and_eq_true_iff.mpr ⟨decide_eq_true (Int.le_trans (by decide) a),decide_eq_true (Int.lt_of_le_of_lt b (by decide))⟩
def PH(c:mid a=true)(hb:mid b=true):Builtin.Range.small a b 1=true:=by have c:=UB c;have hb:=UB hb;unfold Builtin.Range.small;rw [Ly,Mj (by lia) (by lia),Mj (by lia) (by lia),Mj (by decide) (by decide),Mj (by lia) (by lia),if_pos (by decide),Mj (x:=b+(1-1)) (by lia) (by lia),Bool.or_true];rfl
def lD(a b:Int):(Ye a b).length=(b-a).toNat:=by unfold Ye;rw [length_map,length_range]
def RK(h:i<(b-a).toNat):(Ye a b)[i]? =some (.int (a+i)):=by unfold Ye;rw [getElem?_map,getElem?_range h];rfl
section
variable {X:Ctx} {O:wb} {T:Tab} {k:Nat}
inductive Made(X:Ctx)(w:Wd)(m:List FV)(o:Obj):Prop
 |mk:∀vs,o.data= .fields vs->o.isFreed=false->(∀A:Around,A.handled=none->∃St,yr X A w.G w.h.objs.size m St/\St 0 (w.h.push o))->Made X w m o
def tI{F:Fr}{st:ia}{E:Value->Shared->Prop}(I:Ea X F.l w st)(r:sD w.G m v)(h:∀o,Made X w m o->Q (.ref w.h.objs.size) {w.s with heap:=w.h.push o}):wpAny X.M F.A (pyIter v) Q E w.s:=by
 have s:∀{a:Addr} {o:Obj},w.G a=some o->∀b∈ [w.h.objs.size,a],b=w.h.objs.size\/∃o,w.G b=some o:=λg b hb=>(mem_cons.mp hb).imp id λhb=>by rw [mem_singleton.mp hb];exact ⟨_,g⟩
 cases r with
 | @rng a b r t u V G hb L=>refine wpAny_pyIter_range (I.gin _ _ L) (PH G hb) (h _ ⟨_,rfl,rfl,λA f=>⟨λi h=>IsRangeIter h w.h.objs.size (a+(i:Nat)*1) (((b-a).toNat:Int)- (i:Nat)) 1,yr.of (Walks.range f _ a 1 _) (lD a b) (λc H=> .inl (mem_singleton.mp H)) (λi v M j=>j.elim λt e=>⟨_,RK M,by rw [e,Int.mul_one];exact .int _ _⟩) λi h e=>⟨_,_,e,rfl⟩,?_⟩⟩);dsimp only;rw [show a+((0:Nat):Int)*1=a from Int.add_zero a,show ((b-a).toNat:Int)- ((0:Nat):Int)=rangeSize a b 1 from (Int.sub_zero _).trans (Ly a b).symm];exact get?_push_size _ rfl|seq r e=>
  refine xy e (λl p D z=> ?_) (λp D=> ?_) (λp D=> ?_);·exact wa.atY (P:=λl v=>(l.map λ(x:Nat)=>FV.int (x:Int))=m->wpAny X.M F.A (pyIter v) Q E w.s) (p▸r) (λb t z=>KBw.pyIter_bytes (h _ ⟨_,rfl,rfl,λA f=>⟨_,yr.of (KBw.walks f w.h.objs.size b t) (z▸pG b) (λb hb=> .inl (mem_singleton.mp hb)) (λi v y j=>z▸BI j) λi h e=>e.elim λo e=>⟨o,_,e.1,e.2.2⟩,⟨_,get?_push_size _ rfl,rfl,rfl⟩⟩⟩)) z
  ·exact wa.atL (P:=λv=>wpAny X.M F.A (pyIter v) Q E w.s) (p▸r) λa o xs n g cl d C B=>have q:w.h.IsList a xs:=⟨_,I.gin _ _ g,cl,_,d⟩
    wpAny_pyIter_list q (h _ ⟨_,rfl,rfl,λA f=>⟨_,yr.of (Walks.list f w.h.objs.size a (ne_of_lt (lt_size (I.gin _ _ g))) xs) B (s g) (λi v y j=>C.back (by rw [getElem?_toList];exact j)) λi h e=>e.1.elim λo e=>⟨o,_,e.1,e.2.2⟩,⟨⟨_,get?_push_size _ rfl,rfl,rfl⟩,q.push _⟩⟩⟩)
  ·exact wa.atT (P:=λv=>wpAny X.M F.A (pyIter v) Q E w.s) (p▸r) λa o xs n g cl d C B=>have q:w.h.IsTuple a xs:=⟨_,I.gin _ _ g,cl,_,d⟩
    wpAny_pyIter_tuple q (h _ ⟨_,rfl,rfl,λA f=>⟨_,yr.of (Walks.tuple f w.h.objs.size a (ne_of_lt (lt_size (I.gin _ _ g))) xs) B (s g) (λi v y j=>C.back (by rw [getElem?_toList];exact j)) λi h e=>e.1.elim λo e=>⟨o,_,e.1,e.2.2⟩,⟨⟨_,get?_push_size _ rfl,rfl,rfl⟩,q.push _⟩⟩⟩)
noncomputable abbrev RIt:Wd->List FV->Value->Prop:=λw=>sD w.G
def qz(X:Ctx)(O:wb)(T:Tab)(k:Nat)(e:E):Prop:=∀x F w sl b st,Wh T e x=true->(∀a,e≠ .enm a)->FOK T k F->J X F T w sl b st->ub X RIt F w (Sd O e sl st) (eval x F.env)
end
def By{g:Str->b->c}{l:List (Str×b)}:(l.map λp=>(p.1,g p.1 p.2)).lookup x=(l.lookup x).map (g x):=by induction l with|nil=>rfl|cons p r a=>rw [map_cons,lookup_cons,lookup_cons];induction h:x==p.1 with|true=>rw [beq_iff_eq.mp h];rfl|false=>exact a
def lookup_some{l:List (Str×d)}(h:(x,b)∈l){P:Prop}(k:∀c,l.lookup x=some c->P):P:=by induction l with|nil=>contradiction|cons p r a=>rw [lookup_cons] at k;induction q:x==p.1 with|true=>rw [q] at k;exact k _ rfl|false=>rw [q] at k;exact (mem_cons.mp h).elim (λz=>Ec (q▸z▸str_b x:false=true)) λh=>a h k
where str_b (x:Str):(x==x)=true:=beq_self_eq_true x
noncomputable abbrev Lj(env:Env)(names:List (Str×NameKind)):List (Str×Addr):=(names.filter (·.2==NameKind.free)).reverse.map λp=>(p.1,(env.cells.lookup p.1).getD 0)
def nJ:∀(names:List (Str×NameKind)) (acc:List (Str×Addr)),(∀n,(n,NameKind.free)∈names->(env.cells.lookup n).isSome)->(forIn names acc λ(x:Str×NameKind) (g:List (Str×Addr))=>(match x with|(name,kind)=>if (kind==NameKind.free)=true then (do let c<-cellOf env name;pure (ForInStep.yield ((name,c)::g))) else pure (ForInStep.yield g):Sem _))=pure (Lj env names++acc):=by
 intro names;induction names with
 |nil=>exactλy y=>rfl|cons p r i=>
  intro acc d;rw [forIn_cons];induction p with|mk n b=>
  dsimp only;induction e:b==NameKind.free with|true=>rw [if_pos rfl];refine Nl (d n (beq_iff_eq.mp e▸ .head _)) λc h=> ?_;rw [show cellOf env n=pure c by unfold cellOf;rw [h]];refine (i ((n,c)::acc) λm f=>d m (.tail _ f)).trans (congrArg pure ?_);rw [show Lj env ((n,b)::r)=Lj env r++ [(n,c)] by unfold Lj;rw [filter_cons_of_pos (by exact e),reverse_cons,map_append,map_cons,h];rfl,append_assoc];rfl|false=>rw [if_neg Bool.false_ne_true];refine (i acc λm f=>d m (.tail _ f)).trans (congrArg (λl:List (Str×NameKind)=>(pure (l.reverse.map (λp=>(p.1,(env.cells.lookup p.1).getD 0))++acc):Sem (List (Str×Addr)))) (filter_cons_of_neg (p:=λx=>x.2==NameKind.free) (a:=(n,b)) (l:=r) (show ¬(b==NameKind.free)=true by rw [e];exact Bool.false_ne_true)).symm)
def oJ(a:∀n,(n,NameKind.free)∈scope.names->(env.cells.lookup n).isSome):closureFor scope env=pure (Lj env scope.names):=by unfold closureFor;dsimp only;rw [nJ scope.names [] a,append_nil];rfl
def YD{names:List (Str×NameKind)}{n:Str}(e:(env.cells.lookup n).isSome)(h:(n,NameKind.free)∈names):(Lj env names).lookup n=env.cells.lookup n:=lookup_some (mem_reverse.mpr (mem_filter.mpr ⟨h,rfl⟩):(n,NameKind.free)∈(names.filter (·.2==NameKind.free)).reverse) λc d=>(By (g:=λx y=>(env.cells.lookup x).getD 0)).trans (by rw [d];exact Nl e λa b=>b▸rfl)
def Qr(h:og z=true)(x:Value):foldedSetIterable z env x=pure x:=by cases z<;>first|rfl|exact Ec h
section
variable {X:Ctx} {O:wb} {T:Tab} {k:Nat}
def KR{st':ia}{P:Prop}(e:bnd m f=some (.ok r,st'))(k:∀a st,m=some (.ok a,st)->f a st=some (.ok r,st')->P):P:=Et (R:=λm=>bnd m f=some (.ok r,st')->(∀a st,m=some (.ok a,st)->f a st=some (.ok r,st')->P)->P) m (λe x=>Cb e) (λa st e k=>k a st rfl e) (λt st e x=>nomatch e) e k
def IJ{st:ia}{r:List FV}{st':ia}{P:Prop}(h:Mine.foldC f (x::m) st=some (.ok r,st'))(k:∀y b d,f x st=some (.ok (.v y),b)->Mine.foldC f m b=some (.ok d,st')->y::d=r->P):P:=KR h λa b e h=>by induction a with|o i=>exact Cb h|v y=>exact KR h λl c g h=>by cases h;exact k y b l e g rfl
structure pD(cenv:Env)(T:Tab)(caps:List Str)(n:Str)(c:List Slot)(w:Wd):Prop where
 xs:T.xs=caps++ [n]
 nd:T.xs.Nodup
 loc:cenv.kindOf n=some .local
 len:c.length=caps.length
 no:∀z∈c,∀l,z≠ .own l
 cap:∀(m:Str->Option Value) (i:Nat) (x:Str) (z:Slot),caps[i]? =some x->c[i]? =some z->qf cenv w m 0 x z
 cl:∀x,x∈T.xs->cenv.kindOf x=some .cell->qi cenv w x
 ci:∀x y c,x∈T.xs->y∈T.xs->cenv.kindOf x=some .cell->cenv.kindOf y=some .cell->cenv.cells.lookup x=some c->cenv.cells.lookup y=some c->x=y
def append_one{n:f}{i:Nat}(h:r.length=l.length)(c:(l++ [n])[i]? =some x)(d:(r++ [b])[i]? =some y):(l[i]? =some x/\r[i]? =some y)\/(x=n/\y=b):=(Classical.em (i<l.length)).elim (λa=> .inl ⟨(getElem?_append_left a).symm.trans c,(getElem?_append_left (h▸a)).symm.trans d⟩) λa=>have e:=Nat.le_of_not_lt a
  .inr ⟨mem_singleton.mp (mem_of_getElem? ((getElem?_append_right e).symm.trans c)),mem_singleton.mp (mem_of_getElem? ((getElem?_append_right (h▸e)).symm.trans d))⟩
def pD.at{w₀ w:Wd}{v:Value}(x:pD cenv T p n c w₀)(S:Step w₀ w)(oL:Off w cenv.locals)(A:w.h.Ns cenv.locals m)(B:m n=some v)(r:wa w.G f v):Ab cenv T.xs w (c++ [.a (.v f)]) λb=>0:=have s:Lk cenv w₀ w λb=>False:=λa o e h b b=>⟨S.keep h.2 e,S.off e h⟩
 have d:∀{i:Nat} {l:List FV},(c++ [Slot.a (.v f)])[i]? =some (.own l)->False:=λe=>(mem_append.mp (mem_of_getElem? e)).elim (λh=>x.no _ h _ rfl) λh=>nomatch mem_singleton.mp h
 ⟨x.nd,by rw [x.xs,length_append,length_append,x.len];rfl,oL,⟨m,A,λi y z g q=>(append_one x.len (x.xs▸g) q).elim (λh=>by
   induction z with|u=>trivial|own l=>exact (d q).elim|a a=>exact qf.move S.up s (λb b b b b b b=>id) (λb b=>id) (λb=>id) (x.cap m i y _ h.1 h.2)) λh=>by rw [h.1,h.2];exact ⟨v,.loc x.loc B,r⟩⟩,
  λi j l C b e=>(d e).elim,λy g t=>(x.cl y g t).move s λb b b b b b=>id,x.ci⟩
structure ur(X:Ctx)(F:Fr)(w₀:Wd)(I D C:Addr)(w:Wd)(st:ia)(pre:List FV)(i:Nat):Prop where
 S:Step w₀ w
 g:Ea X F.l w st
 acc:ag w D pre
 pl:pre.length=i
 ns:∃mm,w.h.Ns C mm
 oI:Off w I
 oD:Off w D
 oC:Off w C
inductive WN(X:Ctx)(O:wb)(F:Fr)(w₀:Wd)(I D C:Addr)(St:Nat->Heap->Prop)(elt:E)(c:List Slot)(m rl:List FV)(stF:ia):Nat->Shared->Prop
 |mk:∀i w st pre rest,i<=m.length->ur X F w₀ I D C w st pre i->St i w.h->Mine.foldC (λx st=>pa O elt (c++ [.a (.v x)]) st) (m.drop i) st=some (.ok rest,stF)->pre++rest=rl->WN X O F w₀ I D C St elt c m rl stF (m.length-i) w.s
def Ns.step(S:Step w w')(h:w.h.Ns C mm)(o:Off w C):w'.h.Ns C mm/\Off w' C:=h.elim λb h=>h.elim λes h=>h.elim λa h=>⟨(S.keep o.2 h.1).elim λsl e=>⟨_,es,a,e,h.2⟩,S.off h.1 o⟩
def zz{m:List a}(h:m[i]? =some f):m.drop i=f::m.drop (i+1):=by rw [drop_eq_getElem_cons (List.getElem?_eq_some_iff.mp h).1,(List.getElem?_eq_some_iff.mp h).2]
def ag.step(S:Step w w')(d:ag w D l)(o:Off w D):ag w' D l/\Off w' D:=d.rec λxs n e r=>⟨⟨xs,n,S.same o.2 e (λx x z=>nomatch z),r.mono S.grow⟩,S.off e o⟩
structure tV(l:List Env)(w₀:Wd)(I D C:Addr):Prop where
 dI:w₀.h.get? I=none
 dD:w₀.h.get? D=none
 dC:w₀.h.get? C=none
 aI:Apart l I
 aD:Apart l D
 aC:Apart l C
 ID:I≠D
 IC:I≠C
 DC:D≠C
def UT(h:a∈([]:List b)){P:Prop}:P:=nomatch h
def ur.put{F:Fr}{st:ia}{h':Heap}(S:Step w₀ w)(I:Ea X F.l w st)(o:Off w a)(d:w₀.h.get? a=none)(ap:Apart F.l a)(kp:gone a w.h h'):Step w₀ (w.at h' tk)/\Ea X F.l (w.at h' tk) st:=⟨S.scratch (ch:=(·=a)) (λb z=>z▸d) λb o n e=>kp b o n e,I.scratch (ch:=(·=a)) (λb z=>z▸o) (λb z=>z▸ap) λb o n e=>kp b o n e⟩
def Mi(k:SameBut a h h'):gone a h h':=λb o hb e=>(k.2 b hb).trans e
def SX{st st':ia}{P:Prop}(h:ok a st=some (.ok b,st'))(k:a=b->st=st'->P):P:=by cases h;exact k rfl rfl
def kO{w₀:Wd}{st₀:ia}{P:E}{y z:Expr}{np pos:Pos}{stF stI:ia}{St:Nat->Heap->Prop}(he:Ha X O T k P)(hc:va T P y=true)(hF:FOK T k F)(I₀:Ea X F.l w₀ st₀)(W:yr X F.A w₀.G I m St)(P3:tV F.l w₀ I D F.env.locals)(L:pD F.env T caps n c w₀)(hm:m.length<=big)(hf:Mine.foldC (λx st=>pa O P (c++ [.a (.v x)]) st) m stI=some (.ok rl,stF))(Jv:ur X F w₀ I D F.env.locals wI stI [] 0)(hs0:St 0 wI.h)(hR:∀w,Step w₀ w->Ea X F.l w stF->ag w D rl->(∃mm,w.h.Ns F.env.locals mm)->Off w D->Off w F.env.locals->R (.ok .next) w.s):
  codeAny X.M F.A (.compLoop (.ListComp y [⟨.Name n np,z,[],0⟩] sc pos) 0 (.ref I) (.ref D) F.env) R wI.s:=by
 refine codeAny_compLoop_list (WN X O F w₀ I D F.env.locals St P c m rl stF) (λn' s' R₁=> ?_) m.length (WN.mk 0 wI stI [] rl (zero_le _) Jv hs0 hf rfl);induction R₁ with|mk i w st pre rest hi g hst j hrl=>
 by_cases G:i<m.length
 ·refine W.item i w.s _ _ G hst λf v H d hf₁ rf hst₁ a=>g.ns.elim λmm hns=> ?_;have p1:=ur.put (tk:=d) g.S g.g g.oI P3.dI P3.aI a;refine wpAny_assign_Name (wpAny_storeName_local (s:=(w.at H d).s) L.loc (hns.at' λo e=>a _ o P3.IC.symm e) (λh₂ B hs₂=> ?_) hF.e.pk);have A:=Mi hs₂;have p2:=ur.put (tk:=d+1) p1.1 p1.2 g.oC P3.dC P3.aC A;have d2:ag ((w.at H d).at h₂ (d+1)) D pre:=g.acc.rec λxs n e r=>⟨xs,n,A _ _ P3.DC (a _ _ P3.ID.symm e),r⟩;have st2:St (i+1) h₂:=W.keep _ _ _ hst₁ λb o hb e=>A b o (hb.elim (λz=>z▸P3.IC) λz q=>z.elim λo' z=>Zd (g.S.grow _ _ z) (q▸g.oC.1)) e;rw [zz hf₁] at j;refine IJ j λyv M rest' hel V hrest=>he y F _ (c++ [.a (.v f)]) (λt=>0) st hc hF ⟨p2.2,L.at p2.1 g.oC B (if_pos rfl) (rf.mono p2.1.grow)⟩ _ _ (rb (m:=some (.ok (AV.v yv),M)) hel.symm λw₃ u h I₃ ru=> ?_);have nC:=Ns.step h B g.oC;have nD:=d2.step h g.oD;refine (W.at' _ _ st2).elim λoI C=>C.elim λvI C=>nD.1.rec λxs na hD racc=> ?_;have hI₃:=h.same g.oI.2 C.1 (λt t z=>nomatch C.2.symm.trans z);have hl:pre.length=xs.size:=racc.length.trans length_toList;refine wpAny_list_append_plain (items:=xs) ⟨na,hD⟩ (λh₄ p hs₄=>p.elim λn₄ p=> ?_) (hl▸g.pl.symm▸Nat.le_trans (Nat.le_of_lt G) (Te hm));have l:=Mi hs₄;have p4:=ur.put (tk:=w₃.s.toks) (p2.1.trans h) I₃ nD.2 P3.dD P3.aD l;exact ⟨m.length- (i+1),Nat.sub_lt_sub_left G (lt_succ_self i),i+1,w₃.at h₄ _,M,pre++ [yv],rest',G,⟨p4.1,p4.2,⟨_,n₄,p,by rw [toList_push];exact racc.append (.cons ru .nil)⟩,by rw [length_append,g.pl];rfl,⟨_,nC.1.at' λo e=>l _ o P3.DC.symm e⟩,h.off C.1 g.oI,nD.2,nC.2⟩,W.keep _ _ _ st2 λb o hb e=>hb.elim (λz=>l b o (z▸P3.ID) (by rw [z] at e|-;rw [<-Option.some.inj (C.1.symm.trans e)];exact hI₃)) λz=>z.elim λo' z=>have gb:=h.grow _ _ (p2.1.grow _ _ z)
    l b o (λq=>Zd gb (q▸nD.2.1)) (Option.some.inj ((p2.2.gin _ _ (p2.1.grow _ _ z)).symm.trans e)▸I₃.gin _ _ gb),V,by rw [append_assoc,<-hrl,<-hrest];rfl⟩
 ·have hi':i=m.length:=Nat.le_antisymm hi (Nat.le_of_not_lt G);rw [hi',drop_length] at j;exact SX j λer est=>W.done w.s _ _ (hi'▸hst) λH d a=>have p1:=ur.put (tk:=d) g.S g.g g.oI P3.dI P3.aI a
   hR _ p1.1 (est▸p1.2) ((show pre=rl from (append_nil pre).symm.trans (er▸hrl))▸g.acc.rec λxs n e r=>⟨xs,n,a _ _ P3.ID.symm e,r⟩) (g.ns.imp λmm hns=>hns.at' λo e=>a _ o P3.IC.symm e) g.oD g.oC
end
section
variable {X:Ctx} {O:wb} {T:Tab} {k:Nat}
def fO:∀{c:List Slot},Kj sl b=some c->Eb (λi z=>∃a,z=Slot.a a/\sl[i]? =some (.a a)) b c:=by induction b with|nil=>exactλh=>Option.some.inj h▸ .nil|cons i r d=>intro c h;unfold Kj at h;induction q1:Lb sl[i]? with|none=>rw [q1] at h;exact Cb h|some x=>induction q2:Kj sl r with|none=>rw [q1,q2] at h;exact Cb h|some l=>rw [q1,q2] at h;exact Option.some.inj h▸ .cons ⟨x,rfl,Dv q1 id⟩ (d q2)
def mD(a:wc env T):(relabel sc env).names=Uk T.names sc.names:=by unfold relabel Uk Env.kindOf;rw [a.names,a.kind];refine congrArg (λf=>map f sc.names) (funext λp=> ?_);show (if (p.2==NameKind.free&&true&&T.names.lookup p.1==some NameKind.cell)=true then (p.1,NameKind.cell) else p)=(p.1,Xr T.names p.1 p.2);unfold Xr;rw [Bool.and_true];induction p.2==NameKind.free&&T.names.lookup p.1==some NameKind.cell<;>rfl
def Yv(h:names.lookup x=some kd)(e:Xr a x kd=kd'):(Uk a names).lookup x=some kd':=By.trans (by rw [h];exact congrArg some e)
structure CompI(T:Tab)(sc:Scope)(n:Str)(caps:List Nat):Prop where
 kind:sc.kind= .function
 loc:sc.names.lookup n=some .local
 cell:∀y∈sc.names,y.2≠ .cell
 free:∀y∈sc.names,y.2= .free->y.1∈Uc T caps
 lcs:∀y∈sc.names,y.2= .local->sc.names.lookup y.1=some .local
 cap:∀i∈caps,∃x,T.xs[i]? =some x/\Uc T [i]= [x]/\sc.names.lookup x=some .free/\T.names.lookup x=some .cell
 nd:(Uc T caps++ [n]).Nodup
def VX[BEq d][LawfulBEq d]{a b:d}{P:Prop}(h:(a !=b||c)=true)(e:a=b)(k:c=true->P):P:=k (by rw [e,bne_self_eq_false,Bool.false_or] at h;exact h)
def NJ{n:Str}(h:sy T sc n b=true):CompI T sc n b:=a2 h λh m=>a2 h λh l=>a2 h λh j=>a2 h λf g=>have q3:=λ(y:Str×NameKind) (a:y∈sc.names)=>all_eq_true.mp j y a
  ⟨beq_iff_eq.mp f,Vb g,λy a=>a2 (q3 y a) λh x=>a2 h λh x=>bne_iff_ne.mp h,λy a e=>a2 (q3 y a) λh x=>a2 h λx h=>VX h e contains_iff_mem.mp,λy a e=>a2 (q3 y a) λx h=>VX h e Vb,λi p=>a2 (all_eq_true.mp l i p) λh d=>a2 h λo c=>by have e:=getElem?_eq_getElem (of_decide_eq_true o);rw [e] at c d;exact ⟨_,e,by unfold Uc;rw [map_cons,e];rfl,Vb c,Vb d⟩,of_decide_eq_true m⟩
def CompI.name(K:CompI T sc n a)(h:x∈Uc T a):x∈T.xs/\T.names.lookup x=some .cell/\sc.names.lookup x=some .free:=by refine (mem_map.mp h).elim λi h=>(K.cap i h.1).elim λy b=> ?_;have e:y=x:=(show y=(T.xs[i]?).getD empty by rw [b.1];rfl).trans h.2;exact e▸⟨mem_of_getElem? b.1,b.2.2.2,b.2.2.1⟩
abbrev So(sc:Scope)(env:Env)(C:Addr):Env:=compEnvC sc (Lj env sc.names) C env
def pw(K:CompI T sc n a)(b:wc env T):wc (So sc env C) (T.comp sc n a):=⟨mD b,K.kind,b.globals,b.builtins⟩
section
variable {sc:Scope} {n:Str} {caps:List Nat} {F:Fr} {C:Addr} {w:Wd} {sl:List Slot} {ow:Nat->Addr} (K:CompI T sc n caps) (hE:wc F.env T) (L:Ab F.env T.xs w sl ow)
include K hE L
theorem zB(h:x∈Uc T caps):(F.env.cells.lookup x).isSome:=(L.cl x (K.name h).1 (hE.of (K.name h).2.1)).rec λa a a e a a a=>eg e
theorem zi(h:x∈Uc T caps):(So sc F.env C).kindOf x=some .cell/\(So sc F.env C).cells.lookup x=F.env.cells.lookup x:=⟨(pw K hE).of (Yv (K.name h).2.2 (by unfold Xr;rw [(K.name h).2.1];rfl)),YD (zB K hE L h) (mem_of_lookup (K.name h).2.2)⟩
theorem bE:(So sc F.env C).kindOf n=some .local:=(pw K hE).of (Yv K.loc rfl)
theorem qJ(V:Kj sl caps=some c):pD (So sc F.env C) (T.comp sc n caps) (Uc T caps) n c w:=by
 have q:=fO V;have p:∀x,x∈Uc T caps++ [n]->(So sc F.env C).kindOf x=some .cell->x∈Uc T caps:=λx d G=>(mem_append.mp d).elim id λh=>nomatch (mem_singleton.mp h▸G).symm.trans (bE K hE L);refine ⟨rfl,K.nd,bE K hE L,q.length.symm.trans (length_map ..).symm,λz H l e=> ?_,λm i x z d H=> ?_,λx d G=> ?_,λx y c d f kx ky lx ly=> ?_⟩;·exact (getElem_of_mem H).elim λi h=>h.elim λW h=>(q.back (List.getElem?_eq_some_iff.mpr ⟨W,h⟩)).elim λu h=>h.2.elim λu h=>nomatch e.symm.trans h.1
 ·have g:=mem_of_getElem? d;refine (q.back H).elim λj D=>D.2.elim λa P=>(K.cap j (mem_of_getElem? D.1)).elim λy f=> ?_;have e:y=x:=by
   unfold Uc at d;rw [getElem?_map,D.1] at d;exact (show y=(T.xs[j]?).getD empty by rw [f.1];rfl).trans (Option.some.inj d)
  rw [P.1];exact L.nm.rec λmm u h=>Br.rec (λv b r=>Kk.rec (λM u=>nomatch (e▸M).symm.trans (hE.of (K.name g).2.1)) (λc o M s t A B=>⟨v,.cell c o (zi K hE L g).1 ((zi K hE L g).2.trans (e▸s)) t A B,r⟩) b) (h j y (.a a) f.1 P.2)
 ·have g:=p x d G;exact (L.cl x (K.name g).1 (hE.of (K.name g).2.1)).rec λc o v s t A B=>⟨c,o,v,(zi K hE L g).2.trans s,t,A,B⟩
 ·have d:=p x d kx;have f:=p y f ky;exact L.ci x y c (K.name d).1 (K.name f).1 (hE.of (K.name d).2.1) (hE.of (K.name f).2.1) ((zi K hE L d).2.symm.trans lx) ((zi K hE L f).2.symm.trans ly)
end
def RN{F:Fr}{st:ia}(I:Ea X F.l w st)(j:Made X w m o)(i:SameBut ((w.h.push o).push (td #[] 0)).objs.size (((w.h.push o).push (td #[] 0)).push o₃) a):
  tV F.l w w.h.objs.size (w.h.push o).objs.size ((w.h.push o).push (td #[] 0)).objs.size/\(∀b x,(w.h.push o).get? b=some x->a.get? b=some x)/\ag (w.at a tk) (w.h.push o).objs.size []:=by
 have s1:(w.h.push o).objs.size=w.h.objs.size+1:=size_push _ _;have s2:((w.h.push o).push (td #[] 0)).objs.size=w.h.objs.size+1+1:=(size_push _ _).trans (congrArg Nat.succ s1);have c:∀b,w.h.objs.size<=b->w.h.get? b=none:=λb hb=>get?_none_of_le hb;have d:∀b x,((w.h.push o).push (td #[] 0)).get? b=some x->a.get? b=some x:=λb x e=>(i.2 b (ne_of_lt (lt_size e))).trans (Ob b x e);have g:=c _ (Nat.le_of_lt (s1▸lt_succ_self _:w.h.objs.size<(w.h.push o).objs.size));have h:=c _ (s2▸le_add_right _ 2:w.h.objs.size<=((w.h.push o).push (td #[] 0)).objs.size);have f:=Ka w.h;exact ⟨⟨f,g,h,I.apart f,I.apart g,I.apart h,s1▸(succ_ne_self _).symm,λz=>absurd (z.trans s2) (ne_of_lt (lt_succ_of_lt (lt_succ_self _))),λz=>absurd (s1.symm.trans (z.trans s2)) (ne_of_lt (lt_succ_self _))⟩,λb x e=>d b x (Ob b x e),⟨#[],0,d _ _ (get?_push_size _ rfl),.nil⟩⟩
def aE(l it:E)(i:List Nat)(hit:qz X O T k it)(V:∀sc n,Ha X O (T.comp sc n i) k l){st:ia}{E:Value->Shared->Prop}(c1:Wh T it z=true) (c2:og z=true) (c3:Jg it=true) (c4:sy T sc n i=true) (c5:va (T.comp sc n i) l y=true) (H:FOK T k F) (Jv:J X F T w sl ow st) (c:Yu X F w Z (pa O (.comp l it i) sl st) E)(fin:∀rl st' f D C,Z (.v (.lst rl)) st'->Step w f->Ea X F.l f st'->ag f D rl->Off f D->w.h.get? D=none->D≠C->(∃mm,f.h.Ns C mm)->Off f C->w.h.get? C=none->compPost X.M F.A E use Q (.ref D) C (.ok .next) f.s):
  wpAny X.M F.A (comprehension (.ListComp y [⟨.Name n np,z,[],0⟩] sc pos) sc F.env cpos (PySem.newList []) false (eval z F.env) use) Q E w.s:=by
 have K:=NJ c4;refine wpAny_comprehension_free (use:=use) rfl (Qr c2) (oJ λx hx=>zB K H.e Jv.l (K.free _ hx rfl)) K.kind K.lcs ((hit z F w sl ow st c1 (λa e=>Ec (e▸c3:Jg (.enm a)=true)) H Jv).bndZ c λm G w₁ v j g W c=> ?_);have M:=Jv.l.step j;induction A:Kj sl i with
 |none=>rw [A] at c;exact c.elim|some cs=>
  rw [A] at c;by_cases hz:m.length<=big
  ·dsimp only at c;rw [if_pos hz] at c;induction hf:Mine.foldC (λx st=>pa O l (cs++ [.a (.v x)]) st) m G with
   |none=>rw [hf] at c;exact c.elim|some p=>
    induction p with|mk r stF=>induction r with
    |error t=>rw [hf] at c;exact c.elim|ok rl=>
     rw [hf] at c;refine tI g W λo hm=>wpAny_newObj_type (wpAny_newFunctionEnv K.cell (λu h=>UT h) (λs q B=> ?_) K.kind);have N:=RN (tk:=w₁.s.toks) g hm B;have kp:∀b x,w₁.h.get? b=some x->s.get? b=some x:=λb x e=>N.2.1 b x (Ob b x e);refine hm.rec λvs ho fo hg=>(hg F.A H.a.handled).elim λSt hW=> ?_;have st2:=hW.1.keep _ _ _ hW.2 λb x u e=>N.2.1 b x e;have main:=kO (X:=X) (F:={F with env:=So sc F.env ((w₁.h.push o).push (td #[] 0)).objs.size}) (R:=compPost X.M F.A E use Q (.ref (w₁.h.push o).objs.size) ((w₁.h.push o).push (td #[] 0)).objs.size) (w₀:=w₁) (wI:=w₁.at s w₁.s.toks) (np:=np) (pos:=pos) (sc:=sc) (z:=z) (V sc n) c5 ⟨H.a,pw K H.e⟩ g hW.1 N.1 (qJ K H.e M A) hz hf
      ⟨Step.kept kp,g.kept kp,N.2.2,rfl,⟨_,q⟩,g.off N.1.dI,g.off N.1.dD,g.off N.1.dC⟩ st2 λf P L d hn oD oC=>fin rl stF f _ _ c (j.trans P) L d oD (j.dead _ N.1.dD) N.1.DC hn oC (j.dead _ N.1.dC)
     exact codeAny_compStart_list main (hW.1.self 0 _ _ _ st2 main)
  ·dsimp only at c;rw [if_neg hz] at c;exact c.elim
def KQ(g it:E)(a:List Nat)(o:qz X O T k it)(j:∀sc n,Ha X O (T.comp sc n a) k g):Ha X O T k (.comp g it a):=λx F w sl H st v u l Q E c=>Xz v (P:=λx=>wpAny X.M F.A (eval x F.env) Q E w.s) λy n np z sc pos c1 c2 c3 c4 c5=>by rw [eval_ListComp];refine aE g it a o j c1 c2 c3 c4 c5 u l c λL st' e D C c i h d oD r m p oC q=>p.elim λA p=>⟨A,p,λf b=>d.rec λxs B t G=> ?_⟩;have s:=ur.put (tk:=e.s.toks) i h oC q (l.g.apart q) (Mi b);exact c ((e.at f _).frz D (td xs B)) _ (s.1.freeze r oD.1) (s.2.freeze (w:=e.at f _) oD (l.g.apart r) (Mi b _ _ m t)) (wa.lst (Bc _ _ _) rfl rfl (G.mono (lg oD.1)))
end
section
variable {X:Ctx} {O:wb} {T:Tab} {k:Nat}
noncomputable def Bt:Expr->Bool| .UnaryOp .Not x a=>false| .BoolOp .. =>false| .IfExp .. =>false| .Compare .. =>false|x=>true
def yM(h:Bt x=true):isTrue x env t=(do let v<-t;standAt x.pos;holding [v] (truthy v)):=by
 cases x with
 |UnaryOp d y p=>induction d<;>first|rfl|exact Ec h
 |BoolOp a b z=>exact Ec h|IfExp a b z c=>exact Ec h|Compare a b z c=>exact Ec h| _=>rfl
def oh(h:Ha X O T k e)(d:∀x,va T e x=true->Bt x=true):He X O T k e:=λx F w sl f st b c a=>(h x F w sl f st b c a).test a.l (yM (d x b))
def Y4{z:Option Slot}{st:ia}:Md (match z with|some (.a (.o i))=>(match (st[i]? :Option PO) with|some (.dl l)=>retB (Oh (.lst l) (.lst [])) st| _=>none)| _=>none)=(match z with|some (.a (.o i))=>(match (st[i]? :Option PO) with|some (.dl l)=>lift (Oh (.lst l) (.lst [])) st| _=>none)| _=>none):=by
 induction z with
 |none=>rfl|some s=>induction s with
  |a x=>induction x with|v y=>rfl|o i=>show Md (match (st[i]? :Option PO) with|some (.dl l)=>retB (Oh (.lst l) (.lst [])) st| _=>none)=(match (st[i]? :Option PO) with|some (.dl l)=>lift (Oh (.lst l) (.lst [])) st| _=>none);induction st[i]? with|none=>rfl|some p=>induction p with|inst y b=>rfl|dl l=>exact Px
  | _=>rfl
def yL(v:Nat):He X O T k (.emptyq v):=λx F w sl u st h e d Q E c=>Ur h (P:=λx=>wpAny X.M F.A (isTrue x F.env (eval x F.env)) Q E w.s) λx p z A c1=>fE (R:=RB) (rb Y4 c) λi m l r c=>Oa.lift c λb q c=>wpAny_isTrue_Compare1 (xg e.e d.l c1 l λv t=>wpAny_List (wpAny_items_nil ⟨zero_le _,(qn d.g r t).rec (motive:=λv y=>wpAny X.M F.A (compareOp .Eq v (.ref w.h.objs.size)) _ E {w.s with heap:=w.h.push {cls:= .type "list",data:= .seq ([]:List Value).toArray}}) λa y f=>f.rec λxs n j s=>lI q λds q1 s1 s2 g=>have S:=Step.push (o:={cls:= .type "list",data:= .seq ([]:List Value).toArray}) (tk:=w.s.toks) d.g
  have I:=d.g.push (o:={cls:= .type "list",data:= .seq ([]:List Value).toArray}) (tk:=w.s.toks) rfl
  ((s.mono S.grow).reads I.gin q1).elim λas rd=>eq_dataH (.list (Ob _ _ j) rfl rfl rd) (.list (get?_push_size _ rfl) rfl rfl .nil) s1 s2 e.a.u64 (g▸wpAny_truthy_bool (c (w.push _ _) b S I rfl))⟩)) rfl
noncomputable def IW(e:E):Bool:=beq e.ctorIdx 17||beq e.ctorIdx 18
def Fv(a:IW e=false):ri X O T k e:=λxs pos F w sl c st b=>by induction e<;>first|exact tS a|exact Ec b
def gN{F:Fr}{w:Wd}{st:ia}(c:Xd X RIt F w (Ye a b) st Q)(I:Ea X F.l w st)(d:mid a=true)(hb:mid b=true)(t u v:Tok)(tk:Nat):Q (.ref w.h.objs.size) {w.s with heap:=w.h.push {cls:= .type "range",data:= .fields #[.int a t,.int b u,.int 1 v]},toks:=tk}:=c (w.push _ tk) _ (.push I) (I.push rfl) (.rng d hb (Bc _ _ _))
def GQ(B:ib X)(a:E)(j:Ha X O T k a):qz X O T k (.rng a):=λx F w sl n st l b h e Q E c=>GW (hO l) (P:=λx=>wpAny X.M F.A (eval x F.env) Q E w.s) λx p y q c1 c2 c3=>uf B h.e e.g c1 c3 B.b_range (PySem.callWith_type1 ((j y F w sl n st c2 h e).onI e.l (rb LB c) λi o f w₁ g d c=>c.ite λm c=>call_range_1 (gN (a:=0) c d.g (by decide) m _ _ _ _)))
def tN(B:ib X)(a b:E)(H:Ha X O T k a)(hb:Ha X O T k b):qz X O T k (.rng2 a b):=λx F w sl v st L u o m Q E c=>JT (VL L) (P:=λx=>wpAny X.M F.A (eval x F.env) Q E w.s) λx p y z W c1 c2 c3 c4 c5=>a2 c1 λh G=>a2 h λe n=>have t:=Fx c3 (Fx (l:= []) c5 λu h=>nomatch h)
 Call_Name rfl (gs B o.e m.g n (Th G) (vb e▸B.b_range) (PySem.callWith_type (zq t) (Se t (wpAny_items_cons ((H y F w sl v st c2 o m).onI m.l (rb ey c) λi V f w₁ r d c=>wpAny_items_cons ((hb z F w₁ sl v f c4 o d).onI d.l c λj A q C s g c=>wpAny_items_nil (c.ite λM c=>a2 M λD n=>call_range_2 (gN c g.g D n _ _ _ _))) (by cases z<;>first|rfl|exact Ec c5)) (by cases y<;>first|rfl|exact Ec c3)))))
def wq(j:isJ e=false)(h:Ha X O T k e):qz X O T k e:=λx F w sl o st n p l g Q E c=>(h x F w sl o st ((UL j).symm.trans n) l g).onV g.l (rb (m':=itR (pa O e sl st)) (by unfold Sd iR;rw [j]) c) λf d w₁ v i a b c=>by induction q:pb f with|none=>rw [q] at c;exact c.elim|some m=>rw [q] at c;exact c w₁ v .refl a.g (.seq b q)
structure Oe(X:Ctx)(O:wb)(T:Tab)(k:Nat)(ex:E):Prop where
 e:Ha X O T k ex
 t:He X O T k ex
 es:ri X O T k ex
 i:qz X O T k ex
def pe.comp(h:pe X O T k)(sc:Scope)(n:Str)(a:List Nat):pe X O (T.comp sc n a) k:=⟨h.glob,h.call,h.cls,h.ats,h.meth⟩
def Oe.of{e:E}(h:Ha X O T k e)(t:He X O T k e)(a:IW e=false)(b:isJ e=false):Oe X O T k e:=⟨h,t,Fv a,wq b h⟩
def Oe.mk1{e:E}(h:Ha X O T k e)(c:∀x,va T e x=true->Bt x=true)(a:IW e=false)(b:isJ e=false):Oe X O T k e:= .of h (oh h c) a b
def Su(h:∀x,va T e x=false):Ha X O T k e:=λx F w sl b st a=>Ec ((h x).symm.trans a)
def nB(B:ib X)(e:E):∀{T:Tab},pe X O T k->Oe X O T k e:=by induction e with|cst c=>intro T d;exact .mk1 (xU c) (λx h=>by apply QE h<;>intros<;>rfl) rfl rfl|var i=>intro T d;exact .mk1 (IU i) (λx h=>by apply jF h<;>intros<;>rfl) rfl rfl|glob i=>intro T d;exact .mk1 (LQ B d i) (λx h=>by apply Yz h<;>intros<;>rfl) rfl rfl|bin s a b g hb=>intro T d;exact .mk1 (vU s a b (g d).e (hb d).e) (λx h=>by apply OE h<;>intros<;>rfl) rfl rfl|cmp s a b g hb=>intro T d;exact .of (wU s a b (g d).e (hb d).e) (fV s a b (g d).e (hb d).e) rfl rfl|cmp2 p q a b c g hb y=>intro T d;exact .of (JQ p q a b c (g d).e (hb d).e (y d).e) (pR p q a b c (g d).e (hb d).e (y d).e) rfl rfl|and a b g hb=>intro T d;exact .of (snd_and a b (g d).e (hb d).e) (bV a b (g d).t (hb d).t) rfl rfl|or a b g hb=>intro T d;exact .of (DZ a b (g d).e (hb d).e) (n4 a b (g d).t (hb d).t) rfl rfl|not a g=>intro T d;exact .of (DU a (g d).e) (iV a (g d).t) rfl rfl|ite t a b A g hb=>intro T d;exact .of (zU t a b (A d).t (g d).e (hb d).e) (gV t a b (A d).t (g d).t (hb d).t) rfl rfl|neg n=>intro T d;exact .mk1 (CU n) (λx h=>by apply XE h<;>intros<;>rfl) rfl rfl|idx a i g r=>intro T d;exact .mk1 (yU a i (g d).e (r d).e) (λx h=>by apply RE h<;>intros<;>rfl) rfl rfl|idxv v i r=>intro T d;exact .mk1 (MQ v i (r d).e) (λx h=>by apply Zz h<;>intros<;>rfl) rfl rfl|slc a H r g D C=>intro T d;exact .mk1 (GU a H r (g d).e (JS (D d).e) (JS (C d).e)) (λx h=>by apply dF h<;>intros<;>rfl) rfl rfl|rev a g=>intro T d;exact .mk1 (FU a (g d).e) (λx h=>by apply qy h<;>intros<;>rfl) rfl rfl|tup es j=>intro T d;exact .mk1 (HU es (j d).es) (λx h=>by apply fF h<;>intros<;>rfl) rfl rfl|lst es j=>intro T d;exact .mk1 (BU es (j d).es) (λx h=>by apply WE h<;>intros<;>rfl) rfl rfl|nil=>intro T d;have h:Ha X O T k .nil:=Su λx=>rfl;exact ⟨h,oh h (λx h=>(Bool.false_ne_true h).elim),SQ,wq rfl h⟩|cons a es g j=>intro T d;have h:Ha X O T k (.cons a es):=Su λx=>rfl;exact ⟨h,oh h (λx h=>(Bool.false_ne_true h).elim),wN a es (g d).e (j d).es,wq rfl h⟩|call f es j=>intro T d;exact .mk1 (IQ B d f es (j d).es) (λx h=>by apply Vz h<;>intros<;>rfl) rfl rfl|len a g=>intro T d;exact .mk1 (AU B a (g d).e) (λx h=>by apply VE h<;>intros<;>rfl) rfl rfl|lenv v=>intro T d;exact .mk1 (OQ B v) (λx h=>by apply bA h<;>intros<;>rfl) rfl rfl|listf a g=>intro T d;exact .mk1 (uN B a (g d).e) (λx h=>by apply Hw h<;>intros<;>rfl) rfl rfl|bytesf a g=>intro T d;exact .mk1 (XK B a (g d).e) (λx h=>by apply Sr h<;>intros<;>rfl) rfl rfl|intf a g=>intro T d;exact .mk1 (NQ B a (g d).e) (λx h=>by apply aA h<;>intros<;>rfl) rfl rfl|sumf a g=>intro T d;exact .mk1 (RQ B a (g d).e) (λx h=>by apply iA h<;>intros<;>rfl) rfl rfl|make c es j=>intro T d;exact .mk1 (PQ B d c es (j d).es) (λx h=>by apply eA h<;>intros<;>rfl) rfl rfl|meth a m es g j=>intro T d;exact .mk1 (QQ B d a m es (g d).e (j d).es) (λx h=>by apply gA h<;>intros<;>rfl) rfl rfl|attr a m g=>intro T d;exact .mk1 (HQ B d a m (g d).e) (λx h=>by apply Uz h<;>intros<;>rfl) rfl rfl|pop v=>intro T d;exact .mk1 (EU v) (λx h=>by apply ZE h<;>intros<;>rfl) rfl rfl|emptyq v=>intro T d;exact .of (YK v) (yL v) rfl rfl|rng a g=>intro T d;have h:Ha X O T k (.rng a):=Su λx=>rfl;exact ⟨h,oh h (λx h=>(Bool.false_ne_true h).elim),Fv rfl,GQ B a (g d).e⟩|rng2 a b g hb=>intro T d;have h:Ha X O T k (.rng2 a b):=Su λx=>rfl;exact ⟨h,oh h (λx h=>(Bool.false_ne_true h).elim),Fv rfl,tN B a b (g d).e (hb d).e⟩|enm a g=>intro T d;have h:Ha X O T k (.enm a):=Su λx=>rfl;exact ⟨h,oh h (λx h=>(Bool.false_ne_true h).elim),Fv rfl,λx F w sl L st y G=>absurd rfl (G a)⟩|comp u it l o z=>intro T d;exact .mk1 (KQ u it l (z d).i (λsc n=>(o (d.comp sc n l)).e)) (λx h=>by apply Xz h<;>intros<;>rfl) rfl rfl
end
structure Later(hb h h':Heap):Prop where
 kp:∀b o,(hb.get? b).isSome->h.get? b=some o->Kept h' b o
 alive:∀b,(h.get? b).isSome->(h'.get? b).isSome
def Later.refl(hb h:Heap):Later hb h h:=⟨λx x x e=> .inl e,λx e=>e⟩
def Later.trans(x:Later hb a c)(y:Later hb c h₃):Later hb a h₃:=⟨λb o d e=>(x.kp b o d e).trans λf=>y.kp b f d,λb e=>y.alive _ (x.alive _ e)⟩
def Later.dead(x:Later hb h h')(k:∀b,h.get? b=none->hb.get? b=none)(b:Addr)(e:h'.get? b=none):hb.get? b=none:=k b (vz (x.alive b) e)
def Step.later(S:Step w₀ w)(x:Later w₀.h w.h h'):Step w₀ (w.at h' tk):=⟨S.grow,S.fresh,λb o hb e=>(S.kp b o hb e).trans λa=>x.kp b a (eg e),λb e=>x.alive _ (S.alive _ e),S.more,S.rest⟩
def zb.later(S:zb env P w₀ w)(x:Later w₀.h w.h h'):zb env P w₀ (w.at h' tk):=⟨S.grow,S.fresh,λb o hb e=>(S.kp b o hb e).trans λa=>x.kp b a (eg e),λb e=>x.alive _ (S.alive _ e),S.more,S.rest⟩
inductive Tb(h:Heap)(e:Addr):Prop
 |mk:∀oe vs T,h.get? e=some oe->oe.data= .fields vs->vs[1]? =some (.ref T)->Tb h e
section
variable {X:Ctx} {A:Around} {l:List Env} {w:Wd} {st:ia} {t:FV} {e:Addr} {f:Option Addr} {hb:Heap}
structure bg(X:Ctx)(hb:Heap)(w:Wd)(l:List Env)(st:ia)(f:Option Addr)(t:FV)(e:Addr)(h':Heap)(tk:Nat):Prop where
 lat:Later hb w.h h'
 glo:Ea X l (w.at h' tk) st
 exc:Exc X hb (w.at h' tk) l f t e
def UR(I:Ea X l w st)(m:hb.get? a=none)(p:Off w a)(ap:Apart l a)(i:(h'.get? a).isSome)(kp:∀b o,b≠a->w.h.get? b=some o->iJ l h' b o):Later hb w.h h'/\Ea X l (w.at h' tk) st:=⟨⟨λb o i g=>(kp b o (λc=>Ec (m▸c▸i:(none:Option Obj).isSome=true)) g).imp id λz=>z.1.elim λk h=>(I.frD k h.1 b h.2).elim λq d=>d.elim λes d=>d.elim λn d=>z.2.elim λsl z=>⟨es,n,sl,Option.some.inj (d.1.symm.trans g)▸d.2,z⟩,λb j=>(Classical.em (b=a)).elim (λc=>c▸i) λc=>Nl j λo g=>(kp b o c g).elim eg λz=>z.2.elim λx z=>eg z⟩,I.but (ch:=(·=a)) (λb c=>c▸p) kp λL c h=>h.elim λk h=>absurd h.2 (ap k h.1|>λz=>c▸z)⟩
def mz.at(x:mz X hb w l t e d)(kp:∀es n,w.h.get? d=some (gv es n)->h'.get? d=some (gv es n)):mz X hb (w.at h' tk) l t e d:=x.rec λn a v b a2 c g h i j=> .mk n a v (kp _ _ b) a2 c g h i j
noncomputable abbrev Zab(X:Ctx)(d:Addr)(vs:Array Value)(sl:Array (Option Value)):Obj:=⟨.ref X.BE,some d,.fields vs,sl⟩
noncomputable abbrev setAt(i:Nat)(v:Value):Obj->Obj:=Obj.mapFields (·.setIfInBounds i v)
def Kx{vs:Array Value}(h:i<vs.size):(vs.setIfInBounds i v)[i]? =some v:=Array.getElem?_setIfInBounds_self_of_lt h
def cI{h:Heap}(c:h.get? a=some (gv es n))(d:h.get? b=some o)(g:o.data= .fields vs):a≠b:=λz=>nomatch g.symm.trans (congrArg Obj.data (Option.some.inj (d.symm.trans ((congrArg h.get? z).symm.trans c))))
def qE{env:Env}{E:Value->Shared->Prop}(hl:l=env::M)(hA:A.frames=some l)(hf:env.frame=some L)(I:Ea X l w st)(x:Exc X hb w l f t e) (V:∀b,w.h.get? b=none->hb.get? b=none) (h:∀h' tk,bg X hb w l st (some L) t e h' tk->Tb h' e->Q () (w.at h' tk).s):
  wpAny X.M A (do let a<-frameOf env;let pl<-entryPlaceOf L hadNext;let b<-EntryCells.newEntry head a .none (rawInt L) .none pl;setField (.ref e) 1 b) Q E w.s:=
 x.rec λsl d vs u he D h1 y=>by
  have H:1<vs.size:=(Array.getElem?_eq_some_iff.mp h1).1;refine wpAny_bind (wpAny_frameOf_fun (hl▸hA) (hl▸I.frames) hf λg r=>wpAny_bind (wpAny_entryPlaceOf λpl hpl=> ?_));unfold EntryCells.newEntry newFields;refine wpAny_bind (wpAny_newObj_type ?_ (hpl.sizeOk5 _ _ _ _ _));have ap:=I.apartO he λy y z=>nomatch z;have j:∀b o,w.h.get? b=some o->iJ l g b o:=λb o F=>(Classical.em (b∈(env::M).filterMap (·.frame))).elim (λhm=> .inr ⟨(mem_filterMap.mp hm).imp λen h=>hl▸h,r.2.2 b o F⟩) λhm=> .inl ((r.2.1 b hm).trans F);have G:∀b o,Apart l b->w.h.get? b=some o->g.get? b=some o:=λb o ha F=>(j b o F).elim id λz=>z.1.elim λen h=>absurd h.2 (ha en h.1);generalize hto:({cls:= .type "traceback",dict:=none,data:= .fields ([head,.ref L,.none,rawInt L,.none]++(if pl.isEmpty then replicate 6 Value.none else pl)).toArray}:Obj)=C;have B:∃P,C.data= .fields P/\P[3]? =some (rawInt L):=hto▸⟨_,rfl,rfl⟩;have n:=G e _ ap he;have O:g.objs.size≠e:=Nat.ne_of_gt (lt_size n);have p:=Ob (o:=C) _ _ n;refine wpAny_setField p rfl H ?_;have i:=get?_update_self (setAt 1 (ref g.objs.size)) p rfl;have k:∀b o,b≠e->g.get? b=some o->((g.push C).update e (setAt 1 (ref g.objs.size))).get? b=some o:=λb o W F=>(get?_update_other _ _ (Ne.symm W)).trans (Ob _ _ F);have m:w.h.get? g.objs.size=none:=Ue λo q=>(j _ o q).elim (λz=>Zd z (Ka _)) λz=>z.2.elim λy z=>Zd z (Ka _);refine D.rec λdn tok v d1 d2 d3 d4 d5 d6 d7=> ?_;have fl:=UR (hb:=hb) (tk:=w.s.toks) (h':=(g.push C).update e (setAt 1 (ref g.objs.size))) I d3 d4 ap (eg i) λb o c F=>(j b o F).imp (k b o c) λz=>⟨z.1,z.2.imp λs z=>k b _ c z⟩;exact B.elim λP B=>h _ w.s.toks ⟨fl.1,fl.2,.mk sl d _ _ i (.mk dn tok v (k d _ (cI d1 he rfl) (G d _ d6 d1)) d2 d3 d4 d5 d6 d7) (Kx H)
   (.mk g.objs.size C P (rawInt L) O ((get?_update_other _ _ (Ne.symm O)).trans (get?_push_size g (Obj.isFreed_of_fields B.1))) B.1 B.2 (.at L rfl) (V _ m) (I.off m))⟩ ⟨_,_,g.objs.size,i,rfl,Kx H⟩
def zI{T d:Addr}{E:Value->Shared->Prop}(I:Ea X l w st)(C:w.h.get? e=some (Zab X d vs sl)) (D:mz X hb w l t e d) (y:vs[1]? =some (.ref T)) (i:T≠e) (r:w.h.get? T=some oT) (s:oT.data= .fields G) (B:3<G.size) (F:MarkV fr v) (j:hb.get? T=none) (p:Off w T)(h:∀h' tk,bg X hb w l st fr t e h' tk->Tb h' e->Q () (w.at h' tk).s):wpAny X.M A (setField (.ref T) 3 v) Q E w.s:=by refine wpAny_setField r s B ?_;have k:=Obj.data_mapFields s (·.setIfInBounds 3 v);have a:=get?_update_self (setAt 3 v) r (Obj.isFreed_of_fields k);have g:∀b o,b≠T->w.h.get? b=some o->(w.h.update T (setAt 3 v)).get? b=some o:=λb o hb u=>(get?_update_other _ _ (Ne.symm hb)).trans u;have fl:=UR (hb:=hb) (tk:=w.s.toks) (h':=w.h.update T (setAt 3 v)) I j p (I.apartO r λx x z=>nomatch s.symm.trans z) (eg a) λb o c u=> .inl (g b o c u);have m:=g e _ (Ne.symm i) C;exact h _ w.s.toks ⟨fl.1,fl.2,.mk sl d vs _ m (D.at λes n q=>g d _ (cI q r s) q) y (.mk T _ _ v i a k (Kx B) F j p)⟩ ⟨_,vs,T,m,rfl,y⟩
def Vk{E:Value->Shared->Prop}(I:Ea X l w st)(x:Exc X hb w l f t e)(h:∀h' tk,bg X hb w l st fr t e h' tk->(Tb w.h e->Tb h' e)->Q () (w.at h' tk).s):wpAny X.M A (setFlight (.ref e) fr) Q E w.s:=by
 unfold setFlight;exact x.rec λsl d vs u c D b o=>Gq.rec (motive:=λu a=>vs[1]? =some u->wpAny X.M A _ Q E w.s) (λb=>wpAny_bind (wpAny_field c rfl b (wpAny_pure (h w.h w.s.toks ⟨.refl _ _,I,.mk sl d vs _ c D b .no⟩ id))))
  (λT p q y g m n k a i j b=>wpAny_bind (wpAny_field c rfl b (zI I c D b g m n (Array.getElem?_eq_some_iff.mp k).1 (by induction fr<;>first|exact .no|exact .at _ rfl) i j λh' tk q1 q2=>h h' tk q1 λa=>q2))) o b
def bg.trans(x:bg X hb w l st f₁ t e a tk₁)(y:bg X hb (w.at a tk₁) l st f₂ t e b tk₂):bg X hb w l st f₂ t e b tk₂:=⟨x.lat.trans y.lat,y.glo,y.exc⟩
def Gq.at{vs:Array Value}{P:Value->Sem Unit}{E:Value->Shared->Prop}(d:Gq hb w f e u)(c:vs[1]? =some u)(k0:vs[1]? =some .none->wpAny X.M A (P .none) Q E s)(k:∀T a b y,T≠e->w.h.get? T=some a->a.data= .fields b->b[3]? =some y->MarkV f y->hb.get? T=none->Off w T->vs[1]? =some (.ref T)->wpAny X.M A (P (.ref T)) Q E s):wpAny X.M A (P u) Q E s:=Gq.rec (motive:=λu x=>vs[1]? =some u->wpAny X.M A (P u) Q E s) k0 k d c
def MarkV.at'{a:Array Value}{P:Value->Sem Unit}{E:Value->Shared->Prop}(c:MarkV f y)(b:a[3]? =some y)(k0:a[3]? =some .none->wpAny X.M A (P .none) Q E s)(k:∀L,f=some L->a[3]? =some (rawInt L)->wpAny X.M A (P (rawInt L)) Q E s):wpAny X.M A (P y) Q E s:=MarkV.rec (motive:=λy x=>a[3]? =some y->wpAny X.M A (P y) Q E s) k0 k c b
def pA{env:Env}{E:Value->Shared->Prop}(G:l=env::s)(hA:A.frames=some l)(p:env.frame=some L)(I:Ea X l w st)(x:Exc X hb w l f t e)(q:f=none\/f=some L) (i:∀b,w.h.get? b=none->hb.get? b=none) (h:∀h' tk,bg X hb w l st (some L) t e h' tk->Tb h' e->Q () (w.at h' tk).s):wpAny X.M A (noteFrame (.ref e) env) Q E w.s:=by
 unfold noteFrame;rw [p];refine x.rec λsl d vs u o D g O=>wpAny_bind (wpAny_field o rfl g ?_);apply O.at g
 ·exactλa=>qE G hA p I x i h
 intro T oT ts y m C F j M n r g;refine wpAny_bind (wpAny_field C F j ?_);have P:=(Array.getElem?_eq_some_iff.mp j).1;apply M.at' j
 ·exactλa=>wpAny_bind (zI I o D g m C F P (fr:=f) .no n r λh' tk q1 q2=>qE (w:=w.at h' tk) G hA p q1.glo q1.exc (q1.lat.dead i) λk v V W=>h k v (q1.trans V) W)
 intro H c j;have B:H=L:=q.elim (λz=>Cb (z.symm.trans c)) λz=>Option.some.inj (c.symm.trans z);rw [B,if_pos (beq_self_eq_true _)];exact wpAny_pure (h w.h w.s.toks ⟨.refl _ _,I,B▸c▸x⟩ ⟨_,vs,T,o,rfl,g⟩)
def VS{E:Value->Shared->Prop}(i:env.frame=some L)(I:Ea X l w st)(x:Exc X hb w l f t e)(g:Tb w.h e)(h:∀h' tk,bg X hb w l st (some L) t e h' tk->E (.ref e) (w.at h' tk).s):cameBackBy X.M A env E (.ref e) w.s:=by unfold cameBackBy;rw [i];exact g.rec λj vs T b c d=>wpAny_bind (wpAny_field b c d (Vk (fr:=some L) I x λh' tk q a=>h h' tk q))
def Exc.tail(x:Exc X hb w (env::a) f t e):Exc X hb w a f t e:=x.rec λsl d vs u c a2 g h=> .mk sl d vs u c (a2.rec λn b v i j k m o p q=> .mk n b v i j k m o (λr s=>p r (.tail _ s)) q) g h
def Ea.tail(I:Ea X (env::a) w st):Ea X a w st:=⟨I.base,I.gin,I.store,I.muG,I.nd,I.frames.2.2,λe b=>I.frS e (.tail _ b),λe b=>I.frD e (.tail _ b)⟩
def bg.tail(x:bg X hb w (env::a) st f t e b tk):bg X hb w a st f t e b tk:=⟨x.lat,x.glo.tail,x.exc.tail⟩
def wF{E:Value->Shared->Prop}(hA:A.frames=some (env::c))(k:env.frame=some L)(I:Ea X (env::c) w st)(x:Exc X hb w (env::c) f t e)(i:f=none\/f=some L) (g:∀b,w.h.get? b=none->hb.get? b=none) (h:∀h' tk,bg X hb w c st none t e h' tk->Q () (w.at h' tk).s):wpAny X.M A (leaving env (.ref e)) Q E w.s:=wpAny_bind (pA rfl hA k I x i g λh' tk q1 a=>Vk (w:=w.at h' tk) (fr:=none) q1.glo q1.exc λd j m a=>h d j (q1.trans m).tail)
end
def Yc(T:Tab)(i:Nat)(x:Str):Bool:=at? T.xs i x&&(Kb T.names x .local||Kb T.names x .cell)
noncomputable def Ve(x:Expr):Bool:= !(beq x.ctorIdx 8||beq x.ctorIdx 9||beq x.ctorIdx 10)
noncomputable def notTuple(x:Expr):Bool:= !beq x.ctorIdx 25
noncomputable def nameOf:Expr->Option Str| .Name x a=>some x|a=>none
def Sf(T:Tab)(b vs:List Expr):Bool:=(b.length !=2&&b.length !=3)||(b.any λt=>match t with| .Name x a=> !Kb T.names x .local|a=>true)||vs.all (foldedForSure 8)
def Lh(T:Tab)(b vs:List Expr):Bool:=(b.length==2||b.length==3)&&vs.length==b.length&&(vs.all isPlain)&&(b.all λt=>match t with| .Name x p=>Kb T.names x .local&&p.line==(b.head?.map (·.pos.line)).getD 0|a=>false)&&
 decide (b.filterMap nameOf).Nodup&& !(vs.all (foldedForSure 8))&& !(vs.all (constantsAlone 8))
noncomputable def pO(e:E)(k:Bool):Bool:=match e with| .nil=>k|x=>false
noncomputable def OR(e:E)(k:E->E->Bool):Bool:=match e with| .cons a es=>k a es|x=>false
noncomputable def kW(e:E)(k:E->Bool):Bool:=match e with| .lst b=>k b|x=>false
def lE{e:E}{k:Bool}(h:pO e k=true){P:E->Prop}(H:k=true->P .nil):P e:=by induction e<;>first|exact H h|exact Ec h
def eM{e:E}{k:E->E->Bool}(h:OR e k=true){P:E->Prop}(H:∀a es,k a es=true->P (.cons a es)):P e:=by induction e<;>first|exact H _ _ h|exact Ec h
def oO{e:E}{k:E->Bool}(h:kW e k=true){P:E->Prop}(H:∀b,k b=true->P (.lst b)):P e:=by induction e<;>first|exact H _ h|exact Ec h
def yD(T:Tab):List (Nat×Bool)->List Expr->Bool| []=>λl=>md l true|(i,o)::r=>λl=>nj l λx l=>Ra x λn a=>br o (isLocal T i n) (Yc T i n)&&yD T r l
def Wx(T:Tab):List (Nat×Bool)->E->List Expr->Bool| []=>λe l=>pO e (md l true)|(y,o)::r=>λe l=>OR e λa es=>nj l λx l=>br o (kW a λb=>pO b<|zo x λc y=>md c<|Wx T r es l) (va T a x&&isPlain x&&Wx T r es l)
def To(T:Tab):List Mine.T->List Expr->Bool| []=>λl=>md l true| .v i::r=>λl=>nj l λx l=>Ra x λn y=>Yc T i n&&To T r l| .a m::r=>λl=>nj l λx l=>uc x λo n y=>Ra o λx y=>isVar T 0 x&&at? T.ats m n&&To T r l
def ZD(T:Tab)(v:Expr)(x:Str)(p:Pos):Bool:=match v with| .ListComp a y sc q=>Kb T.names x .local&&p.line==q.line&& !(sc.names.any λ(n,k)=>n==x&&(k== .local||k== .cell))|a=>false
def OJ(s:S):Bool:=match s with| .frz x=>true|x=>false
noncomputable def HW(e:E):Bool:=beq e.ctorIdx 34
mutual
noncomputable def Nd(T:Tab)(BE:Str):S->Stmt->Bool| .asg i e=>λx=>yf x λd v k=>Od d λw3=>Ra w3 λx p=>Yc T i x&&va T e v&&(Ve v||ZD T v x p)| .own i=>λx=>yf x λd k w3=>Od d λh=>Ra h λx r=>zo k λq s=>md q<|isLocal T i x| .ownl i e=>λx=>yf x λd k w3=>Od d λh=>Ra h λx r=>zc k λq s D F=>Ra q λf C=>Od s λy=>md D<|isLocal T i x&&Je T "list" f&&va T e y&&isPlain y| .share i f es=>λx=>yf x λd k w3=>Od d λh=>Ra h λx r=>zc k λq l s D=>Ra q λg F=>md s<|Yc T i x&&Zo T T.fns f g&&qe T es l| .asgs A es=>λx=>yf x λd k w3=>Od d λh=>zg h λl r q=>zg k λvs s D=>yD T A l&&Wx T A es vs&&decide (A.length<=10)&&(Sf T l vs||Lh T l vs)| .unp A e=>λx=>yf x λd v k=>Od d λw3=>zg w3 λl h r=>To T A l&&va T e v&&(notTuple v||zg v λvs u u=>Sf T l vs)&&Ve v&&decide (A.length<=10)| .asgA m e=>λx=>yf x λd v k=>Od d λw3=>uc w3 λh n r=>Ra h λx q=>isVar T 0 x&&at? T.ats m n&&va T e v&&Ve v| .aug i op e=>λx=>aw x λd o v k=>Ra d λx w3=>Yc T i x&&op==o&&va T e v| .app i e=>λx=>yo x λd k=>zc d λw3 h r B=>uc w3 λq n ap=>Ra q λx s=>Od h λy=>md r<|isVar T i x&&Dc n "append"&&va T e y&&isPlain y&&ap.endLine==B.line| .ext i e=>λx=>yo x λd k=>zc d λw3 h r B=>uc w3 λq n ap=>Ra q λx s=>Od h λy=>md r<|isVar T i x&&Dc n "extend"&&va T e y&&isPlain y&&ap.endLine==B.line| .rvs i=>λx=>yo x λd k=>zc d λw3 h r B=>uc w3 λq n ap=>Ra q λx s=>md h<|md r<|isVar T i x&&Dc n "reverse"&&ap.endLine==B.line| .oapp i e=>λx=>yo x λd k=>zc d λw3 h r B=>uc w3 λq n ap=>Ra q λx s=>Od h λy=>md r<|isVar T i x&&Dc n "append"&&va T e y&&isPlain y&&ap.endLine==B.line| .exp e=>λx=>yo x λv d=>va T e v&&Ve v| .ifs c a b=>λx=>UX x λt x y d=>va T c t&&Gd T BE a x&&Gd T BE b y| .whl c b=>λx=>GI x λt x d k=>md d<|va T c t&&Gd T BE b x| .fors A it b=>λx=>xS x λt z y o w=>md o<|(Ra t λx d=>(Od A λi=>Yc T i x)&&Wh T it z&&og z&&Jg it&&Gd T BE b y)||(zg t λl k w3=>qG l λa a'=>Ra a λx h=>Ra a' λx' r=>(qG A λi j=>isLocal T i x&&isLocal T j x'&&i !=j)&&Wh T it z&&og z&& !Jg it&&Gd T BE b y)| .ret e=>λx=>jq x λd k=>Gy d λv=>va T e v| .brk=>λx=>DI x λd=>true| .rai e=>λx=>onRaise x λd k w3=>Gy d λh=>zc h λr q s D=>Ra r λx F=>Od q λy=>md s<|RM k<|Dc x BE&&Kb T.names x .globalImplicit&& !(x==("__debug__":Str))&&va T e y&&isPlain y| .tryr i e=>λx=>yS x λd k w3 h r=>Od d λq=>jq q λs D=>Gy s λv=>Od k λF=>Pl F λC G H w13=>Gy C λL=>Ra L λx w15=>Gy G λn=>Od H λM=>jq M λO Sh=>Gy O λTS=>zg TS λVN w21 w22=>qG VN λP V=>zo P λW w26=>md W<|Rf V λX w28 w29=>uc X λw30 a w31=>Ra w30 λn' w32=>Dh w28 λw33 w34 w35=>CD w33 λz=>md w3<|md h<|va T e v&&Dc x BE&&Kb T.names x .globalImplicit&& !(x==("__debug__":Str))&&isLocal T i n&&Dc n n'&& !(n==("__debug__":Str))&&Dc a "told"&&z==0| .bad=>λu=>true| .skip| .seq .. | .frz u=>λu=>false
noncomputable def Gd(T:Tab)(BE:Str):S->List Stmt->Bool| .skip=>λl=>md l true| .seq a b=>λl=>br (OJ a) (Gd T BE b l) (nj l λx r=>Nd T BE a x&&Gd T BE b r)|y=>λy=>false
end
def tM{T:Tab}{BE:Str}{i e}{x:Stmt}(b:Nd T BE (.asg i e) x=true){P:Stmt->Prop}(H:∀x p v c,Yc T i x=true->va T e v=true->(Ve v||ZD T v x p)=true->P (.Assign [(.Name x p)] v c)):P x:=Hd b (P:=(λa=>P a)) λd v c b=>Ta b (P:=(λa=>P (.Assign a v c))) λw3 b=>ya b (P:=(λa=>P (.Assign [a] v c))) λx p b=>a2 b λb c3=>a2 b λc1 c2=>H x p v c c1 c2 c3
def zW{T:Tab}{BE:Str}{i}{x:Stmt}(b:Nd T BE (.own i) x=true){P:Stmt->Prop}(H:∀x c d w3,isLocal T i x=true->P (.Assign [(.Name x c)] (.List [] d) w3)):P x:=Hd b (P:=(λa=>P a)) λf e w3 b=>Ta b (P:=(λa=>P (.Assign a e w3))) λg b=>ya b (P:=(λa=>P (.Assign [a] e w3))) λx c b=>Fh b (P:=(λa=>P (.Assign [(.Name x c)] a w3))) λh d b=>Na b (P:=(λa=>P (.Assign [(.Name x c)] (.List a d) w3))) λb=>H x c d w3 b
def ET{T:Tab}{BE:Str}{i e}{x:Stmt}(b:Nd T BE (.ownl i e) x=true){P:Stmt->Prop}(H:∀x d f c y g w3,isLocal T i x=true->Je T "list" f=true->va T e y=true->isPlain y=true->P (.Assign [(.Name x d)] (.Call (.Name f c) [y] [] g) w3)):P x:=Hd b (P:=(λa=>P a)) λl h w3 b=>Ta b (P:=(λa=>P (.Assign a h w3))) λm b=>ya b (P:=(λa=>P (.Assign [a] h w3))) λx d b=>Wa b (P:=(λa=>P (.Assign [(.Name x d)] a w3))) λn k j g b=>ya b (P:=(λa=>P (.Assign [(.Name x d)] (.Call a k j g) w3))) λf c b=>Ta b (P:=(λa=>P (.Assign [(.Name x d)] (.Call (.Name f c) a j g) w3))) λy b=>Na b (P:=(λa=>P (.Assign [(.Name x d)] (.Call (.Name f c) [y] a g) w3))) λb=>a2 b λb c4=>a2 b λb c3=>a2 b λc1 c2=>H x d f c y g w3 c1 c2 c3 c4
def yO{T:Tab}{BE:Str}{i f es}{x:Stmt}(b:Nd T BE (.share i f es) x=true){P:Stmt->Prop}(H:∀x c g e l d w3,Yc T i x=true->Zo T T.fns f g=true->qe T es l=true->P (.Assign [(.Name x c)] (.Call (.Name g e) l [] d) w3)):P x:=Hd b (P:=(λa=>P a)) λk h w3 b=>Ta b (P:=(λa=>P (.Assign a h w3))) λm b=>ya b (P:=(λa=>P (.Assign [a] h w3))) λx c b=>Wa b (P:=(λa=>P (.Assign [(.Name x c)] a w3))) λn l j d b=>ya b (P:=(λa=>P (.Assign [(.Name x c)] (.Call a l j d) w3))) λg e b=>Na b (P:=(λa=>P (.Assign [(.Name x c)] (.Call (.Name g e) l a d) w3))) λb=>a2 b λb c3=>a2 b λc1 c2=>H x c g e l d w3 c1 c2 c3
def zT{T:Tab}{BE:Str}{c es}{x:Stmt}(b:Nd T BE (.asgs c es) x=true){P:Stmt->Prop}(H:∀l d e vs f g w3,yD T c l=true->Wx T c es vs=true->(c.length<=10)->(Sf T l vs||Lh T l vs)=true->P (.Assign [(.Tuple l d e)] (.Tuple vs f g) w3)):P x:=Hd b (P:=(λa=>P a)) λi h w3 b=>Ta b (P:=(λa=>P (.Assign a h w3))) λj b=>Le b (P:=(λa=>P (.Assign [a] h w3))) λl d e b=>Le b (P:=(λa=>P (.Assign [(.Tuple l d e)] a w3))) λvs f g b=>a2 b λb c4=>a2 b λb c3=>a2 b λc1 c2=>H l d e vs f g w3 c1 c2 (of_decide_eq_true c3) c4
def CW{T:Tab}{BE:Str}{f e}{x:Stmt}(c:Nd T BE (.unp f e) x=true){P:Stmt->Prop}(H:∀l g h v d,To T f l=true->va T e v=true->(notTuple v||zg v λvs a a=>Sf T l vs)=true->Ve v=true->(f.length<=10)->P (.Assign [(.Tuple l g h)] v d)):P x:=Hd c (P:=(λb=>P b)) λi v d c=>Ta c (P:=(λb=>P (.Assign b v d))) λw3 c=>Le c (P:=(λb=>P (.Assign [b] v d))) λl g h c=>a2 c λc c5=>a2 c λc c4=>a2 c λc c3=>a2 c λc1 c2=>H l g h v d c1 c2 c3 c4 (of_decide_eq_true c5)
def yT{T:Tab}{BE:Str}{m e}{x:Stmt}(b:Nd T BE (.asgA m e) x=true){P:Stmt->Prop}(H:∀x f n d v c,isVar T 0 x=true->at? T.ats m n=true->va T e v=true->Ve v=true->P (.Assign [(.Attribute (.Name x f) n d)] v c)):P x:=Hd b (P:=(λa=>P a)) λg v c b=>Ta b (P:=(λa=>P (.Assign a v c))) λw3 b=>xb b (P:=(λa=>P (.Assign [a] v c))) λh n d b=>ya b (P:=(λa=>P (.Assign [(.Attribute a n d)] v c))) λx f b=>a2 b λb c4=>a2 b λb c3=>a2 b λc1 c2=>H x f n d v c c1 c2 c3 c4
def uW{T:Tab}{BE:Str}{i op e}{x:Stmt}(b:Nd T BE (.aug i op e) x=true){P:Stmt->Prop}(H:∀x w3 v c,Yc T i x=true->va T e v=true->P (.AugAssign (.Name x w3) op v c)):P x:=Hy b (P:=(λa=>P a)) λd o v c b=>ya b (P:=(λa=>P (.AugAssign a o v c))) λx w3 b=>a2 b λb c3=>a2 b λc1 c2=>beq_iff_eq.mp c2▸H x w3 v c c1 c3
def tW{T:Tab}{BE:Str}{i e}{x:Stmt}(b:Nd T BE (.app i e) x=true){P:Stmt->Prop}(H:∀x f ap y c d,isVar T i x=true->va T e y=true->isPlain y=true->(ap.endLine==c.line)=true->P (.Expr (.Call (.Attribute (.Name x f) "append" ap) [y] [] c) d)):P x:=Eh b (P:=(λa=>P a)) λj d b=>Wa b (P:=(λa=>P (.Expr a d))) λw3 h g c b=>xb b (P:=(λa=>P (.Expr (.Call a h g c) d))) λk n ap b=>ya b (P:=(λa=>P (.Expr (.Call (.Attribute a n ap) h g c) d))) λx f b=>Ta b (P:=(λa=>P (.Expr (.Call (.Attribute (.Name x f) n ap) a g c) d))) λy b=>Na b (P:=(λa=>P (.Expr (.Call (.Attribute (.Name x f) n ap) [y] a c) d))) λb=>a2 b λb c5=>a2 b λb c4=>a2 b λb c3=>a2 b λc1 c2=>(vb c2).symm▸H x f ap y c d c1 c3 c4 c5
def xW{T:Tab}{BE:Str}{i e}{x:Stmt}(b:Nd T BE (.ext i e) x=true){P:Stmt->Prop}(H:∀x f ap y c d,isVar T i x=true->va T e y=true->isPlain y=true->(ap.endLine==c.line)=true->P (.Expr (.Call (.Attribute (.Name x f) "extend" ap) [y] [] c) d)):P x:=Eh b (P:=(λa=>P a)) λj d b=>Wa b (P:=(λa=>P (.Expr a d))) λw3 h g c b=>xb b (P:=(λa=>P (.Expr (.Call a h g c) d))) λk n ap b=>ya b (P:=(λa=>P (.Expr (.Call (.Attribute a n ap) h g c) d))) λx f b=>Ta b (P:=(λa=>P (.Expr (.Call (.Attribute (.Name x f) n ap) a g c) d))) λy b=>Na b (P:=(λa=>P (.Expr (.Call (.Attribute (.Name x f) n ap) [y] a c) d))) λb=>a2 b λb c5=>a2 b λb c4=>a2 b λb c3=>a2 b λc1 c2=>(vb c2).symm▸H x f ap y c d c1 c3 c4 c5
def BW{T:Tab}{BE:Str}{i}{x:Stmt}(b:Nd T BE (.rvs i) x=true){P:Stmt->Prop}(H:∀x e ap c d,isVar T i x=true->(ap.endLine==c.line)=true->P (.Expr (.Call (.Attribute (.Name x e) "reverse" ap) [] [] c) d)):P x:=Eh b (P:=(λa=>P a)) λh d b=>Wa b (P:=(λa=>P (.Expr a d))) λw3 g f c b=>xb b (P:=(λa=>P (.Expr (.Call a g f c) d))) λj n ap b=>ya b (P:=(λa=>P (.Expr (.Call (.Attribute a n ap) g f c) d))) λx e b=>Na b (P:=(λa=>P (.Expr (.Call (.Attribute (.Name x e) n ap) a f c) d))) λb=>Na b (P:=(λa=>P (.Expr (.Call (.Attribute (.Name x e) n ap) [] a c) d))) λb=>a2 b λb c3=>a2 b λc1 c2=>(vb c2).symm▸H x e ap c d c1 c3
def DT{T:Tab}{BE:Str}{i e}{x:Stmt}(b:Nd T BE (.oapp i e) x=true){P:Stmt->Prop}(H:∀x f ap y c d,isVar T i x=true->va T e y=true->isPlain y=true->(ap.endLine==c.line)=true->P (.Expr (.Call (.Attribute (.Name x f) "append" ap) [y] [] c) d)):P x:=Eh b (P:=(λa=>P a)) λj d b=>Wa b (P:=(λa=>P (.Expr a d))) λw3 h g c b=>xb b (P:=(λa=>P (.Expr (.Call a h g c) d))) λk n ap b=>ya b (P:=(λa=>P (.Expr (.Call (.Attribute a n ap) h g c) d))) λx f b=>Ta b (P:=(λa=>P (.Expr (.Call (.Attribute (.Name x f) n ap) a g c) d))) λy b=>Na b (P:=(λa=>P (.Expr (.Call (.Attribute (.Name x f) n ap) [y] a c) d))) λb=>a2 b λb c5=>a2 b λb c4=>a2 b λb c3=>a2 b λc1 c2=>(vb c2).symm▸H x f ap y c d c1 c3 c4 c5
def wW{T:Tab}{BE:Str}{e}{x:Stmt}(b:Nd T BE (.exp e) x=true){P:Stmt->Prop}(H:∀v c,va T e v=true->Ve v=true->P (.Expr v c)):P x:=Eh b (P:=(λa=>P a)) λv c b=>a2 b λc1 c2=>H v c c1 c2
def yW{T:Tab}{BE:Str}{c a b}{x:Stmt}(d:Nd T BE (.ifs c a b) x=true){P:Stmt->Prop}(H:∀t x y f,va T c t=true->Gd T BE a x=true->Gd T BE b y=true->P (.If t x y f)):P x:=QP d (P:=(λe=>P e)) λt x y f d=>a2 d λd c3=>a2 d λc1 c2=>H t x y f c1 c2 c3
def EW{T:Tab}{BE:Str}{c b}{x:Stmt}(d:Nd T BE (.whl c b) x=true){P:Stmt->Prop}(H:∀t x e,va T c t=true->Gd T BE b x=true->P (.While t x [] e)):P x:=LH d (P:=(λa=>P a)) λt x f e d=>Na d (P:=(λa=>P (.While t x a e))) λd=>a2 d λc1 c2=>H t x e c1 c2
def CT{T:Tab}{BE:Str}{d it b}{x:Stmt}(c:Nd T BE (.fors d it b) x=true){P:List Nat->Stmt->Prop}(n:∀i x h z y w,Yc T i x=true->Wh T it z=true->og z=true->Jg it=true->Gd T BE b y=true->P [i] (.For (.Name x h) z y [] w))(p:∀i j x f g k e w3 z y w,isLocal T i x=true->isLocal T j g=true->(i !=j)=true->Wh T it z=true->og z=true->Jg it=false->Gd T BE b y=true->P [i,j] (.For (.Tuple [.Name x f,.Name g k] e w3) z y [] w)):P d x:=TM c (P:=λx=>P d x) λt z y o w c=>Na c (P:=λo=>P d (.For t z y o w)) λc=>(or_eq_true_iff.mp c).elim
  (λc=>ya c (P:=λt=>P d (.For t z y [] w)) λx h c=>a2 c λc c5=>a2 c λc c4=>a2 c λc c3=>a2 c λc1 c2=>Ta c1 (P:=λd=>P d (.For (.Name x h) z y [] w)) λi c1=>n i x h z y w c1 c2 c3 c4 c5)
  λc=>Le c (P:=λt=>P d (.For t z y [] w)) λl e w3 c=>Dj c (P:=λl=>P d (.For (.Tuple l e w3) z y [] w)) λa m c=>ya c (P:=λa=>P d (.For (.Tuple [a,m] e w3) z y [] w)) λx f c=>ya c (P:=λm=>P d (.For (.Tuple [.Name x f,m] e w3) z y [] w)) λg k c=>a2 c λc c5=>a2 c λc c4=>a2 c λc c3=>a2 c λc1 c2=>Dj c1 (P:=λd=>P d (.For (.Tuple [.Name x f,.Name g k] e w3) z y [] w)) λi j c1=>a2 c1 λc1 s=>a2 c1 λq r=>p i j x f g k e w3 z y w q r s c2 c3 (Th c4) c5
def uM{T:Tab}{BE:Str}{e}{x:Stmt}(b:Nd T BE (.ret e) x=true){P:Stmt->Prop}(H:∀v c,va T e v=true->P (.Return (some v) c)):P x:=xk b (P:=(λa=>P a)) λd c b=>jh b (P:=(λa=>P (.Return a c))) λv b=>H v c b
def vW{T:Tab}{BE:Str}{x:Stmt}(c:Nd T BE (.brk) x=true){P:Stmt->Prop}(H:∀b,P (.Break b)):P x:=IH c (P:=(λa=>P a)) λb c=>H b
def AW{T:Tab}{BE:Str}{e}{x:Stmt}(b:Nd T BE (.rai e) x=true){P:Stmt->Prop}(H:∀d y c w3,Kb T.names BE .globalImplicit=true->(BE==("__debug__":Str))=false->va T e y=true->isPlain y=true->P (.Raise (some (.Call (.Name BE d) [y] [] c)) none w3)):P x:=KH b (P:=(λa=>P a)) λi f w3 b=>jh b (P:=(λa=>P (.Raise a f w3))) λj b=>Wa b (P:=(λa=>P (.Raise (some a) f w3))) λk h g c b=>ya b (P:=(λa=>P (.Raise (some (.Call a h g c)) f w3))) λx d b=>Ta b (P:=(λa=>P (.Raise (some (.Call (.Name x d) a g c)) f w3))) λy b=>Na b (P:=(λa=>P (.Raise (some (.Call (.Name x d) [y] a c)) f w3))) λb=>qv b (P:=(λa=>P (.Raise (some (.Call (.Name x d) [y] [] c)) a w3))) λb=>a2 b λb c5=>a2 b λb c4=>a2 b λb c3=>a2 b λc1 c2=>(vb c1).symm▸H d y c w3 (vb c1▸c2) (vb c1▸Th c3) c4 c5
def FT{T:Tab}{BE:Str}{i e}{x:Stmt}(c:Nd T BE (.tryr i e) x=true){P:Stmt->Prop}(H:∀v l f n k q p r s o g h Sh d j,va T e v=true->Kb T.names BE .globalImplicit=true->(BE==("__debug__":Str))=false->isLocal T i n=true->(n==("__debug__":Str))=false->P (.Try [(.Return (some v) l)] [(.ExceptHandler (some (.Name BE f)) (some n) [(.Return (some (.Tuple [(.List [] k),(.Subscript (.Attribute (.Name n q) "told" p) (.Constant (.int 0) r s) o)] g h)) Sh)] d)] [] [] j)):P x:=UM c (P:=(λb=>P b)) λX B w3 m j c=>Ta c (P:=(λb=>P (.Try b B w3 m j))) λw6 c=>xk c (P:=(λb=>P (.Try [b] B w3 m j))) λw7 l c=>jh c (P:=(λb=>P (.Try [(.Return b l)] B w3 m j))) λv c=>Ta c (P:=(λb=>P (.Try [(.Return (some v) l)] b w3 m j))) λw9 c=>mr c (P:=(λb=>P (.Try [(.Return (some v) l)] [b] w3 m j))) λC u t d c=>jh c (P:=(λb=>P (.Try [(.Return (some v) l)] [(.ExceptHandler b u t d)] w3 m j))) λD c=>ya c (P:=(λb=>P (.Try [(.Return (some v) l)] [(.ExceptHandler (some b) u t d)] w3 m j))) λx f c=>jh c (P:=(λb=>P (.Try [(.Return (some v) l)] [(.ExceptHandler (some (.Name x f)) b t d)] w3 m j))) λn c=>Ta c (P:=(λb=>P (.Try [(.Return (some v) l)] [(.ExceptHandler (some (.Name x f)) (some n) b d)] w3 m j))) λF c=>xk c (P:=(λb=>P (.Try [(.Return (some v) l)] [(.ExceptHandler (some (.Name x f)) (some n) [b] d)] w3 m j))) λG Sh c=>jh c (P:=(λb=>P (.Try [(.Return (some v) l)] [(.ExceptHandler (some (.Name x f)) (some n) [(.Return b Sh)] d)] w3 m j))) λTS c=>Le c (P:=(λb=>P (.Try [(.Return (some v) l)] [(.ExceptHandler (some (.Name x f)) (some n) [(.Return (some b) Sh)] d)] w3 m j))) λVN g h c=>Dj c (P:=(λb=>P (.Try [(.Return (some v) l)] [(.ExceptHandler (some (.Name x f)) (some n) [(.Return (some (.Tuple b g h)) Sh)] d)] w3 m j))) λL w c=>Fh c (P:=(λb=>P (.Try [(.Return (some v) l)] [(.ExceptHandler (some (.Name x f)) (some n) [(.Return (some (.Tuple [b,w] g h)) Sh)] d)] w3 m j))) λM k c=>Na c (P:=(λb=>P (.Try [(.Return (some v) l)] [(.ExceptHandler (some (.Name x f)) (some n) [(.Return (some (.Tuple [(.List b k),w] g h)) Sh)] d)] w3 m j))) λc=>Be c (P:=(λb=>P (.Try [(.Return (some v) l)] [(.ExceptHandler (some (.Name x f)) (some n) [(.Return (some (.Tuple [(.List [] k),b] g h)) Sh)] d)] w3 m j))) λO y o c=>xb c (P:=(λb=>P (.Try [(.Return (some v) l)] [(.ExceptHandler (some (.Name x f)) (some n) [(.Return (some (.Tuple [(.List [] k),(.Subscript b y o)] g h)) Sh)] d)] w3 m j))) λV a p c=>ya c (P:=(λb=>P (.Try [(.Return (some v) l)] [(.ExceptHandler (some (.Name x f)) (some n) [(.Return (some (.Tuple [(.List [] k),(.Subscript (.Attribute b a p) y o)] g h)) Sh)] d)] w3 m j))) λA q c=>yg c (P:=(λb=>P (.Try [(.Return (some v) l)] [(.ExceptHandler (some (.Name x f)) (some n) [(.Return (some (.Tuple [(.List [] k),(.Subscript (.Attribute (.Name A q) a p) b o)] g h)) Sh)] d)] w3 m j))) λW r s c=>zt c (P:=(λb=>P (.Try [(.Return (some v) l)] [(.ExceptHandler (some (.Name x f)) (some n) [(.Return (some (.Tuple [(.List [] k),(.Subscript (.Attribute (.Name A q) a p) (.Constant b r s) o)] g h)) Sh)] d)] w3 m j))) λz c=>Na c (P:=(λb=>P (.Try [(.Return (some v) l)] [(.ExceptHandler (some (.Name x f)) (some n) [(.Return (some (.Tuple [(.List [] k),(.Subscript (.Attribute (.Name A q) a p) (.Constant (.int z) r s) o)] g h)) Sh)] d)] b m j))) λc=>Na c (P:=(λb=>P (.Try [(.Return (some v) l)] [(.ExceptHandler (some (.Name x f)) (some n) [(.Return (some (.Tuple [(.List [] k),(.Subscript (.Attribute (.Name A q) a p) (.Constant (.int z) r s) o)] g h)) Sh)] d)] [] b j))) λc=>a2 c λc c9=>a2 c λc c8=>a2 c λc c7=>a2 c λc c6=>a2 c λc c5=>a2 c λc c4=>a2 c λc c3=>a2 c λc1 c2=>(vb c2).symm▸vb c6▸(vb c8).symm▸(beq_iff_eq.mp c9).symm▸H v l f n k q p r s o g h Sh d j c1 (vb c2▸c3) (vb c2▸Th c4) c5 (Th c7)
def set_inv{sl:List a}{P:Prop}(e:(sl.set i z)[j]? =some y)(k1:j=i->y=z->P)(k2:j≠i->sl[j]? =some y->P):P:=by
 by_cases q:i=j;·subst q;have h:=(List.getElem?_eq_some_iff.mp e).1;rw [length_set] at h;rw [getElem?_set_self h] at e;exact k1 rfl (Option.some.inj e).symm
 ·exact k2 (Ne.symm q) ((getElem?_set_ne q).symm.trans e)
section
variable {env:Env} {xs:List Str} {w w':Wd} {sl:List Slot} {ow ow':Nat->Addr} {m m':Str->Option Value} {i:Nat} {x:Str} {z:Slot}
def JJ(nd:xs.Nodup)(c:xs[i]? =some x)(b:j≠i)(a:xs[j]? =some y):y≠x:=λe=>b (((getElem?_inj (List.getElem?_eq_some_iff.mp a).1 nd).mp (a.trans (e▸c.symm))))
def Ab.set(L:Ab env xs w sl ow)(oL:Off w' env.locals)(A:w'.h.Ns env.locals m')(q:ND env xs w sl ow m)(t:xs[i]? =some x)(k:qf env w' m' (ow' i) x z)(keep:∀j,j≠i->ow' j=ow j)(o:∀j y s,j≠i->y≠x->y∈xs->sl[j]? =some s->qf env w m (ow j) y s->qf env w' m' (ow j) y s) (od:∀j f l,j≠i->sl[j]? =some (.own f)->z= .own l->ow j≠ow' i) (cl:∀x,x∈xs->env.kindOf x=some .cell->qi env w x->qi env w' x):Ab env xs w' (sl.set i z) ow':=⟨L.nd,(length_set ..).trans L.len,oL,⟨m',A,λj y s b B=>set_inv B (λu v=>by rw [u] at b|-;rw [Option.some.inj (b.symm.trans t),v];exact k) λn e=>keep j n▸o j y s n (JJ L.nd t n b) (mem_of_getElem? b) e (q j y s b e)⟩,λj g l f d e c=>set_inv e (λh p=>set_inv c (λD a=>absurd (h.trans D.symm) d) λn c=>(keep g n).symm▸h.symm▸(od g f l n c p.symm).symm) λn e=>set_inv c (λh p=>(keep j n).symm▸h.symm▸od j l f n e p.symm) λC c=>(keep j n).symm▸(keep g C).symm▸L.od j g l f d e c,λy b r=>cl y b r (L.cl y b r),L.ci⟩
def zb.one(kp:∀b,b≠c->h'.get? b=w.h.get? b)(d:(h'.get? c).isSome)(a:∀o,uV env P w c o->w.h.get? c=some o->False):zb env P w (w.at h' tk):=⟨λx x e=>e,λx x e=> .inl e,λb o f e=> .inl ((kp b λz=>a o (z▸f) (z▸e)).trans e),λb hb=>(Classical.em (b=c)).elim (λz=>z▸d) λz=>(kp b z).symm▸hb,Fi w,rfl,rfl⟩
def Yk(kp:∀b,b≠c->h'.get? b=w.h.get? b):Lk env w (w.at h' tk) (·=c):=λa o e h x n=>⟨⟨o.slots,(kp a n).trans e⟩,h⟩
inductive wD(w:Wd)(sl:List Slot)(ow:Nat->Addr)(i:Nat)(loc:Prop):Slot->(Nat->Addr)->Value->Prop|a:∀a v,Sa w a v->wD w sl ow i loc (.a a) ow v|own:∀m b,loc->rh w m b->(∀j l',sl[j]? =some (Slot.own l')->ow j≠b)->wD w sl ow i loc (.own m) (λj=>if j=i then b else ow j) (.ref b)
end
section
variable {X:Ctx} {T:Tab} {F:Fr} {w:Wd} {sl:List Slot} {ow ow':Nat->Addr} {st:ia} {i:Nat} {x:Str} {v:Value} {z:Slot}
noncomputable abbrev Sx(w w':Wd):Prop:=∀m b,rh w m b->rh w' m b
def J.one(L:Ab F.env T.xs w sl ow)(q:ND F.env T.xs w sl ow m)(kp:∀b,b≠c->h'.get? b=w.h.get? b)(d:h'.Ns F.env.locals m')(M:T.xs[i]? =some x)(hz:wD w sl ow i (F.env.kindOf x=some .local) z ow' v)(p:∀o f n,w.h.get? c=some o->o.data≠ .seq f n) (np:∀y g o G,y≠x->y∈T.xs->F.env.kindOf y=some .cell->F.env.cells.lookup y=some g->w.h.get? g=some o->o.data= .cell G->g≠c) (hm:∀y u,y≠x->m y=some u->m' y=some u) (D:∀a,Sa w a v->Br F.env (w.at h' tk) m' x a) (k:F.env.kindOf x=some .local->m' x=some v)(cl:∀y,y∈T.xs->F.env.kindOf y=some .cell->qi F.env w y->qi F.env (w.at h' tk) y):Ab F.env T.xs (w.at h' tk) (sl.set i z) ow'/\Sx w (w.at h' tk):=by have P:=Yk (env:=F.env) (tk:=tk) kp;have no:∀{m b},rh w m b->b≠c:=λB=>B.rec λf n t e t t t z=>p _ f n (z▸e) rfl;have h:Sx w (w.at h' tk):=λm b B=>B.move .at P (no B);have A:∀j y s,j≠i->y≠x->y∈T.xs->sl[j]? =some s->qf F.env w m (ow j) y s->qf F.env (w.at h' tk) m' (ow j) y s:=λj y s hj O C hs B=>B.move .at P (λg o G hk V W e3=>np y g o G O C hk V W e3) (λl e=>no (e▸B:qf F.env w m (ow j) y (.own l)).2.2) λu=>hm y u O;refine ⟨?_,h⟩;induction hz with|a a t r=>exact L.set L.oL d q M (D a r) (λt t=>rfl) A (λt t t t t e=>nomatch e) cl|own l b H B hb=>exact L.set L.oL d q M (show qf F.env (w.at h' tk) m' _ x (.own l) by rw [if_pos rfl];exact ⟨H,k H,h l b B⟩) (λj n=>if_neg n) A (λj l' t n e t=>by rw [if_pos rfl];exact hb j l' e) cl
def Me{E:Value->Shared->Prop}(hE:wc F.env T)(j:J X F T w sl ow st)(W:T.xs[i]? =some x)(C:F.env.kindOf x=some .local\/F.env.kindOf x=some .cell)(hz:wD w sl ow i (F.env.kindOf x=some .local) z ow' v)(h:∀w',(∀P,zb F.env P w w')->J X F T w' (sl.set i z) ow' st->Sx w w'->Q () w'.s):wpAny X.M F.A (storeName F.env x v) Q E w.s:=j.l.nm.rec λm p q=>p.elim λoL z=>z.elim λesL z=>z.elim λepL D=>C.elim
  (λk=>wpAny_storeName_local k p (λh' l f=>by
   have dL:=D.2.1;have M:IsDict h' F.env.locals:=l.imp λo z=>z.imp λes z=>z.imp λn z=>⟨z.1,z.2.1⟩;have al:(h'.get? F.env.locals).isSome:=M.elim λt z=>z.elim λt z=>z.elim λt z=>eg z.1;have O:=J.one (F:=F) (tk:=w.s.toks+1) j.l q f.2 l W hz (λo its n e d=>nomatch dL.symm.trans ((congrArg Obj.data (Option.some.inj (D.1.symm.trans e))).trans d)) (λy c' o v' t t t t e d z=>nomatch dL.symm.trans ((congrArg Obj.data (Option.some.inj (D.1.symm.trans (z▸e)))).trans d)) (λy u n e=>(if_neg n).trans e) (λa r=>⟨v,.loc k (if_pos rfl),r.up .at⟩) (λt=>if_pos rfl)
    λy hy C B=>B.move (Yk f.2) λc' o v' t e d z=>nomatch dL.symm.trans ((congrArg Obj.data (Option.some.inj (D.1.symm.trans (z▸e)))).trans d)
   exact h (w.at h' _) (λP=> .one f.2 al λo s t=>s.2.1 rfl) ⟨j.g.but (ch:=(·=F.env.locals)) (λb z=>z▸j.l.oL) (λb o n e=> .inl ((f.2 b n).trans e)) λL z t=>z▸M,O.1⟩ O.2) hE.pk)
  λk=>(j.l.cl x (mem_of_getElem? W) k).rec λc o V A G H oc=>wpAny_storeName_cell hE.kind k A ⟨o,G,H⟩ λh' g f=>g.elim λo' g=>by
   have xm:=mem_of_getElem? W;have nL:F.env.locals≠c:=λz=>nomatch D.2.1.symm.trans ((congrArg Obj.data (Option.some.inj (D.1.symm.trans (z▸G)))).trans H);have ap:=j.g.apartO G λt t d=>nomatch H.symm.trans d;have O:=J.one (F:=F) (tk:=w.s.toks) j.l q f.2 (p.at' λo e=>(f.2 _ nL).trans e) W hz (λo its n e d=>nomatch H.symm.trans ((congrArg Obj.data (Option.some.inj (G.symm.trans e))).trans d)) (λy c' o v' n hy C e t t z=>n (j.l.ci y x c hy xm C k (z▸e) A)) (λy u t e=>e) (λa r=>⟨v,.cell c o' k A g.1 g.2 oc,r.up .at⟩) (λz=>nomatch k.symm.trans z)
    λy hy C B=>(Classical.em (y=x)).elim (λz=>z▸⟨c,o',_,A,g.1,g.2,oc⟩) λn=>B.move (Yk f.2) λc' o v' e t t z=>n (j.l.ci y x c hy xm C k (z▸e) A)
   exact h (w.at h' _) (λP=> .one f.2 (eg g.1) λob s e=>s.2.2.1.elim (λz=>z _ (mem_of_lookup A) rfl) λz=>z V (Option.some.inj (G.symm.trans e)▸H)) ⟨j.g.scratch (ch:=(·=c)) (λb z=>z▸oc) (λb z=>z▸ap) λb o n e=>(f.2 b n).trans e,O.1⟩ O.2
end
def Rd(X:Ctx)(O:wb)(T:Tab)(k n:Nat)(BE:Str)(a:S):Prop:=∀x F w sl b st Q E,Nd T BE a x=true->Uv T k F->J X F T w sl b st->Ja X F T w (Own sl b) (ua O n a sl st) Q E->wpAny X.M F.A (exec x F.env) Q E w.s
def Og(X:Ctx)(O:wb)(T:Tab)(k n:Nat)(BE:Str)(a:S):Prop:=∀xs F w sl b st Q E,Gd T BE a xs=true->Uv T k F->J X F T w sl b st->Ja X F T w (Own sl b) (ua O n a sl st) Q E->wpAny X.M F.A (execs xs F.env) Q E w.s
def Lg(h:Ve v=true):swapsWith v t line env=pure false:=by cases v<;>first|rfl|exact Ec h
section
variable {X:Ctx} {O:wb} {T:Tab} {k n:Nat} {BE:Str} {F:Fr} {w:Wd} {sl:List Slot} {ow:Nat->Addr} {st:ia} {i:Nat} {x:Str} {Q:Flow->Shared->Prop} {E':Value->Shared->Prop}
def Ae{P:Prop}(a:wc F.env T)(h:Yc T i x=true)(k:T.xs[i]? =some x->(F.env.kindOf x=some .local\/F.env.kindOf x=some .cell)->P):P:=a2 h λb c=>k (at?_iff b) ((or_eq_true_iff.mp c).imp (λz=>a.of (Vb z)) λz=>a.of (Vb z))
def Ag(hb:Own (sl.set i (.a a)) ow b):Own sl ow b:=hb.elim λj hb=>hb.elim λl hb=>set_inv hb.1 (λx z=>nomatch z) λx e=>⟨j,l,e,hb.2⟩
def pB{a:AV}{v:Value}(c:wc F.env T)(e:J X F T w sl ow st)(j:Yc T i x=true)(r:Sa w a v)(C:pf X F T w (Own sl ow) .next (sl.set i (.a a)) st Q E'):wpAny X.M F.A (storeName F.env x v) (λy=>Q .next) E' w.s:=Ae c j λg h=>Me c e g h (.a a v r) λw' f d y=>C w' ow ⟨f _,λb hb=> .inl (Ag hb)⟩ d
def vH(h:HW e=false)(a:va T e v=true):Ve v=true:=by induction e with|cst=>apply QE a<;>intros<;>rfl|var=>apply jF a<;>intros<;>rfl|glob=>apply Yz a<;>intros<;>rfl|bin=>apply OE a<;>intros<;>rfl|cmp=>apply PE a<;>intros<;>rfl|cmp2=>apply Wz a<;>intros<;>rfl|and=>apply ME a<;>intros<;>rfl|or=>apply KJ a<;>intros<;>rfl|not=>apply YE a<;>intros<;>rfl|ite=>apply SE a<;>intros<;>rfl|neg=>apply XE a<;>intros<;>rfl|idx=>apply RE a<;>intros<;>rfl|idxv=>apply Zz a<;>intros<;>rfl|slc=>apply dF a<;>intros<;>rfl|rev=>apply qy a<;>intros<;>rfl|tup=>apply fF a<;>intros<;>rfl|lst=>apply WE a<;>intros<;>rfl|call=>apply Vz a<;>intros<;>rfl|len=>apply VE a<;>intros<;>rfl|lenv=>apply bA a<;>intros<;>rfl|listf=>apply Hw a<;>intros<;>rfl|bytesf=>apply Sr a<;>intros<;>rfl|intf=>apply aA a<;>intros<;>rfl|sumf=>apply iA a<;>intros<;>rfl|make=>apply eA a<;>intros<;>rfl|meth=>apply gA a<;>intros<;>rfl|attr=>apply Uz a<;>intros<;>rfl|pop=>apply ZE a<;>intros<;>rfl|emptyq=>apply Ur a<;>intros<;>rfl|comp=>exact tS h| _=>exact Ec a
def ZY(l:∀e,Oe X O T k e)(i:Nat)(e:E)(d:HW e=false):Rd X O T k n BE (.asg i e):=λx F w sl ow st Q E m j g C=>tM m (P:=λx=>wpAny X.M F.A (exec x F.env) Q E w.s) λnm np v p c1 c2 y=>wpAny_Assign_Name (((l e).e v F w sl ow st c2 j.toFOK g).stm g.l C λa f w₁ u h b c C=>C.put λo C=>pB j.e b c1 c C) (Lg (vH d c2))
def owned(L:Ab F.env T.xs w sl ow)(h:Own sl ow b):(w.h.get? b).isSome:=h.elim λi h=>h.elim λl h=>h.2▸(L.own h.1).rec λx x x e x x x=>eg e
def RC(g:wc F.env T)(d:J X F T w sl ow st)(s:isLocal T i x=true)(kp:yd w.h.get? h'.get?)(r:h'.get? w.h.objs.size=some (td acc na))(o:Jb w.G m acc.toList)(tk:Nat) (C:pf X F T w (Own sl ow) .next (sl.set i (.own m)) st Q E'):wpAny X.M F.A (storeName F.env x (.ref w.h.objs.size)) (λa=>Q .next) E' (w.at h' tk).s:=Vr s λq h=>have c:=Ka w.h
  have S:=Step.kept (w:=w) (tk:=tk) kp
  Me (w:=w.at h' tk) g (d.step S (d.g.kept kp)) q (.inl (g.of h)) (.own m w.h.objs.size (g.of h) ⟨acc,na,#[],r,o,o.length.trans length_toList,d.g.off c⟩ λj t e z=>Ec (c▸z▸owned d.l ⟨j,t,e,rfl⟩:(none:Option Obj).isSome=true)) λw' f p a=>C w' _ ⟨(SStep.of_step S).thenF (f _),λb hb=>hb.elim λj hb=>hb.elim λl hb=>set_inv hb.1 (λz a=> .inr ((hb.2.trans (if_pos z)).symm▸c)) λz e=> .inl ⟨j,l,e,hb.2.trans (if_neg z)⟩⟩ p
def fZ(i:Nat):Rd X O T k n BE (.own i):=λx F w sl ow st Q E c b a C=>zW c (P:=λx=>wpAny X.M F.A (exec x F.env) Q E w.s) λnm e f p3 c1=>C.put λd C=>wpAny_Assign_Name (wpAny_List (wpAny_items_nil ⟨zero_le _,RC b.e a c1 Ob (get?_push_size _ rfl) .nil w.s.toks C⟩)) rfl
def jU(B:ib X)(j:∀e,Oe X O T k e)(i:Nat)(e:E):Rd X O T k n BE (.ownl i e):=λx F w sl ow st Q E l c d C=>ET l (P:=λx=>wpAny X.M F.A (exec x F.env) Q E w.s) λnm t f u y p3 z c1 c2 c3 c4=>wpAny_Assign_Name (uf B c.e d.g c2 c4 B.b_list (PySem.callWith_type1 (((j e).e y F w sl ow st c3 c.toFOK d).stmV d.l C λf g w₁ v h a b C=>by induction q:pb f with|none=>rw [q] at C;exact C.elim|some m=>rw [q] at C;exact Ja.put (i:=i) C λs C=>yI c.a.handled a.g b q λh' acc r tk kp o p=>RC c.e a c1 kp o p tk C))) rfl
def cZ(j:∀e,Oe X O T k e)(e:E):Rd X O T k n BE (.exp e):=λx F w sl ow st Q E l g d C=>wW l (P:=λx=>wpAny X.M F.A (exec x F.env) Q E w.s) λv p c1 c2=>wpAny_Expr_any (((j e).e v F w sl ow st c1 g.toFOK d).stm d.l C λa c w₁ v f b h C=>C w₁ ow .refl b) g.e.inter (Lg c2)
def hZ(h:∀e,Oe X O T k e)(e:E):Rd X O T k n BE (.ret e):=λx F w sl ow st Q E l j f C=>uM l (P:=λx=>wpAny X.M F.A (exec x F.env) Q E w.s) λv p c1=>wpAny_Return_some (((h e).e v F w sl ow st c1 j.toFOK f).stm f.l C λa d w₁ v g b c C=>C w₁ v (.of_step .refl) b.g c)
def bZ:Rd X O T k n BE .brk:=λx F w sl ow st Q E b c a C=>vW b (P:=λx=>wpAny X.M F.A (exec x F.env) Q E w.s) λp=>wpAny_Break (C w ow .refl a)
def intAt{o:Option AV}{f:Int->Bb}{Z:Prop}(C:Ja X F T w P (match o with|some (.v (.int x))=>f x| _=>none) Q E')(k:∀x,o=some (.v (.int x))->Ja X F T w P (f x) Q E'->Z):Z:=by induction o with|none=>exact C.elim|some a=>induction a with|o y=>exact C.elim|v g=>cases g with|int x=>exact k x rfl C| _=>exact C.elim
def aZ(B:∀e,Oe X O T k e)(i:Nat)(h:Operator)(e:E):Rd X O T k n BE (.aug i h e):=λx F w sl ow st Q E G d j C=>uW G (P:=λx=>wpAny X.M F.A (exec x F.env) Q E w.s) λnm p v M c1 c2=>intAt C λa l C=>Dv l λl=>Ae d.e c1 λD z=>j.l.nm.rec λm L q=>Br.rec (λu b r=>wpAny_AugAssign_Name (Ay d.e L b (((B e).e v F w sl ow st c2 d.toFOK j).stmV j.l C λf o w₁ s A c g C=>by
  cases f with
  |int y=>refine wa.atI (P:=λu=>wpAny X.M F.A (inplaceOp h u s) _ E w₁.s) r λt=>wa.atI (P:=λs=>wpAny X.M F.A (inplaceOp h (.int a t) s) _ E w₁.s) g λV=> ?_;induction h with|Add=>exact C.put (i:=i) λH C=>PySem.P.iadd_int (pB (a:= .v (.int _)) (w:=w₁.at w₁.h (w₁.s.toks+1)) d.e ⟨c.g.kept λz z e=>e,c.l.step (.kept λz z e=>e)⟩ c1 (wa.int _ _) (C.after (.of_step (.kept λz z e=>e))))|Sub=>exact C.put (i:=i) λH C=>PySem.P.isub_int (pB (a:= .v (.int _)) (w:=w₁.at w₁.h (w₁.s.toks+1)) d.e ⟨c.g.kept λz z e=>e,c.l.step (.kept λz z e=>e)⟩ c1 (wa.int _ _) (C.after (.of_step (.kept λz z e=>e))))| _=>exact C.elim
  | _=>exact C.elim))) (q i nm _ D l)
end
section
variable {prog:Program} {w:World} {A:Around} {E:Value->Shared->Prop} {s:Shared} {S:Addr} {its:Array Value} {n:Nat} {sx:Array (Option Value)} {Q:Value->Shared->Prop}
def BJ(a:s.heap.get? S=some (Vg its n sx))(hb:s.heap.get? b=some ob)(d:ob.cls= .type "list")(e:ob.data= .seq xs k)(c:its.size+xs.size<=sizeLine) (h:Q .none {s with heap:=s.heap.update S (mapSeq (·++xs))}):wpAny (model prog w) A (call (.builtin "list.extend") [.ref S,.ref b]) Q E s:=by refine wpAny_call_entry F.slot_list_extend ⟨_,a,rfl⟩ F.entry_list_extend ?_ (F.args_list_extend_2 _ _);show wpAny _ _ (listExtendWith (.ref S) (.ref b) .none) _ _ s;unfold listExtendWith;refine wpAny_bind (wpAny_typeOf (T:="list") ⟨ob,hb,d⟩ ?_);rw [if_pos (show (listSameRef (.ref S) (.ref b)||type "list"==type "list"||type "list"==type "tuple")=true by rw [beq_self_eq_true,Bool.or_true,Bool.true_or])];unfold listItems;refine wpAny_bind (wpAny_bind (wpAny_seqItems hb e (wpAny_pure (wpAny_bind (wpAny_bind (wpAny_seqItems a rfl (wpAny_pure ?_)))))));rw [show (!its.isEmpty&&listTooLong (its.size+xs.size))=false by unfold listTooLong;rw [decide_eq_false (Nat.not_lt.mpr c),Bool.and_false]];exact wpAny_bind (wpAny_updateSeq a rfl (wpAny_pure ⟨.none,rfl,h⟩) (Nat.le_trans (le_add_right _ _) c) (by rw [Array.size_append];exact le_succ_of_le c))
def OH(a:s.heap.get? S=some (Vg its n sx))(b:its.size<=sizeLine)(h:Q .none {s with heap:=s.heap.update S (mapSeq (·.reverse))}):wpAny (model prog w) A (call (.builtin "list.reverse") [.ref S]) Q E s:=wpAny_call_entry F.slot_list_reverse ⟨_,a,rfl⟩ F.entry_list_reverse (show wpAny _ _ (updateSeq S (·.reverse)>>=λx=>ret .none) _ _ s from wpAny_bind (wpAny_updateSeq a rfl (wpAny_pure ⟨.none,rfl,h⟩) b (by rw [Array.size_reverse];exact le_succ_of_le b))) (F.args_list_reverse_1 _)
def Ux(b:s.heap.get? S=some (Vg its n sx))(c:its.size<=sizeLine)(h:Q .none {s with heap:=s.heap.update S (mapSeq (·.push x))}):wpAny (model prog w) A (call (.builtin "list.append") [.ref S,x]) Q E s:=wpAny_call_entry F.slot_list_append ⟨_,b,rfl⟩ F.entry_list_append (show wpAny _ _ (updateSeq S (·.push x)>>=λa=>ret .none) _ _ s from wpAny_bind (wpAny_updateSeq b rfl (wpAny_pure ⟨.none,rfl,h⟩) c (by rw [Array.size_push];exact succ_le_succ c))) (F.args_list_append_2 _ _)
end
section
variable {X:Ctx} {O:wb} {T:Tab} {k n:Nat} {BE:Str} {F:Fr} {w:Wd} {sl:List Slot} {ow:Nat->Addr} {st:ia} {i:Nat} {m m':List FV} {x:Str} {Q:Flow->Shared->Prop} {E':Value->Shared->Prop}
def TJ{nm:Str}{id:String}{np ap s q:Pos}{y:Expr}(u:wc F.env T)(l:PySem.Slot "list" nm id)(p:typeOf (.builtin id)=pure (.type "method_descriptor"))(B:isPlain y=true)(A:(ap.endLine==s.line)=true)(h:wpAny X.M F.A (eval (.Name x np) F.env) (λr d=>∃a j n t,r= .ref a/\d.heap.get? a=some (Vg j n t)/\wpAny X.M F.A (eval y F.env) (λv o=>wpAny X.M F.A (call (.builtin id) [.ref a,v]) (λc=>Q .next) E' o) E' d) E' w.s):
  wpAny X.M F.A (exec (.Expr (.Call (.Attribute (.Name x np) nm ap) [y] [] s) q) F.env) Q E' w.s:=
 wpAny_Expr_any (PySem.Call_method1 rfl (show starEach [y] F.env= [(false,eval y F.env)] from vg B) A (wpAny_mono h (λr d f=>f.elim λa z=>z.elim λj z=>z.elim λn z=>z.elim λt z=>z.1▸
  ⟨"list",id,plainAttrs_list,l,p,⟨_,z.2.1,rfl⟩,λb e=>by (injection e with e;subst e);exact ⟨_,z.2.1,rfl⟩,callWith_builtin rfl (evalArgs_plain (spliced_cons (wpAny_mono z.2.2 (λc c g=>spliced_nil g) λc c e=>e)))⟩) λc c e=>e)) u.inter rfl
def Ab.turn(L:Ab env xs w sl ow)(g:sl[i]? =some (.own m))(up:Up w w')(u:Lk env w w' (·=ow i))(C:∀x h,qf env w h (ow i) x (.own m)->qf env w' h (ow i) x z):Ab env xs w' (sl.set i z) ow:=L.nm.rec λh M q=>M.elim λo y=>y.elim λes y=>y.elim λD y=>(L.own g).rec λf n sx e b b b=>have A:∀{a:Addr} {p:Obj},w.h.get? a=some p->(∀f n,p.data≠ .seq f n)->a≠ow i:=λH d z=>d f n (Option.some.inj (e.symm.trans (z▸H))▸rfl)
  (u _ o y.1 L.oL (.inl ⟨rfl,es,D,y.2.1⟩) (A y.1 λb b d=>nomatch y.2.1.symm.trans d)).elim λe oL=>e.elim λW e=>VR L g λx G=>L.set oL ⟨_,es,D,e,y.2⟩ q G (C x h (q i x _ G g)) (λb b=>rfl)
   (λj y' s t b b P B=>B.move up u (λc p v b b e d=>A e λb b r=>nomatch d.symm.trans r) (λl z=>L.od j i l m t (z▸P) g) λb e=>e) (λj V l t e b=>L.od j i V m t e g)
   λy' hy hk B=>B.move u λc p v b e d=>A e λb b r=>nomatch d.symm.trans r
def gB(h:J X F T w sl ow st)(p:sl[i]? =some (.own m))(q:w.h.get? (ow i)=some (Vg its na sx))(r:Jb w.G m' (g its).toList)(C:pf X F T w (Own sl ow) .next (sl.set i (.own m')) st Q E'):Q .next {w.s with heap:=w.h.update (ow i) (mapSeq g)}:=(Wm q g).elim λt c=>by
  have kp:∀b,b≠ow i->(w.h.update (ow i) (mapSeq g)).get? b=w.h.get? b:=λb hb=>get?_update_other _ _ (Ne.symm hb);have f:Off w (ow i):=(h.l.own p).rec λa a a a a a o=>o;exact C (w.at (w.h.update (ow i) (mapSeq g)) w.s.toks) ow ⟨.one kp (eg c) λo s a=>s.2.2.2 ⟨i,m,p,rfl⟩,λb hb=> .inl (hb.elim λj hb=>hb.elim λl hb=>set_inv hb.1 (λz a=>⟨i,m,p,hb.2.trans (congrArg ow z)⟩) λa e=>⟨j,l,e,hb.2⟩)⟩
   ⟨h.g.scratch (ch:=(·=ow i)) (λb z=>z▸f) (λb z=>z▸h.g.apartO q λa a d=>nomatch d) λb o hb e=>(kp b hb).trans e,h.l.turn p .at (Yk kp) λx u B=>⟨B.1,B.2.1,⟨_,t,sx,c,r,r.length.trans length_toList,f⟩⟩⟩
def RP{o:Option Slot}{f:List FV->Bb}{P:Addr->Prop}{Z:Prop}(C:Ja X F T w P (match o with|some (.own l)=>f l| _=>none) Q E')(k:∀l,o=some (.own l)->Ja X F T w P (f l) Q E'->Z):Z:=by induction o with|none=>exact C.elim|some s=>induction s<;>first|exact k _ rfl C|exact C.elim
def vG{o:Option (List FV)}{P:Addr->Prop}{Z:Prop}(C:Ja X F T w P (Ak sl i o st) Q E')(k:∀l,o=some l->pf X F T w P .next (sl.set i (.own l)) st Q E'->Z):Z:=by induction o with|none=>exact C.elim|some l=>exact k l rfl C
def PJ{d:Type}{c:Prop}[Decidable c]{a b:d}{P:Prop}(h:(if c then some a else none)=some b)(k:c->a=b->P):P:=by
 by_cases z:c;·rw [if_pos z] at h;exact k z (Option.some.inj h)
 ·rw [if_neg z] at h;exact Cb h
def fit_le{b:Array Value}{a:Nat}(r:Jb w.G m b.toList)(h:m.length+a<=big):b.size+a<=sizeLine:=(r.length.trans length_toList)▸Nat.le_trans h (by decide)
def XY(z:∀e,Oe X O T k e)(i:Nat)(e:E):Rd X O T k n BE (.app i e):=λx F w sl ow st Q E B o h C=>tW B (P:=λx=>wpAny X.M F.A (exec x F.env) Q E w.s) λnm p ap y pp p2 c1 c2 c3 c4=>RP C λm j C=>TJ o.e PySem.F.slot_list_append PySem.F.type_list_append c3 c4 (Tj o.e h.l c1 j ((h.l.own j).rec λq L V D b b b=>⟨_,q,L,V,rfl,D,((z e).e y F w sl ow st c2 o.toFOK h).stmV h.l C λf r w₁ v s c g C=>vG C λl G C=>PJ G λH A=>(c.l.own j).rec λt M W d u b b=>Ux d (fit_le (a:=0) u (Nat.le_of_lt H)) (gB c j d (by rw [toList_push,<-A];exact u.append (.cons g .nil)) C)⟩))
def dZ(L:∀e,Oe X O T k e)(i:Nat)(e:E):Rd X O T k n BE (.ext i e):=λx F w sl ow st Q E V t r C=>xW V (P:=λx=>wpAny X.M F.A (exec x F.env) Q E w.s) λnm p ap y pp p2 c1 c2 c3 c4=>RP C λm s C=>TJ t.e slot_list_extend type_list_extend c3 c4 (Tj t.e r.l c1 s ((r.l.own s).rec λu na sx W a a a=>⟨_,u,na,sx,rfl,W,((L e).e y F w sl ow st c2 t.toFOK r).stmV r.l C λf z w₁ v A c q C=>by cases f with|lst D=>exact vG C λl hl C=>PJ hl λhz M=>(c.l.own s).rec λB na' sx' j H a a=>wa.atL (P:=λv=>wpAny X.M F.A (call _ [_,v]) _ E w₁.s) q λb o xs G g cl d h lz=>BJ j (c.g.gin _ _ g) cl d (fit_le H (lz▸hz)) (gB c s j (by rw [toList_append,<-M];exact H.append h) C)| _=>exact C.elim⟩))
def iZ(i:Nat):Rd X O T k n BE (.rvs i):=λx F w sl ow st Q E j g d C=>BW j (P:=λx=>wpAny X.M F.A (exec x F.env) Q E w.s) λnm p ap s r c1 c2=>RP C λm f C=>C.ite λl C=>wpAny_Expr_any (PySem.Call_method0 rfl c2 (Tj g.e d.l c1 f ((d.l.own f).rec λo q t c h y y=>⟨"list","list.reverse",plainAttrs_list,slot_list_reverse,type_list_reverse,⟨_,c,rfl⟩,λb e=>by (injection e with e;subst e);exact ⟨_,c,rfl⟩,callWith_builtin rfl (evalArgs_nil3 (OH c (fit_le (a:=0) h l) (gB (E':=E) d f c (by rw [Array.toList_reverse];exact h.reverse) C)))⟩))) g.e.inter rfl
def F5{o:Option AV}{f:Nat->Bb}{P:Addr->Prop}{Z:Prop}(C:Ja X F T w P (match o with|some (.o i)=>f i| _=>none) Q E')(k:∀i,o=some (.o i)->Ja X F T w P (f i) Q E'->Z):Z:=by induction o with|none=>exact C.elim|some a=>induction a with|o i=>exact k i rfl C|v x=>exact C.elim
def gW{o:Option PO}{f:List FV->Bb}{P:Addr->Prop}{Z:Prop}(C:Ja X F T w P (match o with|some (.dl l)=>f l| _=>none) Q E')(k:∀l,o=some (.dl l)->Ja X F T w P (f l) Q E'->Z):Z:=by induction o with|none=>exact C.elim|some a=>induction a with|dl i=>exact k i rfl C|inst x y=>exact C.elim
def gU(HE:∀e,Oe X O T k e)(i:Nat)(e:E):Rd X O T k n BE (.oapp i e):=λx F w sl ow st Q E hc D s C=>DT hc (P:=λx=>wpAny X.M F.A (exec x F.env) Q E w.s) λnm p ap y pp p2 c1 c2 c3 c4=>F5 C λo H C=>gW C λW g C=>Dv H λH=>TJ D.e PySem.F.slot_list_append PySem.F.type_list_append c3 c4 (xg D.e s.l c1 H λv t=>qD.rec (motive:=λv z=>Sa w (.o o) v->∃a L n sx,v= .ref a/\w.h.get? a=some (Vg L n sx)/\wpAny X.M F.A (eval y F.env) (λv r=>wpAny X.M F.A (call (.builtin "list.append") [.ref a,v]) (λz=>Q .next) E r) E w.s)
  (λa ha dr t=>dr.rec λxs na hd z=>⟨a,xs,na,#[],rfl,hd,((HE e).e y F w sl ow st c2 D.toFOK s).stmV s.l C λf M w₁ u h c q C=>gW C λm hm C=>C.ite λhz C=>qD.rec (motive:=λv z=>v= .ref a->wpAny X.M F.A (call (.builtin "list.append") [.ref a,u]) (λz=>Q .next) E w₁.s) (λa' G A B=>A.rec λxs' na' j l=>by
    (injection B with B;subst B);exact Ux j (fit_le (a:=0) l (Nat.le_of_lt hz)) ((Wm j λxs=>xs.push u).elim λn' d=>have V:=c.g.upd (o:= .dl (m++ [f])) (tk:=w₁.s.toks) G (λb hb=>get?_update_other _ _ (Ne.symm hb)) (eg d) ⟨_,_,d,by rw [toList_push];exact l.append (.cons q .nil)⟩
     C (w₁.at _ _) ow (.of_step V.2) ⟨V.1,c.l.step V.2⟩)) (qn c.g hm (h.arel t)) rfl⟩) (qn s.g g t) t)
def P5{m:Res AV}{sl:List Slot}{a b:ia->Bb}:sV m sl (λx st=>match x with| .bool u=>br u (a st) (b st)| _=>none)=sE (Md m) sl λu st=>br u (a st) (b st):=Et (R:=λm=>sV m sl (λx st=>match x with| .bool u=>br u (a st) (b st)| _=>none)=sE (Md m) sl λu st=>br u (a st) (b st)) m rfl (λx st=>by induction x with|o i=>rfl|v f=>cases f<;>rfl) λy y=>rfl
def Ja.eq(e:r=r')(C:Ja X F T w P r Q E'):Ja X F T w P r' Q E':=e▸C
def eZ(l:∀e,Oe X O T k e)(c:E)(a b:S)(o:Og X O T k n BE a)(hb:Og X O T k n BE b):Rd X O T k n BE (.ifs c a b):=λx F w sl ow st Q E q g h C=>yW q (P:=λx=>wpAny X.M F.A (exec x F.env) Q E w.s) λt y z p c1 c2 c3=>wpAny_If (((l c).t t F w sl ow st c1 g.toFOK h).stm h.l (C.eq P5) λu d w₁ v j f e C=>by subst e;induction u with|true=>exact o y F w₁ sl ow d Q E c2 g f C|false=>exact hb z F w₁ sl ow d Q E c3 g f C)
def oU:Og X O T k n BE .skip:=λxs F w sl ow st Q E b c a C=>Na b (P:=λxs=>wpAny X.M F.A (execs xs F.env) Q E w.s) λx=>wpAny_execs_nil (C w ow .refl a)
def Ja.seq{r:Bb}{f:List Slot->ia->Bb}{P:Addr->Prop}{Q':Flow->Shared->Prop}(C:Ja X F T w P (match r with|some (.next,sl,st)=>f sl st|z=>z) Q E')(g:∀s,Q .brk s->Q' .brk s)(h:∀v s,Q (.ret v) s->Q' (.ret v) s)(k:∀w' b sl' st',SStep F.env P w (Own sl' b) w'->J X F T w' sl' b st'->Ja X F T w' (Own sl' b) (f sl' st') Q E'->Q' .next w'.s):Ja X F T w P r Q' E':=by
 induction r with
 |none=>exact C|some p=>
  induction p with|mk fl q=>induction q with|mk sl' st'=>induction fl with
  |next=>exactλw' b c d=>k w' b sl' st' c d (Ja.after (r:=f sl' st') C c)
  |brk=>exactλw' b c d=>g _ (C w' b c d)|ret a=>exactλw' v c e r=>h v _ (C w' v c e r)|exc t=>exact C
def wZ(a b:S)(d:OJ a=false)(l:Rd X O T k n BE a)(hb:Og X O T k n BE b):Og X O T k n BE (.seq a b):=λxs F w sl ow st Q E c g j C=>Zc (show nj xs (λx r=>Nd T BE a x&&Gd T BE b r)=true by rw [show Gd T BE (.seq a b) xs=br (OJ a) (Gd T BE b xs) (nj xs λx r=>Nd T BE a x&&Gd T BE b r) from rfl,d] at c;exact c) (P:=λxs=>wpAny X.M F.A (execs xs F.env) Q E w.s) λx r c=>a2 c λc1 c2=>wpAny_execs_cons (l x F w sl ow st _ E c1 g j (Ja.seq (f:=λsl st=>ua O n b sl st) C (λy q=>q) (λy y q=>q) λw' e sl' st' o h C=>hb r F w' sl' e st' Q E c2 g h C))
def vZ(i:Nat)(b:S)(hb:Og X O T k n BE b):Og X O T k n BE (.seq (.frz i) b):=λxs F w sl ow st Q E A v j C=>by
 have C:Ja X F T w (Own sl ow) (match (Hi (wO sl i sl[i]?) st:Bb) with|some (.next,sl,st)=>ua O n b sl st|z=>z) Q E:=C;induction f:sl[i]? with
 |none=>rw [f] at C;exact C.elim|some z=>
  rw [f] at C;induction z with
  |u=>exact C.elim|a y=>exact C.elim|own m=>
   refine (j.l.own f).rec λc p q s D y g=> ?_;have l:=lg (o:=Vg c p q) g.1;have t:SStep F.env (Own sl ow) w (Own (sl.set i (.a (.v (.lst m)))) ow) (w.frz (ow i) (Vg c p q)):=⟨⟨l,λa o e=>Xo e (λz y=> .inr (.inr ⟨i,m,f,z⟩)) .inl,λb o y e=> .inl e,λy e=>e,Fi w,rfl,rfl⟩,λb hb=> .inl (Ag hb)⟩;exact hb xs F (w.frz (ow i) (Vg c p q)) _ ow st Q E A v ⟨j.g.freeze g (j.g.apartO s λy y d=>nomatch d) s,j.l.turn (z:= .a (.v (.lst m))) f ⟨l,[],(append_nil _).symm⟩ (λa o e h y n=>⟨⟨o.slots,e⟩,(Cn n).trans h.1,h.2⟩)
    λx G B=>Br.mk (.ref (ow i)) (.loc B.1 B.2.1) (wa.lst (Bc _ _ _) rfl rfl (D.mono l))⟩ (Ja.after (r:=ua O n b (sl.set i (.a (.v (.lst m)))) st) C t)
end
section
variable {X:Ctx} {O:wb} {T:Tab} {k n:Nat} {BE:Str} {F:Fr} {w:Wd} {sl:List Slot} {ow:Nat->Addr} {st:ia}
def yZ{m:Nat}{P:Prop}(h:Hb sl st m x=some st')(k:∀i c fs,sl[0]? =some (.a (.o i))->st[i]? =some (.inst c fs)->sd c m=true->fs.length<90->st.set i (.inst c (qg fs m x))=st'->P):P:=by
 unfold Hb at h;induction e:(sl[0]? :Option Slot) with
 |none=>rw [e] at h;exact Cb h|some s=>
  rw [e] at h;induction s with
  |a y=>induction y with|v b=>exact Cb h|o i=>dsimp only at h;induction d:st[i]? with|none=>rw [d] at h;exact Cb h|some p=>rw [d] at h;induction p with|dl b=>exact Cb h|inst c fs=>exact PJ h λz f=>a2 z λg j=>k i c fs e d g (of_decide_eq_true j) f
  | _=>exact Cb h
def XG{st':ia}{v:Value}{E:Value->Shared->Prop}(B:ib X)(f:pe X O T k)(j:wc F.env T)(b:J X F T w sl ow st)(t:isVar T 0 x=true)(q:at? T.ats m nm=true)(e:Hb sl st m a=some st')(r:Sa w a v)(h:∀w',Step w w'->J X F T w' sl ow st'->Q () w'.s):wpAny X.M F.A (assign (.Attribute (.Name x np) nm p) F.env v) Q E w.s:=yZ e λi c fs o s l u es=>by rw [f.ats m nm (at?_iff q),assign_Attribute];exact wpAny_bind (wpAny_holding (xg j b.l t o λz y=>wpAny_bind (wpAny_standAt (wpAny_bind (wpAny_holding (pU B.toObjOK b.g s y l r u λw' d g=>wpAny_release (h w' d ⟨es▸g,b.l.step d⟩)))))))
def cU(B:ib X)(p:pe X O T k)(o:∀e,Oe X O T k e)(m:Nat)(e:E):Rd X O T k n BE (.asgA m e):=λx F w sl ow st Q E t j h C=>yT t (P:=λx=>wpAny X.M F.A (exec x F.env) Q E w.s) λnm np d ap v l c1 c2 c3 c4=>by rw [show exec (.Assign [.Attribute (.Name nm np) d ap] v l) F.env=(do standAt l;let u<-eval v F.env;assign (.Attribute (.Name nm np) d ap) F.env u;pure .next) from plainObj_exec_Assign_Attribute _ _ _ _ _ (Lg c4)];refine wpAny_bind (wpAny_standAt (wpAny_bind (((o e).e v F w sl ow st c3 j.toFOK h).stm h.l C λa b w₁ u i c f C=> ?_)));induction q:Hb sl b m a with|none=>rw [q] at C;exact C.elim|some g=>rw [q] at C;exact wpAny_bind (XG B p j.e c c1 c2 q f λw' s r=>wpAny_pure (C w' ow (.of_step s) r))
def iO:∀{b:List Mine.T} {l:List Expr},To T b l=true->(assignEach l env).length=b.length/\(assignEach l env).findIdx? (·.1)=none:=by
 intro b;have step:∀{t:Mine.T} {b:List Mine.T} {x:Expr} {l:List Expr},assignEach (x::l) env=(false,assign x env)::assignEach l env->((assignEach l env).length=b.length/\(assignEach l env).findIdx? (·.1)=none)->(assignEach (x::l) env).length=(t::b).length/\(assignEach (x::l) env).findIdx? (·.1)=none:=λe h=>by rw [e];exact ⟨congrArg Nat.succ h.1,by rw [findIdx?_cons,h.2];rfl⟩
 induction b with|nil=>exactλh=>Na h (P:=λl=>(assignEach l env).length=0/\(assignEach l env).findIdx? (·.1)=none) λy=>⟨rfl,rfl⟩|cons t b c=>intro l h;induction t with|v i=>exact Zc h (P:=λl=>(assignEach l env).length=b.length+1/\(assignEach l env).findIdx? (·.1)=none) λx l h=>ya h (P:=λx=>(assignEach (x::l) env).length=b.length+1/\(assignEach (x::l) env).findIdx? (·.1)=none) λy y h=>a2 h λy h=>step (t:= .v i) rfl (c h)|a m=>exact Zc h (P:=λl=>(assignEach l env).length=b.length+1/\(assignEach l env).findIdx? (·.1)=none) λx l h=>xb h (P:=λx=>(assignEach (x::l) env).length=b.length+1/\(assignEach (x::l) env).findIdx? (·.1)=none) λo y y h=>ya h (P:=λo=>(assignEach (.Attribute o _ _::l) env).length=b.length+1/\(assignEach (.Attribute o _ _::l) env).findIdx? (·.1)=none) λy y h=>a2 h λy h=>step (t:= .v m) rfl (c h)
def zb.up(S:zb env P w w'):Up w w':=⟨S.grow,S.more.imp λx h=>h.1⟩
def Qo(X:Ctx)(F:Fr)(T:Tab)(w:Wd)(P:Addr->Prop)(r:Option (List Slot×ia))(ow:Nat->Addr)(Q:Unit->Shared->Prop):Prop:=match r with|some (sl',st')=>∀w',SStep F.env P w (Own sl' ow) w'->J X F T w' sl' ow st'->Q () w'.s|none=>False
def Qo.after(C:Qo X F T w P r ow Q)(S:SStep F.env P w P₁ w₁):Qo X F T w₁ P₁ r ow Q:=by induction r with|none=>exact C|some p=>exactλw' b a=>C w' (S.trans b) a
def ON{E:Value->Shared->Prop}(B:ib X)(V:pe X O T k)(H:wc F.env T):∀(g:List Mine.T) (es:List Expr) (as:List AV) (vs:List Value) (w:Wd) (sl:List Slot) (st:ia) (Q:Unit->Shared->Prop),To T g es=true->Qd w as vs->J X F T w sl ow st->Qo X F T w (Own sl ow) (Nf g as sl st) ow Q->wpAny X.M F.A (assignInOrder ((assignEach es F.env).map (·.2)) vs) Q E w.s:=by
 intro g;induction g with
 |nil=>intro es as vs w sl st Q e r l C;refine Na e (P:=λes=>wpAny X.M F.A (assignInOrder ((assignEach es F.env).map (·.2)) vs) Q E w.s) λy=> ?_;induction r with|nil=>exact wpAny_pure (C w .refl l)|cons y z=>exact C.elim
 |cons t g ih=>
  intro es as vs w sl st Q e r l C;induction r with
  |nil=>exact C.elim| @cons a as v vs M L=>
   have go:∀es w₁ c d,SStep F.env (Own sl ow) w (Own c ow) w₁->J X F T w₁ c ow d->To T g es=true->Qo X F T w (Own sl ow) (Nf g as c d) ow Q->wpAny X.M F.A (assignInOrder ((assignEach es F.env).map (·.2)) vs) Q E w₁.s:=λes w₁ c d h j e C=>ih es as vs w₁ c d Q e (Qd.up h.f.up L) j (C.after h);induction t with
   |v i=>refine Zc e (P:=λes=>wpAny X.M F.A (assignInOrder ((assignEach es F.env).map (·.2)) (v::vs)) Q E w.s) λx es e=>ya e (P:=λx=>wpAny X.M F.A (assignInOrder ((assignEach (x::es) F.env).map (·.2)) (v::vs)) Q E w.s) λnm p e=>a2 e λA D=> ?_;have C:Qo X F T w (Own sl ow) (match (match put sl i (.a a) with|some sl=>some (sl,st)|none=>none:Option (List Slot×ia)) with|some (sl,st)=>Nf g as sl st|none=>none) ow Q:=C;induction q:put sl i (.a a) with|none=>rw [q] at C;exact C.elim|some c=>rw [q,(mh q).2] at C;exact Ae H A λG h4=>wpAny_bind (wpAny_holding (PySem.wpAny_assign_Name (Me H l G h4 (.a a v M) λw' f s y=>go es w' _ st ⟨f _,λb hb=> .inl (Ag hb)⟩ s D C)))
   |a m=>refine Zc e (P:=λes=>wpAny X.M F.A (assignInOrder ((assignEach es F.env).map (·.2)) (v::vs)) Q E w.s) λx es e=>xb e (P:=λx=>wpAny X.M F.A (assignInOrder ((assignEach (x::es) F.env).map (·.2)) (v::vs)) Q E w.s) λo u ap e=>ya e (P:=λo=>wpAny X.M F.A (assignInOrder ((assignEach (.Attribute o u ap::es) F.env).map (·.2)) (v::vs)) Q E w.s) λnm p e=>a2 e λe G=>a2 e λA D=> ?_;have C:Qo X F T w (Own sl ow) (match (match Hb sl st m a with|some st=>some (sl,st)|none=>none:Option (List Slot×ia)) with|some (sl,st)=>Nf g as sl st|none=>none) ow Q:=C;induction q:Hb sl st m a with|none=>rw [q] at C;exact C.elim|some d=>rw [q] at C;exact wpAny_bind (wpAny_holding (XG B V H l A D q M λw' W s=>go es w' sl d (.of_step W) s G C))
theorem WB:∀(a:List Expr),(∃t∈a,p t=none)->(a.filterMap p).length≠a.length
 | [],h=>by obtain ⟨_,h,_⟩:=h;contradiction
 |t::a,h=>by
  have le:∀l:List Expr,(l.filterMap p).length<=l.length:=λl=>length_filterMap_le ..;rw [filterMap_cons];induction q:p t with
  |none=>have:=le a;show (a.filterMap p).length≠a.length+1;lia|some y=>
   show (a.filterMap p).length+1≠a.length+1;obtain ⟨u,b,e⟩:=h;have:=WB (p:=p) a (by
    rcases mem_cons.mp b with z|z;·rw [z,q] at e;exact noN e
    ·exact ⟨u,z,e⟩)
   lia
def TC(i:wc env T)(h:Sf T l vs=true):swappedStores [.Tuple l k1 p1] (.Tuple vs k2 p2) env=pure none:=by
 unfold swappedStores;dsimp only;unfold Sf at h;simp only [or_eq_true,and_eq_true,bne_iff_ne,ne_eq] at h;have done:∀{a:Bool} {x y:Sem (Option (List Str))},(a=true->x=pure none)->(a=false->y=pure none)->(if a=true then x else y)=pure none:=λ{a x y} f g=>by
  cases a;·exact g rfl
  ·exact f rfl
 refine done (λb=>rfl) λc=> ?_;refine done (λb=>rfl) λo=> ?_;refine done (λb=>rfl) λd=> ?_;refine done (λb=>rfl) λe=> ?_;exfalso;rcases h with (h|h)|h
 ·simp only [or_eq_false_iff,not_eq_false',or_eq_true,beq_iff_eq] at c;rcases c.1.1 with z|z;·exact h.1 z
  ·exact h.2 z
 ·simp only [or_eq_false_iff,bne_eq_false_iff_eq] at d;obtain ⟨t,j,q⟩:=any_eq_true.mp h;refine WB l ⟨t,j,?_⟩ d.1;cases t with
  |Name x p=>
   dsimp only at q|-;rw [if_neg];intro z;simp only [and_eq_true,beq_iff_eq] at z;have:Kb T.names x .local=true:=by
    unfold Kb;have m:T.names.lookup x=some .local:=by rw [<-i.names];exact z.1
    rw [m];rfl
   rw [this] at q;exact Ec q
  | _=>rfl
 ·rw [h] at e;exact tS e
theorem Ey:∀{l:List Str},l.Nodup->l.eraseDups.length=l.length
 | [],y=>rfl|x::r,h=>by
  rw [eraseDups_cons];have:r.filter (λb=> !b==x)=r:=filter_eq_self.mpr λa c=>by have:a≠x:=λe=>(nodup_cons.mp h).1 (e▸c);simp [this]
  rw [this,length_cons,length_cons,Ey (nodup_cons.mp h).2]
theorem VB{p q:Expr->Option Str}:∀(a:List Expr),(∀t∈a,p t=q t/\(q t).isSome)->a.filterMap p=a.filterMap q/\(a.filterMap q).length=a.length| [],x=>⟨rfl,rfl⟩|t::a,h=>by obtain ⟨b,c⟩:=h t (.head _);obtain ⟨f,g⟩:=VB a λu d=>h u (.tail _ d);obtain ⟨y,e⟩:=isSome_iff_exists.mp c;rw [filterMap_cons,filterMap_cons,b,e];exact ⟨by show y::_=y::_;rw [f],by show (a.filterMap q).length+1=a.length+1;rw [g]⟩
def Hq{env:Env}(h:env.scope.kind= .function):env.blockKind= .function:=by unfold Env.blockKind;rw [h];rfl
def QN{env:Env}(d:wc env T)(h:Lh T l vs=true):swappedStores [.Tuple l k1 p1] (.Tuple vs k2 p2) env=pure (some (l.filterMap nameOf)):=by
 unfold swappedStores;dsimp only;unfold Lh at h;simp only [and_eq_true,not_eq_true',decide_eq_true_eq] at h;obtain ⟨⟨⟨⟨⟨⟨g,i⟩,j⟩,c⟩,m⟩,o⟩,r⟩:=h;rw [if_neg,if_neg]
 ·have fin:∀ns:List Str,ns=l.filterMap nameOf->ns.length=l.length->(if (ns.length !=l.length||ns.eraseDups.length !=ns.length)=true then (pure none:Sem (Option (List Str))) else if vs.all (foldedForSure 8)=true then pure none else if vs.all (constantsAlone 8)=true then (do unsupported "assign.tuple-of-constant-expressions:order-of-the-stores";pure (some ns)) else pure (some ns))=pure (some (l.filterMap nameOf)):=λns e f=>by
   subst e;rw [if_neg,if_neg,if_neg];·rw [r];decide
   ·rw [o];decide
   ·rw [Ey m,f];simp
  have nm:=λ(p:Expr->Option Str) (s:∀t∈l,p t=nameOf t)=>VB (p:=p) (q:=nameOf) l λt b=>⟨s t b,by
   have:=all_eq_true.mp c t b;cases t<;>first|rfl|exact Ec this⟩
  refine fin _ (nm _ λt b=> ?_).1 ((congrArg List.length (nm _ λt b=> ?_).1).trans (nm nameOf λa a=>rfl).2)<;>
  ·have:=all_eq_true.mp c t b;cases t with
   |Name x p=>
    dsimp only at this|-;simp only [and_eq_true] at this;rw [if_pos];·rfl
    ·simp only [and_eq_true,beq_iff_eq];exact ⟨by show env.scope.names.lookup x=_;rw [d.names];exact Vb this.1,by simpa using this.2⟩
   | _=>exact Ec this
 ·intro z;obtain ⟨v,u,q⟩:=any_eq_true.mp z;have:=all_eq_true.mp j v u;cases v<;>first|(injection q;done)|(exact Ec this;done)
 ·intro z;rw [Hq d.kind] at z;rw [g] at z;rw [beq_iff_eq.mp i] at z;simp at z
def EZ:swapsWithSole [t] v line env=swapsWith v (some t) line env:=by first|rfl|(unfold swapsWithSole;rfl)
def VH{A:Around}{E:Value->Shared->Prop}(c:A.handled=none)(f:s.heap.IsTuple t items)(d:m=items.size)(h:∀h',yd s.heap.get? h'.get? ->Q items.toList {s with heap:=h'}):wpAny X.M A (unpackItems (.ref t) m none) Q E s:=d▸wpAny_unpackItems_tuple c f λh' a=>h h' λb o e=>a b o (qp e (Ka _)) e
def sL:∀{b:List Mine.T} {as:List AV} {sl:List Slot} {st:ia} {p},Nf b as sl st=some p->b.length=as.length:=by
 intro b;induction b with
 |nil=>intro as sl st p h;induction as with|nil=>rfl|cons x y=>exact Cb h
 |cons t b c=>
  intro as sl st p h;induction as with
  |nil=>exact Cb h|cons a as=>
   unfold Nf at h;split at h;·exact congrArg Nat.succ (c h)
   ·exact Cb h
def jZ(B:ib X)(L:pe X O T k)(H:∀e,Oe X O T k e)(A:List Mine.T)(e:E):Rd X O T k n BE (.unp A e):=λx F w sl ow st Q E W l D C=>CW W (P:=λx=>wpAny X.M F.A (exec x F.env) Q E w.s) λm k1 r v pp c1 c2 c3 c4 c5=>have hw:swappedStores [.Tuple m k1 r] v F.env=pure none:=(or_eq_true_iff.mp c3).elim (λz=>by cases v<;>first|rfl|exact Ec z) λz=>Le z (P:=λv=>swappedStores [.Tuple m k1 r] v F.env=pure none) λvs k2 p2 z=>TC l.e z
 PyProof.Rows.Assign_Tuple (((H e).e v F w sl ow st c2 l.toFOK D).stmV D.l C λf h w₁ u G c j C=>by
  cases f with
  |tup fs=>
   refine wa.atT (P:=λu=>wpAny X.M F.A (assign (.Tuple m k1 r) F.env u) (λy=>Q .next) E w₁.s) j λa o its na g cl d rs hl=> ?_;induction q:Nf A (fs.map .v) sl h with
   |none=>dsimp only at C;rw [q] at C;exact C.elim|some p=>
    induction p with|mk s t=>
    dsimp only at C;rw [q] at C;have z:=iO (env:=F.env) c1;exact wpAny_assign_Tuple l.a.handled ⟨o,c.g.gin _ _ g,cl,na,d⟩ (z.1.trans ((sL q).trans ((length_map _).trans hl))) z.2 λh' he=>have kp:yd w₁.h.get? h'.get? :=λb o e=>he b o (qp e (Ka _)) e
     have i:=Step.kept (w:=w₁) (tk:=w₁.s.toks) kp
     ON B L l.e A m _ _ (w₁.at h' _) sl h _ c1 (Qd.ofF rs) (c.step i (c.g.kept kp)) (by
      rw [q]
      exactλw' V M=>C w' ow ((SStep.of_step i).trans V) M)
  | _=>exact C.elim) (EZ.trans (Lg c4)) hw
end
structure Ent where
 x:Str
 p:Pos
 i:Nat
 o:Bool
 z:Slot
 v:Value
inductive wg(T:Tab)(w₀ w:Wd):Ent->Prop|a:∀x p i a v,Yc T i x=true->Sa w a v->wg T w₀ w ⟨x,p,i,false,.a a,v⟩|o:∀x p i b,isLocal T i x=true->rh w [] b->w₀.h.get? b=none->wg T w₀ w ⟨x,p,i,true,.own [],.ref b⟩
noncomputable def mV(e a:Ent):Prop:=e.o=true->a.o=true->e.v≠a.v
noncomputable abbrev Ent.tgt(e:Ent):Expr:= .Name e.x e.p
noncomputable abbrev Ent.at(e:Ent):Nat×Bool:=(e.i,e.o)
inductive Zf(T:Tab)(w₀ w:Wd):List Expr->List (Nat×Bool)->List Slot->List Value->Prop
 |mk:∀es:List Ent,(∀e∈es,wg T w₀ w e)->es.Pairwise mV->Zf T w₀ w (es.map (·.tgt)) (es.map (·.at)) (es.map (·.z)) (es.map (·.v))
noncomputable def sets(es:List Ent)(sl:List Slot):List Slot:=es.foldl (λsl e=>sl.set e.i e.z) sl
def CQ(es:List Ent):∀(sl:List Slot) (i:Nat) (z:Slot),i∉es.map (·.i)->sets es (sl.set i z)=(sets es sl).set i z:=es.rec (λx x x x=>rfl) λe es a sl i z h=>(congrArg (sets es) (set_comm _ _ λ(q:i=e.i)=>h (by rw [q];exact .head _))).trans (a _ i z λq=>h (.tail _ q))
def DQ(es:List Ent)(sl:List Slot):(es.map (·.i)).Nodup->sets es.reverse sl=sets es sl:=es.rec (λx=>rfl) λe es a h=>by have h':=nodup_cons.mp h;rw [show sets (e::es).reverse sl=(sets es.reverse sl).set e.i e.z by unfold sets;rw [reverse_cons,foldl_append];rfl,a h'.2];exact (CQ es sl e.i e.z h'.1).symm
def cC(es:List Ent):∀sl sl':List Slot,Sl (es.map (·.at)) (es.map (·.z)) sl=some sl'->sets es sl=sl':=es.rec (λx x h=>Option.some.inj h) λe es b sl sl' h=>by have h:(match put sl e.i e.z with|some sl=>Sl (es.map (·.at)) (es.map (·.z)) sl|none=>none)=some sl':=h;induction q:put sl e.i e.z with|none=>rw [q] at h;exact Cb h|some a=>rw [q,(mh q).2] at h;exact b _ _ h
section
variable {T:Tab} {w₀ w₁ w w':Wd} {l:List Expr} {ts:List (Nat×Bool)} {zs:List Slot} {vs:List Value} {i:Nat} {x:Str} {p:Pos} {v:Value}
def wg.older(k:∀b,w₁.h.get? b=none->w₀.h.get? b=none)(h:wg T w₁ w e):wg T w₀ w e:=h.rec (λx p i a v c d=> .a x p i a v c d) λx p i b c d f=> .o x p i b c d (k b f)
def wg.up(u:Up w w')(k:Sx w w')(h:wg T w₀ w e):wg T w₀ w' e:=h.rec (λx p i a v c d=> .a x p i a v c (d.up u)) λx p i b c d f=> .o x p i b c (k _ b d) f
def wg.own(h:wg T w₀ w e):e.o=true->∃b,e.v= .ref b/\w₀.h.get? b=none:=h.rec (λa a a a a a a z=>nomatch z) λx p i b d f c a=>⟨b,rfl,c⟩
def Zf.older(k:∀b,w₁.h.get? b=none->w₀.h.get? b=none)(q:Zf T w₁ w l ts zs vs):Zf T w₀ w l ts zs vs:=q.rec λes a c=> .mk es (λe d=>(a e d).older k) c
def Zf.consA(h:Yc T i x=true)(r:Sa w a v)(q:Zf T w₀ w l ts zs vs):Zf T w₀ w (.Name x p::l) ((i,false)::ts) (.a a::zs) (v::vs):=q.rec λes b c=> .mk (⟨x,p,i,false,.a a,v⟩::es) (forall_mem_cons.mpr ⟨.a x p i a v h r,b⟩) (.cons (λy y z=>nomatch z) c)
def Zf.consO(h:isLocal T i x=true)(o:rh w [] b)(d:w₀.h.get? b=none)(g:w₁.h.get? b≠none)(k:∀b,w₁.h.get? b=none->w₀.h.get? b=none)(q:Zf T w₁ w l ts zs vs):Zf T w₀ w (.Name x p::l) ((i,true)::ts) (.own []::zs) (.ref b::vs):=q.rec λes f m=> .mk (⟨x,p,i,true,.own [],.ref b⟩::es) (forall_mem_cons.mpr ⟨.o x p i b h o d,λe c=>(f e c).older k⟩) (.cons (λe c a n z=>((f e c).own n).elim λj hb=>g ((ref.inj (z.trans hb.1):b=j)▸hb.2)) m)
end
section
variable {X:Ctx} {O:wb} {T:Tab} {k n:Nat} {BE:Str} {F:Fr} {sl:List Slot} {ow:Nat->Addr}
def jT{E:Value->Shared->Prop}{st:ia}(A:wc F.env T)(g:Ent->Value->Sem Unit)(hg:∀e s Q,wpAny X.M F.A (storeName F.env e.x e.v) Q E s->wpAny X.M F.A (g e e.v) Q E s):∀(es:List Ent) (w:Wd) (sl:List Slot) (ow:Nat->Addr) (Q:Unit->Shared->Prop),(∀e∈es,wg T w₀ w e)->es.Pairwise mV->(∀e∈es,e.o=true->∀j m,sl[j]? =some (Slot.own m)->e.v≠ .ref (ow j))->J X F T w sl ow st->(∀w' t,(∀P,zb F.env P w w')->(∀b,Own (sets es sl) t b->Own sl ow b\/w₀.h.get? b=none)->J X F T w' (sets es sl) t st->Q () w'.s)->wpAny X.M F.A (assignInOrder (es.map g) (es.map (·.v))) Q E w.s:=by
 intro es;induction es with
 |nil=>exactλw sl ow Q y y y D h=>wpAny_pure (h w ow (λP=> .of_step .refl) (λy=> .inl) D)|cons e es ih=>
  intro w sl ow Q he G ho D h;have G:=pairwise_cons.mp G;have B:=forall_mem_cons.mp he;have u:=forall_mem_cons.mp ho;show wpAny X.M F.A (do holding (es.map (·.v)) (g e e.v);assignInOrder (es.map g) (es.map (·.v))) Q E w.s;have go:∀c,(∀q∈es,q.o=true->∀j m,(sl.set e.i e.z)[j]? =some (Slot.own m)->q.v≠ .ref (c j))->(∀b,Own (sl.set e.i e.z) c b->Own sl ow b\/w₀.h.get? b=none)->∀w₁,(∀P,zb F.env P w w₁)->J X F T w₁ (sl.set e.i e.z) c st->Sx w w₁->wpAny X.M F.A (assignInOrder (es.map g) (es.map (·.v))) Q E w₁.s:=λc hd hs w₁ f d C=>ih w₁ (sl.set e.i e.z) c Q (λq h'=>(B.2 q h').up (f λy=>False).up C) G.2 hd d λw' t f' W J'=>h w' t (λP=>SStep.thenF ⟨f P,λy=> .inl⟩ (f' P)) (λb hb=>(W b hb).elim (hs b) .inr) J';refine wpAny_bind (wpAny_holding (hg e w.s _ ?_));induction B.1 with
  |a x p i a v H L=>exact Ae A H λM V=>Me A D M V (.a a v L) λw₁ f d C=>go ow (λq h' r j m l=>set_inv l (λy z=>nomatch z) λy l=>u.2 q h' r j m l) (λb hb=> .inl (Ag hb)) w₁ f d C|o x p i b H L M=>
   exact Vr H λV h5=>Me A D V (.inl (A.of h5)) (.own [] b (A.of h5) L λj m l z=>u.1 rfl j m l (congrArg ref z.symm)) λw₁ f d C=>go (λj=>if j=i then b else ow j) (λq h' r j m l=>set_inv l (λz y=>(if_pos z:(if j=i then b else ow j)=b).symm▸(G.1 q h' rfl r).symm) λz l=>(if_neg z:(if j=i then b else ow j)=ow j).symm▸u.2 q h' r j m l)
     (λb' hb=>hb.elim λj hb=>hb.elim λm hb=>set_inv hb.1 (λz y=> .inr ((hb.2.trans (if_pos z)).symm▸M)) λz l=> .inl ⟨j,m,l,hb.2.trans (if_neg z)⟩) w₁ f d C
def IS(HE:∀e,Oe X O T k e)(hF:FOK T k F):∀(f:List (Nat×Bool)) (es:E) (l j:List Expr) (w:Wd) (st:ia),yD T f l=true->Wx T f es j=true->J X F T w sl ow st->ub X (λw' d vs=>Zf T w w' l f d vs) F w (vd O f es sl st) (spliced (backTo pos (starEach j F.env))):=by
 intro f;induction f with
 |nil=>exactλes l j w st D g G=>Na D (P:=λl=>ub X (λw' d vs=>Zf T w w' l [] d vs) F w (vd O [] es sl st) (spliced (backTo pos (starEach j F.env)))) λp=>lE g (P:=λes=>ub X (λw' d vs=>Zf T w w' [] [] d vs) F w (vd O [] es sl st) (spliced (backTo pos (starEach j F.env)))) λg=>Na g (P:=λj=>ub X (λw' d vs=>Zf T w w' [] [] d vs) F w (vd O [] .nil sl st) (spliced (backTo pos (starEach j F.env)))) λp Q E c=>wpAny_items_nil (c w _ .refl G.g (.mk [] (λp h=>nomatch h) .nil))|cons t f ih=>
  intro es l j w st D g G;induction t with|mk i o=>
  refine Zc D (P:=λl=>ub X (λw' d vs=>Zf T w w' l ((i,o)::f) d vs) F w (vd O ((i,o)::f) es sl st) (spliced (backTo pos (starEach j F.env)))) λy l D=>ya D (P:=λy=>ub X (λw' d vs=>Zf T w w' (y::l) ((i,o)::f) d vs) F w (vd O ((i,o)::f) es sl st) (spliced (backTo pos (starEach j F.env)))) λnm np D=>a2 D λD h3=> ?_;refine eM g (P:=λes=>ub X (λw' d vs=>Zf T w w' (.Name nm np::l) ((i,o)::f) d vs) F w (vd O ((i,o)::f) es sl st) (spliced (backTo pos (starEach j F.env)))) λa es g=>Zc g (P:=λj=>ub X (λw' d vs=>Zf T w w' (.Name nm np::l) ((i,o)::f) d vs) F w (vd O ((i,o)::f) (.cons a es) sl st) (spliced (backTo pos (starEach j F.env)))) λx j g=> ?_;induction o with|false=>refine a2 g λg h6=>a2 g λh4 h5=>λQ E c=> ?_;exact wpAny_items_cons (((HE a).e x F w sl ow st h4 hF G).go G.l c λav H w₁ v q V W c=>(ih es l j w₁ H h3 h6 V).bnd c λd L C u r s B c=>c C _ .refl s (.consA D (r.arel W) (B.older q.dead))) (vg h5)|true=>refine oO g (P:=λa=>ub X (λw' d vs=>Zf T w w' (.Name nm np::l) ((i,true)::f) d vs) F w (vd O ((i,true)::f) (.cons a es) sl st) (spliced (backTo pos (starEach (x::j) F.env)))) λb g=>lE g (P:=λb=>ub X (λw' d vs=>Zf T w w' (.Name nm np::l) ((i,true)::f) d vs) F w (vd O ((i,true)::f) (.cons (.lst b) es) sl st) (spliced (backTo pos (starEach (x::j) F.env)))) λg=>Fh g (P:=λx=>ub X (λw' d vs=>Zf T w w' (.Name nm np::l) ((i,true)::f) d vs) F w (vd O ((i,true)::f) (.cons (.lst .nil) es) sl st) (spliced (backTo pos (starEach (x::j) F.env)))) λxl xp g=>Na g (P:=λxl=>ub X (λw' d vs=>Zf T w w' (.Name nm np::l) ((i,true)::f) d vs) F w (vd O ((i,true)::f) (.cons (.lst .nil) es) sl st) (spliced (backTo pos (starEach (.List xl xp::j) F.env)))) λg=>λQ E c=> ?_;have q:=Step.kept (w:=w) (tk:=w.s.toks) (Ob (o:={cls:= .type "list",data:= .seq ([]:List Value).toArray}));have M:=G.g.kept (tk:=w.s.toks) (Ob (o:={cls:= .type "list",data:= .seq ([]:List Value).toArray}));have A:=Ka w.h;have hg:(w.h.push {cls:= .type "list",data:= .seq ([]:List Value).toArray}).get? w.h.objs.size=some (Vg #[] 0 #[]):=get?_push_size _ rfl;exact wpAny_items_cons (wpAny_List (wpAny_items_nil ⟨zero_le _,(ih es l j (w.at _ w.s.toks) st h3 g (G.step q M)).bnd (Oa.step (m:=bnd (vd O f es sl st) λl st=>ok (.own []::l) st) c q) λd L C u r s B c=>c C _ .refl s (.consO D ⟨#[],0,#[],r.same (G.g.off A).2 hg (λp p z=>nomatch z),.nil,rfl,r.off hg (G.g.off A)⟩ A (λz=>Zd hg z) q.dead B)⟩)) rfl
def yJ(es:List Ent):(assignEach (es.map (·.tgt)) env).map (·.2)=es.map (λe v=>assign e.tgt env v)/\(assignEach (es.map (·.tgt)) env).length=es.length/\(assignEach (es.map (·.tgt)) env).findIdx? (·.1)=none:=es.rec ⟨rfl,rfl,rfl⟩ λe es a=>⟨congrArg (List.cons _) a.1,congrArg Nat.succ a.2.1,show ((false,assign e.tgt env)::assignEach (es.map (·.tgt)) env).findIdx? (·.1)=none by rw [findIdx?_cons,a.2.2];rfl⟩
def Dy(es:List Ent):(es.map (·.tgt)).filterMap nameOf=es.map (·.x):=es.rec rfl λe es a=>congrArg (List.cons e.x) a
end
section
variable {X:Ctx} {O:wb} {T:Tab} {k n:Nat} {BE:Str} {F:Fr} {w w₁:Wd} {sl sl':List Slot} {ow:Nat->Addr} {st:ia}
def ub.z{Q:d->Shared->Prop}{E:Value->Shared->Prop}(D:ub X R F w m t)(c:Yu X F w Z m E)(go:∀a b w₁ v,Step w w₁->Ea X F.l w₁ b->R w₁ a v->Z a b->Q v w₁.s):wpAny X.M F.A t Q E w.s:=by refine D Q E ?_;induction m with|none=>exact c|some p=>induction p with|mk r st=>induction r with|ok a=>exactλw₁ v S I x=>go a st w₁ v S I x c|error t=>exact c
def SD{E:Value->Shared->Prop}(D:wc F.env T)(i:Ab F.env T.xs w sl ow)(l:Step w w₁)(c:J X F T w₁ sl ow st)(u:∀e∈es,wg T w w₁ e)(A:es.Pairwise mV)(v:sets es sl=sl')(g:Ent->Value->Sem Unit) (G:∀e s Q,wpAny X.M F.A (storeName F.env e.x e.v) Q E s->wpAny X.M F.A (g e e.v) Q E s) (kp:yd w₁.h.get? h'.get?) (tk:Nat) (C:pf X F T w (Own sl ow) .next sl' st Q E):wpAny X.M F.A (assignInOrder (es.map g) (es.map (·.v))) (λx=>Q .next) E (w₁.at h' tk).s:=have d:=Step.kept (w:=w₁) (tk:=tk) kp
 jT (w₀:=w) D g G es (w₁.at h' tk) sl ow _ (λe p=>(u e p).up .at λm b B=>rh.move (env:=F.env) (P:=λx=>False) .at (λa o e h x x=>⟨⟨o.slots,kp a o e⟩,h⟩) id B) A (λe p L j M H z=>((u e p).own L).elim λb hb=>Nl (owned i ⟨j,M,H,rfl⟩) λo q=>Zd q ((ref.inj (hb.1.symm.trans z):b=ow j)▸hb.2))
  (c.step d (c.g.kept kp)) λw' t f r y=>C w' t ⟨(SStep.of_step (l.trans d)).thenF (f _),λb hb=>r b (v.symm▸hb)⟩ (v▸y)
def ML{E:Value->Shared->Prop}{Z:Prop}(C:Ja X F T w P (br (distinct a) (Hi o st) none) Q E)(k:∀sl',distinct a=true->o=some sl'->pf X F T w P .next sl' st Q E->Z):Z:=by induction q:distinct a with|false=>rw [q] at C;exact C.elim|true=>rw [q] at C;induction o with|none=>exact C.elim|some sl'=>exact k sl' q rfl C
def eU(V:∀e,Oe X O T k e)(g:List (Nat×Bool))(es:E):Rd X O T k n BE (.asgs g es):=λx F w sl ow st Q E hc m q C=>zT hc (P:=λx=>wpAny X.M F.A (exec x F.env) Q E w.s) λp k1 p1 M k2 p2 pp c1 c2 c3 c4=>have C:Ja X F T w (Own sl ow) (sE (vd O g es sl st) sl λl st=>br (distinct g) (Hi (Sl g l sl) st) none) Q E:=C
 have t:swapsWithSole [.Tuple p k1 p1] (.Tuple M k2 p2) pp.line F.env=pure false:=EZ;have hz:∀{es:List Ent},(es.map (·.at)).length<=10->(es.map (·.v)).length<=sizeLine:=λh=>by rw [length_map] at h|-;exact Nat.le_trans h (by decide)
 (or_eq_true_iff.mp c4).elim
  (λc4=>PyProof.Rows.Assign_Tuple (wpAny_Tuple ((IS V m.toFOK g es p M w st c1 c2 q).z C.toZ λu f w₁ vs d i j C=>Zf.rec (motive:=λp g u vs y=>g.length<=10->Ja X F T w (Own sl ow) (br (distinct g) (Hi (Sl g u sl) f) none) Q E->vs.length<=sizeLine/\wpAny X.M F.A (assign (.Tuple p k1 p1) F.env (.ref w₁.h.objs.size)) (λy=>Q .next) E {w₁.s with heap:=w₁.h.push {cls:= .type "tuple",data:= .seq vs.toArray}})
   (λes A B D C=>⟨hz D,ML C λsl' y H C=>have z:=yJ (env:=F.env) es
    wpAny_assign_Tuple (items:=(es.map (·.v)).toArray) m.a.handled ⟨_,get?_push_size _ rfl,rfl,_,rfl⟩ (z.2.1.trans (by rw [size_toArray,length_map])) z.2.2 λh' G=>by
     rw [z.1];exact SD m.e q.l d ⟨i,q.l.step d⟩ A B (cC es sl sl' H) (λe v=>assign e.tgt F.env v) (λe s Q L=>PySem.wpAny_assign_Name L) (λb o e=>have W:=Ob (o:={cls:= .type "tuple",data:= .seq (es.map (·.v)).toArray}) b o e
      G b o (qp W (Ka _)) W) _ C⟩) j c3 C)) t (TC m.e c4))
  λc4=>Assign_Tuple_swapped (wpAny_Tuple ((IS V m.toFOK g es p M w st c1 c2 q).z C.toZ λu f w₁ vs d i j C=>Zf.rec (motive:=λp g u vs y=>g.length<=10->Ja X F T w (Own sl ow) (br (distinct g) (Hi (Sl g u sl) f) none) Q E->vs.length<=sizeLine/\wpAny X.M F.A (unpackItems (.ref w₁.h.objs.size) (p.filterMap nameOf).length none) (λitems s=>wpAny X.M F.A (assignInOrder ((p.filterMap nameOf).reverse.map (bindName F.env)) items.reverse) (λy=>Q .next) E s) E {w₁.s with heap:=w₁.h.push {cls:= .type "tuple",data:= .seq vs.toArray}})
   (λes A B D C=>⟨hz D,ML C λsl' hd H C=>VH (items:=(es.map (·.v)).toArray) m.a.handled ⟨_,get?_push_size _ rfl,rfl,_,rfl⟩ (by rw [Dy,size_toArray,length_map,length_map]) λh' kp=>by rw [Dy,<-map_reverse,map_map,<-map_reverse];have r:=Jr hd;rw [map_map] at r;exact SD (es:=es.reverse) m.e q.l d ⟨i,q.l.step d⟩ (λe G=>A e (mem_reverse.mp G)) (pairwise_reverse.mpr (B.imp λh a b c=>h b a c.symm)) ((DQ es sl r).trans (cC es sl sl' H)) (λe=>bindName F.env e.x) (λe s Q L=>wpAny_bindName L) (λb o e=>kp b o (Ob b o e)) _ C⟩) j c3 C)) t (QN m.e c4)
end
abbrev tD(X:Ctx)(F:Fr)(E:Value->Shared->Prop):Value->Shared->Prop:=notedBy X.M F.A F.env λe s'=>cameBackBy X.M F.A F.env E e s'
section
variable {X:Ctx} {O:wb} {T:Tab} {k n:Nat} {BE:Str} {F:Fr} {w w₀:Wd} {P P₀:Addr->Prop} {sl:List Slot} {ow:Nat->Addr} {st:ia} {t:FV} {Q Q':Flow->Shared->Prop} {E':Value->Shared->Prop}
def tB(g:Uv T k F)(I:Ea X F.l w st)(x:Exc X hb w F.l f t e)(m:f=none\/f=some F.env.locals)(j:∀b,w.h.get? b=none->hb.get? b=none)(h:∀h' tk,bg X hb w F.l st (some F.env.locals) t e h' tk->E' (.ref e) (w.at h' tk).s):tD X F E' (.ref e) w.s:=g.cons.elim λl o=>pA o g.a.frames g.fr I x m j λi d q1 q2=>VS (w:=w.at i d) g.fr q1.glo q1.exc q2 λc a p=>h c a (q1.trans p)
def ub.turn{t:Sem h}(g:Uv T k F)(D:ub X R F w m t)(L:Ab F.env T.xs w sl ow)(C:Ja X F T w P (sE m sl f) Q E')(go:∀a b w₁ v,Step w w₁->J X F T w₁ sl ow b->R w₁ a v->Ja X F T w₁ P (f a b) Q E'->Q₁ v w₁.s):wpAny X.M F.A t Q₁ (tD X F E') w.s:=by refine D _ _ ?_;induction m with|none=>exact C|some p=>induction p with|mk r st=>induction r with|ok a=>exactλw₁ v S I x=>go a st w₁ v S ⟨I,L.step S⟩ x (Ja.after (r:=f a st) C (.of_step S))|error t=>exactλw' e S I x=>tB g I x (.inl rfl) S.dead λd c q=>C (w'.at d c) e _ (.of_step (S.later q.lat)) q.glo q.exc (.inr rfl)
def Ja.nex(j:Uv T k F)(C:Ja X F T w₀ P₀ (ai r f) Q E')(S:SStep F.env P₀ w₀ P w)(m:∀s,Q .next s->Q' .brk s)(o:∀v s,Q (.ret v) s->Q' (.ret v) s)(k:∀w' b sl' st',SStep F.env P w (Own sl' b) w'->J X F T w' sl' b st'->Ja X F T w₀ P₀ (f sl' st') Q E'->Q' .next w'.s):Ja X F T w P r Q' (tD X F E'):=by
 induction r with
 |none=>exact C|some p=>
  induction p with|mk fl q=>induction q with|mk sl' st'=>induction fl with
  |next=>exactλw' b c i=>k w' b sl' st' c i C
  |brk=>exactλw' b c i=>m _ (C w' b (S.trans c) i)|ret a=>exactλw' v c h r=>o v _ (C w' v (S.thenF c) h r)|exc t=>exactλw' e f c h x l=>tB j h x l c.dead λg d q=>C (w'.at g d) e _ (S.thenF (c.later q.lat)) q.glo (q.exc.older S.f.dead) (.inr rfl)
inductive wV(X:Ctx)(O:wb)(T:Tab)(n:Nat)(F:Fr)(c:E)(b:S)(Q:Flow->Shared->Prop)(E':Value->Shared->Prop):Nat->Shared->Prop
 |mk:∀m w sl ow st,J X F T w sl ow st->Ja X F T w (Own sl ow) (loops (pa O c) (ua O n b) m sl st) Q E'->wV X O T n F c b Q E' m w.s
def kZ(p:∀e,Oe X O T k e)(c:E)(b:S)(hb:Og X O T k n BE b):Rd X O T k n BE (.whl c b):=λx F w sl ow st Q E B i h C=>EW B (P:=λx=>wpAny X.M F.A (exec x F.env) Q E w.s) λG u D c1 c2=>wpAny_While (codeAny_whileLoop (wV X O T n F c b Q E) (λm s' A=>by
  induction A with|mk w sl ow st h C=>
  induction m with|zero=>exact C.elim|succ m=>refine ((p c).t _ F w sl ow st c1 i.toFOK h).turn i h.l C λz g f v l d e a=> ?_;subst e;induction z with|false=>exact wpAny_execs_nil (a f ow .refl d)|true=>exact hb u F f sl ow g _ _ c2 i d (Ja.nex i a .refl (λy q=>q) (λy y q=>q) λw' j sl' st' s r o=>⟨m,lt_succ_self m,.mk m w' sl' j st' r (Ja.after o s)⟩)) n (.mk n w sl ow st h C))
structure Goes(G:GH)(ch:Addr->Prop)(St:Nat->Heap->Prop):Prop where
 keep:∀i h h',St i h->(∀b o,(ch b\/∃o,G b=some o)->h.get? b=some o->h'.get? b=some o)->St i h'
 at':∀i h b,St i h->ch b->xi h b
inductive nz(X:Ctx)(O:wb)(T:Tab)(n:Nat)(F:Fr)(b:S)(ts:List Nat)(m:List FV)(w₁:Wd)(P₁:Addr->Prop)(St:Nat->Heap->Prop)(ch:Addr->Prop)(Q:Flow->Shared->Prop)(E':Value->Shared->Prop):Nat->Shared->Prop
 |mk:∀j w sl ow st,j<=m.length->SStep F.env P₁ w₁ (Own sl ow) w->J X F T w sl ow st->Ja X F T w₁ P₁ (runs (ua O n b) ts (m.drop j) sl st) Q E'->St j w.h->(∀b,ch b->Off w b)->nz X O T n F b ts m w₁ P₁ St ch Q E' (m.length-j) w.s
def zb.off(S:zb env P w w')(e:w.h.get? a=some o)(h:Off w a)(n:¬P a):Off w' a:=⟨Ue λx q=>(S.fresh a x q).elim (λz=>Zd z h.1) λz=>z.elim (λz=>Zd e z) n,S.more.elim λy b=>b.1▸ip b.2 h.2 e⟩
def Pr{h:Heap}(e:h.get? a=some o)(d:o.data= .fields vs)(c:h.get? b=some o')(n:∀vs,o'.data≠ .fields vs):a≠b:=λz=>n vs (Option.some.inj (e.symm.trans ((congrArg h.get? z).trans c))▸d)
def PB{w':Wd}(S:zb F.env (Own sl ow) w w')(L:Ab F.env T.xs w sl ow)(f:xi w.h a)(c:Off w a):(∀o,w.h.get? a=some o->w'.h.get? a=some o)/\Off w' a:=f.elim λo z=>z.elim λvs z=>by have no:¬Own sl ow a:=λq=>q.elim λi q=>q.elim λl q=>(L.own q.1).rec λh m r e x x x=>Pr z.1 z.2 e (λx d=>nomatch d) q.2;have j:a≠F.env.locals:=L.nm.rec λm g x=>g.elim λb y=>y.elim λes y=>y.elim λp y=>Pr z.1 z.2 y.1 λx d=>nomatch y.2.1.symm.trans d;exact ⟨λb e=>(S.kp a b ⟨c.2,j,.inr (λv d=>nomatch z.2.symm.trans ((congrArg Obj.data (Option.some.inj (z.1.symm.trans e))).trans d)),no⟩ e).same (λes m d=>nomatch z.2.symm.trans ((congrArg Obj.data (Option.some.inj (z.1.symm.trans e))).trans d)),S.off z.1 c no⟩
def SStep.scratch(S:SStep env P w P₀ w₁){ch:Addr->Prop}(fr:∀b,ch b->w.h.get? b=none)(kp:∀b o,¬ch b->w₁.h.get? b=some o->h'.get? b=some o):SStep env P w P₀ (w₁.at h' tk):=⟨S.f.scratch fr kp,S.owns⟩
def J.goers{ch:Addr->Prop}(a:J X F T w sl ow st)(fl:∀b,ch b->xi w.h b)(f:∀b,ch b->Off w b)(kp:∀b o,¬ch b->w.h.get? b=some o->h'.get? b=some o):J X F T (w.at h' tk) sl ow st:=⟨a.g.scratch f (λb c=>(fl b c).elim λo z=>z.elim λvs z=>a.g.apartO z.1 λx x d=>nomatch z.2.symm.trans d) kp,a.l.scratch (λb o c e=>(fl b c).elim λg z=>z.elim λvs z=>OM ((congrArg Obj.data (Option.some.inj (e.symm.trans z.1))).trans z.2)) kp⟩
section
variable {b:S} {ts:List Nat} {m:List FV} {w₁ w₃ w₄:Wd} {P₁:Addr->Prop} {St:Nat->Heap->Prop} {ch:Addr->Prop} {sl₁:List Slot} {ow₁:Nat->Addr} {j:Nat} {bx:List Stmt}
def UC(hb:Og X O T k n BE b)(H:Gd T BE b bx=true)(M:Uv T k F)(W:Goes w₁.G ch St)(S:SStep F.env P₁ w₁ (Own sl ow) w₃)(a:J X F T w₃ sl ow st)(h:SStep F.env (Own sl ow) w₃ (Own sl₁ ow₁) w₄)(y:J X F T w₄ sl₁ ow₁ st)(C:Ja X F T w₁ P₁ (ai (ua O n b sl₁ st) (runs (ua O n b) ts (m.drop (j+1)))) Q E') (i:St (j+1) w₃.h) (V:∀b,ch b->Off w₃ b) (B:j<m.length):
  wpAny X.M F.A (execs bx F.env) (λf s=>match f with| .next| .cont=>∃N,N<m.length-j/\nz X O T n F b ts m w₁ P₁ St ch Q E' N s| .brk=>Q .next s| .ret v=>Q (.ret v) s) (tD X F E') w₄.s:=
 hb bx F w₄ sl₁ ow₁ st _ _ H M y (Ja.nex M C (S.trans h) (λx q=>q) (λx x q=>q) λD l p r A d u=>have G:=h.trans A
  ⟨m.length- (j+1),Nat.sub_lt_sub_left B (lt_succ_self j),.mk (j+1) D p l r B (S.trans G) d u (W.keep _ _ _ i λb o hb e=>hb.elim (λc=>(PB G.f a.l (W.at' _ _ b i c) (V b c)).1 o e) λz=>z.elim λo' g=>have L:=S.f.grow _ _ g
   Option.some.inj ((a.g.gin _ _ L).symm.trans e)▸d.g.gin _ _ (G.f.grow _ _ L)) λb c=>(PB G.f a.l (W.at' _ _ b i c) (V b c)).2⟩)
def jN{Z:Prop}(C:Ja X F T w P (runs f ts (x::r) sl st) Q E')(k:∀sl₁,bindL ts x sl=some sl₁->Ja X F T w P (ai (f sl₁ st) (runs f ts r)) Q E'->Z):Z:=by unfold runs at C;induction q:bindL ts x sl with|none=>rw [q] at C;exact C.elim|some sl₁=>rw [q] at C;exact k sl₁ q C
end
end
section
variable {X:Ctx} {O:wb} {T:Tab} {k n:Nat} {BE:Str}
def uO(HE:∀e,Oe X O T k e)(hb:Og X O T k n BE b){st:ia}(hx:Yc T i x=true)(hci:Wh T it z=true)(hns:og z=true)(hne:Jg it=true)(hcb:Gd T BE b bx=true)(hF:Uv T k F)(Jv:J X F T w sl ow st)(C:Ja X F T w (Own sl ow) (sE (Sd O it sl st) sl λl st=>runs (ua O n b) [i] l sl st) Q E'):wpAny X.M F.A (exec (.For (.Name x xp) z bx [] pp) F.env) Q E' w.s:=wpAny_For (((HE it).i z F w sl ow st hci (λa e=>Ec (e▸hne:Jg (.enm a)=true)) hF.toFOK Jv).stm Jv.l C λm st₁ w₁ v S₁ q r₁ C₁=>tI q.g r₁ λo hm=>hm.rec λvs ho fo hg=>(hg F.A hF.a.handled).elim λSt hW=>by
  have W:=hW.1;have M:=Ka w₁.h;have dd:∀b,b=w₁.h.objs.size->w₁.h.get? b=none:=λb e=>e▸M;have G:Goes w₁.G (·=w₁.h.objs.size) St:=⟨W.keep,λi h b s e=>e▸W.at' i h s⟩;have L:=Step.kept (w:=w₁) (tk:=w₁.s.toks) (Ob (o:=o));refine codeAny_forLoop (it:= .ref w₁.h.objs.size) (nz X O T n F b [i] m w₁ (Own sl ow) St (·=w₁.h.objs.size) Q E') (λN s' hI=> ?_) m.length (nz.mk 0 (w₁.at (w₁.h.push o) w₁.s.toks) sl ow st₁ (zero_le _) (.of_step L) (q.step L (q.g.kept Ob)) C₁ hW.2 λb e=>e▸q.g.off M);induction hI with|mk j r sl₂ ow₂ st₂ hj t D p s V=>
  by_cases P:j<m.length;·refine W.item j r.s _ _ P s λf v u d hf rf A c=> ?_;rw [zz hf] at p;refine jN p λsl₃ g B=> ?_;have g:put sl₂ i (.a (.v f))=some sl₃:=g;have H:=D.goers (tk:=d) (λb=>G.at' _ _ b s) V λb o n e=>c b o n e;rw [(mh g).2] at B;exact Ae hF.e hx λh1 h2=>PySem.wpAny_assign_Name (Me (w:=r.at u d) hF.e H h1 h2 (.a (.v f) v (rf.mono t.f.grow)) λw₄ f₄ J₄ y=>UC hb hcb hF G (t.scratch dd λb o n e=>c b o n e) H ⟨f₄ _,λb hb=> .inl (Ag hb)⟩ J₄ B A V P)
  ·have hje:=Nat.le_antisymm hj (Nat.le_of_not_lt P);rw [hje,drop_length] at p;exact W.done r.s _ _ (hje▸s) λu d c=>wpAny_execs_nil (p (r.at u d) ow₂ (t.scratch dd λb o n e=>c b o n e) (D.goers (λb=>G.at' _ _ b s) V λb o n e=>c b o n e))) (Qr hns)
end
def lU:sE (oE m) sl g=sV m sl λx st=>match x with| .lst l=>if l.length<=big then g (numbered 0 l) st else none| _=>none:=Et (R:=λm=>sE (oE m) sl g=sV m sl λx st=>match x with| .lst l=>if l.length<=big then g (numbered 0 l) st else none| _=>none) m rfl (λx st=>by
  induction x with
  |o i=>rfl|v f=>cases f with
   |lst l=>
    show sE (if l.length<=big then ok (numbered 0 l) st else none) sl g=if l.length<=big then g (numbered 0 l) st else none;by_cases h:l.length<=big;·rw [if_pos h,if_pos h];rfl
    ·rw [if_neg h,if_neg h];rfl
   | _=>rfl) λa a=>rfl
def Fy(m:List FV):∀i:Nat,(numbered i m).length=m.length:=m.rec (λx=>rfl) λx x a i=>congrArg Nat.succ (a (i+1))
def Lq:∀(j i:Nat) (m:List FV),(numbered i m).drop j=numbered (i+j) (m.drop j):=λj=>j.rec (λy y=>rfl) λj b i m=>by induction m with|nil=>rfl|cons x m=>exact (b (i+1) m).trans (congrArg (λa=>numbered a (m.drop j)) (by rw [Nat.add_right_comm];rfl))
section
variable {X:Ctx} {O:wb} {T:Tab} {k n:Nat} {BE:Str}
def Xv(h:isLocal T i x=true):Yc T i x=true:=a2 h λa b=>and_eq_true_iff.mpr ⟨a,by rw [b];rfl⟩
inductive Rx(a la:Addr)(j:Nat)(h:Heap):Prop
 |mk:∀old,IsEnum h (a+1) a ((j:Nat):Int) old->h.IsListIter a la j->Rx a la j h
def hY{P:Prop}(h:(match put sl i x with|some sl=>put sl j y|none=>none)=some sl')(k:sl'=(sl.set i x).set j y->P):P:=by induction q:put sl i x with|none=>rw [q] at h;exact Cb h|some s=>rw [q,(mh q).2] at h;exact k (mh h).2
def tO(B:ib X)(HE:∀e,Oe X O T k e)(hb:Og X O T k n BE b){k1}{st:ia}(hx:isLocal T i x=true)(hx':isLocal T i' x'=true)(hci:Wh T (.enm a) z=true)(hns:og z=true)(hcb:Gd T BE b bx=true)(hF:Uv T k F)(Jv:J X F T w sl ow st)(C:Ja X F T w (Own sl ow) (sE (Sd O (.enm a) sl st) sl λl st=>runs (ua O n b) [i,i'] l sl st) Q E'):
  wpAny X.M F.A (exec (.For (.Tuple [.Name x xp,.Name x' xp'] k1 tp) z bx [] pp) F.env) Q E' w.s:=by
 rw [JB,lU] at C;refine FW (gO hci) (P:=λz=>og z=true->wpAny X.M F.A (exec (.For (.Tuple [.Name x xp,.Name x' xp'] k1 tp) z bx [] pp) F.env) Q E' w.s) (λnm np y cp c1 c2 c3 hns=> ?_) hns;refine wpAny_For (uf B hF.e Jv.g c1 c3 B.b_enum (PySem.callWith_type1 (((HE a).e y F w sl ow st c2 hF.toFOK Jv).stmV Jv.l C λf st₁ w₁ v S₁ V r₁ L=> ?_))) (Qr hns);cases f with
 |lst m=>
  refine Ja.ite L λhz L=>wa.atL (P:=λv=>wpAny X.M F.A (call (.type "enumerate") [v]) _ E' w₁.s) r₁ λla o H na g cl d rs hmi=> ?_;refine call_enumerate_list ⟨o,V.g.gin _ _ g,cl,na,d⟩ λh₂ he hit hsz kp₀=>wpAny_pyIter_enum (s:=(w₁.at h₂ w₁.s.toks).s) he ?_;have dead0:w₁.h.get? w₁.h.objs.size=none:=Ka w₁.h;have dead1:w₁.h.get? (w₁.h.objs.size+1)=none:=get?_none_of_le (le_succ _);have r:=Step.kept (w:=w₁) (tk:=w₁.s.toks) kp₀;have dead:∀b,(b=w₁.h.objs.size\/b=w₁.h.objs.size+1)->w₁.h.get? b=none:=λb hb=>hb.elim (λe=>e▸dead0) λe=>e▸dead1;have G:Goes w₁.G (λb=>b=w₁.h.objs.size\/b=w₁.h.objs.size+1) (Rx w₁.h.objs.size la):=⟨λi h h' A kp=>A.rec λold h1 h2=>h2.elim λoi h2=>⟨old,kp _ _ (.inl (.inr rfl)) h1,⟨oi,kp _ _ (.inl (.inl rfl)) h2.1,h2.2⟩⟩,λi h b A hb=>A.rec λold h1 h2=>hb.elim (λe=>h2.elim λoi h2=>⟨oi,_,e▸h2.1,h2.2.2⟩) λe=>⟨_,_,e▸h1,rfl⟩⟩;refine codeAny_forLoop_any (it:= .ref (w₁.h.objs.size+1)) (nz X O T n F b [i,i'] (numbered 0 m) w₁ (Own sl ow) (Rx w₁.h.objs.size la) (λb=>b=w₁.h.objs.size\/b=w₁.h.objs.size+1) Q E') (λN s' hI=> ?_) (numbered 0 m).length
   (nz.mk 0 (w₁.at h₂ w₁.s.toks) sl ow st₁ (zero_le _) (.of_step r) (V.step r (V.g.kept kp₀)) L ⟨.none,he,hit⟩ λb hb=>V.g.off (dead b hb))
  induction hI with|mk j p sl₂ ow₂ st₂ hj r J₂ M A off=>
  refine A.rec λold u W=> ?_;have hl₂:p.h.IsList la H:=⟨o,J₂.g.gin _ _ (r.f.grow _ _ g),cl,na,d⟩;have nl:=Fy m 0;by_cases hlt:j<(numbered 0 m).length
  ·have hiv:H[j]? =some H[j]:=Array.getElem?_eq_getElem (hmi▸nl▸hlt);refine (rs.back (i:=j) (y:=H[j]) (by rw [getElem?_toList];exact hiv)).elim λf hf=> ?_;refine wpAny_pyNext_enum_item (s:=p.s) u W hl₂ hiv (succ_ne_self _) λh₃ heo hit₃ ht₃ hz₃ hk₃=>wpAny_letOwnedTupleGo_enum (s:=(p.at h₃ (p.s.toks+1)).s) heo λh₄ he₄ D=> ?_;have hit₄:h₄.IsListIter w₁.h.objs.size la (j+1):=hit₃.extBut D.extBut (succ_ne_self _).symm;refine wpAny_assign_Tuple (s:=(p.at h₄ (p.s.toks+1)).s) (items:= #[.int (j:Int) p.s.toks,H[j]]) hF.a.handled ⟨_,(D.2 _ (Nat.ne_of_gt (lt_size u))).trans ht₃,rfl,_,rfl⟩ rfl rfl λt hx₅=> ?_;have kp45:∀b o,h₄.get? b=some o->t.get? b=some o:=λb o e=>hx₅ b o (qp e (Ka _)) e;have kp₅:∀b o,¬(b=w₁.h.objs.size\/b=w₁.h.objs.size+1)->p.h.get? b=some o->t.get? b=some o:=λb o hb e=>kp45 b o ((D.2 b λq=>hb (.inr q)).trans (hk₃ b o (λq=>hb (.inr q)) (λq=>hb (.inl q)) e));rw [show (numbered 0 m).drop j= .tup [.int (j:Nat),f]::(numbered 0 m).drop (j+1) by rw [Lq,Lq,zz hf.1,Nat.zero_add,Nat.zero_add];rfl] at M;refine jN M λsl₃ hb₃ C₃=>hY hb₃ λe3=> ?_;rw [e3] at C₃;have J₃:=J₂.goers (tk:=p.s.toks+1) (λb=>G.at' _ _ b A) off kp₅;have st₅:Rx w₁.h.objs.size la (j+1) t:=⟨_,kp45 _ _ he₄,hit₄.elim λoi z=>⟨oi,kp45 _ _ z.1,z.2⟩⟩;refine Ae hF.e (Xv hx) λh1 h2=>Ae hF.e (Xv hx') λh3 h4=> ?_;show wpAny X.M F.A (do holding [H[j]] (assign (.Name x xp) F.env (.int j p.s.toks));do holding [] (assign (.Name x' xp') F.env H[j]);pure ()) _ _ (p.at t (p.s.toks+1)).s;exact wpAny_bind (wpAny_holding (PySem.wpAny_assign_Name (Me (w:=p.at t (p.s.toks+1)) hF.e J₃ h1 h2 (.a (.v (.int (j:Nat))) _ (wa.int _ _)) λw₄ f₄ J₄ c=>wpAny_bind (wpAny_holding (PySem.wpAny_assign_Name (Me hF.e J₄ h3 h4 (.a (.v f) _ ((hf.2.mono r.f.grow).mono (f₄ λc=>False).grow)) λw₅ f₅ J₅ c=>wpAny_pure
    (UC hb hcb hF G (r.scratch dead kp₅) J₃ (SStep.trans ⟨f₄ _,λb hb=> .inl (Ag hb)⟩ ⟨f₅ _,λb hb=> .inl (Ag hb)⟩) J₅ C₃ st₅ off hlt)))))))
  ·have hje:=Nat.le_antisymm hj (Nat.le_of_not_lt hlt);rw [hje,drop_length] at M;exact wpAny_pyNext_enum_end (s:=p.s) hF.a.handled u W hl₂ (by rw [hje,nl,hmi];exact Array.getElem?_eq_none (Nat.le_refl _)) λh₃ hx₃=>have kp₃:∀b o,¬(b=w₁.h.objs.size\/b=w₁.h.objs.size+1)->p.h.get? b=some o->h₃.get? b=some o:=λb o hb e=>hx₃ b o (λq=>hb (.inl q)) e
    wpAny_execs_nil (M (p.at h₃ p.s.toks) ow₂ (r.scratch dead kp₃) (J₂.goers (λb=>G.at' _ _ b A) off kp₃))
 | _=>exact L.elim
def fU(B:ib X)(d:∀e,Oe X O T k e)(c:List Nat)(it:E)(b:S)(hb:Og X O T k n BE b):Rd X O T k n BE (.fors c it b):=λx F w sl o st Q E h g f C=>CT h (P:=λc x=>Ja X F T w (Own sl o) (sE (Sd O it sl st) sl λl st=>runs (ua O n b) c l sl st) Q E->wpAny X.M F.A (exec x F.env) Q E w.s) (λi nm p z y r c1 c2 c3 c4 c5 C=>uO d hb c1 c2 c3 c4 c5 g f C) (λi j nm p m q k1 t z y s c1 c2 a c3 c4 c5 c6 C=>by induction it<;>first|exact tO B d hb c1 c2 c3 c4 c6 g f C|exact tS c5) C
end
noncomputable abbrev Ek(fn:Fn)(a:List AV):List Slot:=a.map Slot.a++replicate (fn.nslot-fn.npar) Slot.u
def ny(O:wb)(fn:Fn)(b:List AV)(st:ia)(a:E):Res (List FV):=let b:=b++((fn.dflt.drop (b.length+fn.dflt.length-fn.npar)).map AV.v)
  if b.length=fn.npar then Mine.onV (pa O a (Ek fn b) st) λx st=>match x with| .lst l=>if l.length<=big then ok l.reverse st else none|y=>none
  else none
def Zx:E:= .comp (.bin .Mod (.intf (.var 0)) (.bin .Pow (.cst (.int 10)) (.cst (.int 40)))) (.slc (.var 0) .nil (.cst (.int 60))) []
def oy(O:wb)(f:Nat)(a:List AV)(st:ia):Res (List FV):=br (beq f 50) (ny O vf a st Zx) none
def Dn(c m:Nat):Option Fn:=(mT.find? λx=>x.1==c&&x.2.1==m).map (·.2.2)
structure Rec where
 call:Nat->List AV->ia->Res AV
 meth:Nat->Nat->List AV->ia->Res AV
 fresh:Nat->List AV->ia->Res (List FV)
def PK(r:Rec):wb:=⟨λi=>JE[i]?,r.call,r.meth,r.fresh⟩
def zG:Nat->Rec
 |0=>⟨λx x x=>none,λx x x x=>none,λx x x=>none⟩|n+1=>
  {call:=λf l st=>match Bi[f]? with|some fn=>Ed (PK (zG n)) 2000 fn l st|none=>none
   meth:=λc m l st=>match Dn c m with|some fn=>Ed (PK (zG n)) 2000 fn l st|none=>none
   fresh:=oy (PK (zG n))}
def oY:∃f:Nat->Rec,f=zG:=⟨_,rfl⟩
noncomputable def nY:Nat->Rec:=Classical.choose oY
def Ej:nY=zG:=Classical.choose_spec oY
def ja(n:Nat):wb:=PK (nY n)
def Uh(n f:Nat)(l:List AV)(st:ia):(ja (n+1)).call f l st=(match Bi[f]? with|some fn=>Ed (ja n) 2000 fn l st|none=>none):=by unfold ja;rw [Ej];rfl
def Zh(n c m:Nat)(l:List AV)(st:ia):(ja (n+1)).meth c m l st=(match Dn c m with|some fn=>Ed (ja n) 2000 fn l st|none=>none):=by unfold ja;rw [Ej];rfl
def IE(n f:Nat)(l:List AV)(st:ia):(ja (n+1)).fresh f l st=oy (ja n) f l st:=by unfold ja;rw [Ej];rfl
def NV(f:Nat)(l:List AV)(st:ia):(ja 0).call f l st=none:=by unfold ja;rw [Ej];rfl
def UW(c m:Nat)(l:List AV)(st:ia):(ja 0).meth c m l st=none:=by unfold ja;rw [Ej];rfl
def tT(f:Nat)(l:List AV)(st:ia):(ja 0).fresh f l st=none:=by unfold ja;rw [Ej];rfl
theorem my(g:a->c->a)(f:c->a->Sem (ForInStep a))(b:∀x r,f x r=pure (.yield (g r x))):∀(l:List c) (r:a),forIn l r f=pure (l.foldl g r)| [],r=>by rw [forIn_nil];rfl|x::l,r=>by rw [forIn_cons,b,pure_bind];exact my g f b l (g r x)
abbrev Tx(r:List (Str×Value))(x:Str×Value):List (Str×Value):=if (r.lookup x.1).isNone then r++ [x] else r
theorem Cr(n:Str):∀(l r:List (Str×Value)),(l.foldl Tx r).lookup n=(r.lookup n).or (l.lookup n)
 | [],r=>by rw [foldl_nil,lookup_nil,Option.or_none]|(k,v)::l,r=>by
  rw [foldl_cons,Cr n l,lookup_cons];unfold Tx;by_cases h:(r.lookup k).isNone
  ·rw [if_pos h,lookup_append,lookup_cons,lookup_nil];cases hb:n==k;·simp
   ·have e:n=k:=beq_iff_eq.mp hb;subst e;rw [Option.isNone_iff_eq_none.mp h];simp
  ·rw [if_neg h];cases hb:n==k;·rfl
   ·have e:n=k:=beq_iff_eq.mp hb;subst e;induction q:r.lookup n with|none=>rw [q] at h;exact absurd rfl h|some x=>rfl
theorem wj:∀{ns:List Str} {vs:List Value} {i:Nat} {n:Str},ns.Nodup->ns[i]? =some n->(ns.zip vs).lookup n=vs[i]?| [],a,y,b,z,h=>by simp at h|x::ns,[],i,n,a,h=>by simp|x::ns,v::vs,0,n,a,h=>by simp at h;subst h;rw [zip_cons_cons,lookup_cons,beq_self_eq_true];rfl|x::ns,v::vs,i+1,n,d,h=>by simp at h;have c:(n==x)=false:=beq_eq_false_iff_ne.mpr λe=>(nodup_cons.mp d).1 (e▸mem_of_getElem? h);rw [zip_cons_cons,lookup_cons,c];show (ns.zip vs).lookup n=_;rw [wj (nodup_cons.mp d).2 h];simp
theorem Iq:∀{ns:List Str} {c:List Value} {d:Str->Option Value},ns.length=c.length->(∀(i:Nat) (n:Str),ns[i]? =some n->d n=c[i]?)->ns.filterMap (λn=>(d n).map (n,·))=ns.zip c| [],[],x,a,y=>rfl| [],x::a,y,h,b=>by injection h|x::a,[],y,h,b=>by injection h|n::ns,w::c,d,h,k=>by have k0:=k 0 n rfl;rw [filterMap_cons,k0];show (n,w)::_=(n,w)::_;rw [Iq (by simpa using h) λi m e=>by simpa using k (i+1) m (by simpa using e)];rfl
def VD{ns:List Str}(a:ns.Nodup)(c:vs.length<=ns.length)(d:ns.length<=vs.length+ds.length)(f:ds.length<=ns.length):
  ns.filterMap (λn=>((((ns.drop (ns.length-ds.length)).zip ds).foldl Tx (ns.zip vs)).lookup n).map (n,·))=ns.zip (vs++ds.drop (vs.length+ds.length-ns.length)):=by
 refine Iq (by rw [length_append,length_drop];lia) λi n e=> ?_;have g:=(List.getElem?_eq_some_iff.mp e).1;rw [Cr,wj a e];by_cases h:i<vs.length;·rw [getElem?_append_left h];rw [getElem?_eq_getElem h];rfl
 ·rw [getElem?_append_right (by lia),getElem?_eq_none (by lia),Option.none_or];have b:(ns.drop (ns.length-ds.length))[i- (ns.length-ds.length)]? =some n:=by
   rw [getElem?_drop,<-e];congr 1;lia
  rw [wj (a.sublist (drop_sublist ..)) b,getElem?_drop];congr 1;lia
def Vv{s:Shared}(t:fd.params=⟨[],as,none,[],kd,none,df⟩)(k:as.map (·.arg)=ns)(c:ns.Nodup)(g:vs.length<=ns.length) (h:ns.length<=vs.length+ds.length) (j:ds.length<=ns.length)(l:(fd.defaults= .none/\ds= [])\/∃T o items n,fd.defaults= .ref T/\s.heap.get? T=some o/\o.data= .seq items n/\items.toList=ds):BindsTo s fd ⟨vs,[]⟩ (ns.zip (vs++ds.drop (vs.length+ds.length-ns.length))):=by
 intro M A E Q u;have main:∀(items:Option (Array Value)),(items.getD #[]).toList=ds->wpAny M A (seqItems? fd.defaults) (λx s'=>x=items/\s'=s) E s->wpAny M A (bindArgs fd ⟨vs,[]⟩) Q E s:=λitems b d=>by
  unfold bindArgs;rw [t];dsimp only;rw [map_nil,nil_append,k,forIn_nil];refine wpAny_bind (wpAny_pure ?_);dsimp only;refine wpAny_bind (wpAny_mono d (λx s' v=> ?_) λa a x=>x);obtain ⟨rfl,rfl⟩:=v;rw [b];have c1:¬((decide (vs.length>ns.length)&&(none:Option Arg).isNone)=true):=by rw [decide_eq_false (by lia)];decide
  have w:ds.length-ns.length=0:=by lia
  rw [if_neg c1,w,drop_zero];have c2:(filter (λn=>(List.lookup n (ns.zip vs)).isNone) (List.take (ns.length-ds.length) ns))= []:=by
   refine filter_eq_nil_iff.mpr λn p=> ?_;obtain ⟨i,b,e⟩:=getElem_of_mem p;rw [length_take] at b;have f:ns[i]? =some n:=by rw [getElem_take] at e;rw [getElem?_eq_getElem (by lia),e]
   rw [wj c f,getElem?_eq_getElem (by lia)];simp
  rw [c2,if_neg (by decide)];rw [my Tx _ (λx r=>by unfold Tx;split<;>rfl),pure_bind,forIn_nil,pure_bind];rw [if_neg (by show ¬(!([]:List Str).isEmpty)=true;decide),append_nil,VD c g h j];exact wpAny_pure u
 rcases l with ⟨e,rfl⟩|⟨T,o,items,m,e,q,d,b⟩;·exact main none rfl (by rw [e];exact wpAny_pure ⟨rfl,rfl⟩)
 ·exact main (some items) b (by rw [e];exact wpAny_seqItems q d ⟨rfl,rfl⟩)
inductive qV(X:Ctx)(T:Tab)(fn:Fn)(a:Addr)(body:List Stmt):Prop
 |mk:∀o fd as kd df,X.g0.get? a=some o->o.data= .func fd->fd.body= .stmts body->fd.scope.names=T.names->fd.scope.kind= .function->fd.scope.isCoroutine=false->fd.scope.isGenerator=false->fd.globals=mainGlobals->fd.builtins=builtinsNs->fd.closure= []->X.g0.CodeRec fd.code fd.qualname->fd.params=⟨[],as,none,[],kd,none,df⟩->as.map (·.arg)=T.xs.take fn.npar->((fd.defaults= .none/\fn.dflt= [])\/∃D o items n,fd.defaults= .ref D/\X.g0.get? D=some o/\o.data= .seq items n/\Jb X.g0.get? fn.dflt items.toList)->qV X T fn a body
structure xr(X:Ctx)(T:Tab)(fn:Fn)(a:Addr)(body:List Stmt):Prop where
 fd:qV X T fn a body
 nd:T.xs.Nodup
 len:T.xs.length=fn.nslot
 par:fn.npar<=fn.nslot
 dfl:fn.dflt.length<=fn.npar
 kind:∀x∈T.xs,T.names.lookup x=some .local\/T.names.lookup x=some .cell
theorem Hr:∀(names:List (Str×NameKind)) (n:Nat) (acc:List (Str×Addr)) (x:Str),(acc.lookup x).isSome=true->((cellsFrom n names acc).lookup x).isSome=true
 | [],a,y,b,h=>h|(k,c)::r,n,acc,x,h=>by
  unfold cellsFrom;split
  ·refine Hr r _ _ x ?_;rw [lookup_cons];cases x==k;·exact h
   ·rfl
  ·exact Hr r _ _ x h
theorem Ro:∀(names:List (Str×NameKind)) (n:Nat) (acc:List (Str×Addr)) (x:Str),(x,NameKind.cell)∈names->((cellsFrom n names acc).lookup x).isSome=true
 |(k,c)::r,n,acc,x,h=>by
  unfold cellsFrom;rcases mem_cons.mp h with e|h;·obtain ⟨a,b⟩:=Prod.mk.inj e;subst a b;rw [if_pos (by rfl)];refine Hr r _ _ x ?_;rw [lookup_cons,beq_self_eq_true];rfl
  ·split;·exact Ro r _ _ x h
   ·exact Ro r _ _ x h
theorem wB:∀{b:List (Str×Value)} {m:Str->Option Value},x∉b.map (·.1)->PySem.bindL kf b m x=m x
 | [],a,y=>rfl|(n,v)::r,m,h=>by
  have c:x≠n:=λe=>h (by rw [e];exact .head _);unfold PySem.bindL;rw [wB λz=>h (.tail _ z)];split;·exact if_neg c
  ·rfl
theorem uB:∀{b:List (Str×Value)} {m:Str->Option Value},x∉b.map (·.1)->PySem.bindC kf b m x=m x
 | [],a,y=>rfl|(n,v)::r,m,h=>by
  have c:x≠n:=λe=>h (by rw [e];exact .head _);unfold PySem.bindC;rw [uB λz=>h (.tail _ z)];split;·rfl
  ·exact if_neg c
theorem Wu:∀{ns:List Str} {vs:List Value},vs.length=ns.length->(ns.zip vs).map (·.1)=ns| [],x,a=>rfl|n::ns,[],h=>by injection h|n::ns,v::vs,h=>by rw [zip_cons_cons,map_cons,Wu (by simpa using h)]
theorem XH:∀{ns:List Str} {vs:List Value} {m cm:Str->Option Value} {i:Nat} {x:Str} {v:Value},ns.Nodup->vs.length=ns.length->ns[i]? =some x->vs[i]? =some v->(kf x=some .local->PySem.bindL kf (ns.zip vs) m x=some v)/\(kf x≠some .local->PySem.bindC kf (ns.zip vs) cm x=some v)
 | [],y,b,z,c,u,t,p,q,h,r=>by simp at h|n::ns,[],y,b,z,c,u,t,h,p,q=>by injection h|n::ns,w::vs,m,cm,0,x,v,e,f,a,d=>by
  simp at a d;subst a d;have j:=(nodup_cons.mp e).1;have g:n∉(ns.zip vs).map (·.1):=by rw [Wu (by simpa using f)];exact j
  rw [zip_cons_cons];unfold PySem.bindL PySem.bindC;exact ⟨λk=>by rw [wB g,if_pos k];exact if_pos rfl,λk=>by rw [uB g,if_neg k];exact if_pos rfl⟩
 |n::ns,w::vs,m,cm,i+1,x,v,e,f,a,d=>by simp at a d;rw [zip_cons_cons];unfold PySem.bindL PySem.bindC;exact XH (nodup_cons.mp e).2 (by simpa using f) a d
structure uD(env:Env)(h:Heap):Prop where
 loc:h.get? env.locals=none
 cel:∀p∈env.cells,h.get? p.2=none
def uq{i:Nat}(h:(Ek fn args)[i]? =some (Slot.own l')):False:=(mem_append.mp (mem_of_getElem? h)).elim (λz=>(mem_map.mp z).elim λx z=>nomatch z.2) λz=>nomatch (mem_replicate.mp z).2
section
variable {X:Ctx} {T:Tab} {fn:Fn} {f:Addr} {body:List Stmt} {A:Around} {l:List Env} {w w':Wd} {st:ia}
inductive Dfl(fd:FuncData)(w:Wd)(df:List FV)(ds:List Value):Prop
 |mk:Jb w.G df ds->((fd.defaults= .none/\ds= [])\/∃T o items n,fd.defaults= .ref T/\w.h.get? T=some o/\o.data= .seq items n/\items.toList=ds)->Dfl fd w df ds
def Ea.enter(I:Ea X l w st)(kp:yd w.h.get? c.get?)(k:env.scope.kind= .function)(h:env.frame=some env.locals)(j:c.Ns env.locals m)(b:w.h.get? env.locals=none):Ea X (env::l) (w.at c tk) st:=have a:=I.kept (tk:=tk) kp
 have i:=I.off b
 ⟨a.base,a.gin,a.store,a.muG,a.nd,Heap.FunFrames.cons (by rw [k];decide) h j (Ue λy q=>Zd (I.keep0 _ _ q) b) a.frames,λg d L e=>(mem_cons.mp d).elim (λz=>(Option.some.inj (e.symm.trans (z▸h)):L=env.locals)▸i) λd=>a.frS g d L e,λg d L e=>(mem_cons.mp d).elim (λz=>(Option.some.inj (e.symm.trans (z▸h)):L=env.locals)▸j.imp λo z=>z.imp λes z=>z.imp λn z=>⟨z.1,z.2.1⟩) λd=>a.frD g d L e⟩
def pE{d:List AV}(B:ib X)(F:xr X T fn f body)(hA:qr A l (k+2))(I:Ea X l w st)(r:Qd w d vs)(hl:(d++((fn.dflt.drop (d.length+fn.dflt.length-fn.npar)).map AV.v)).length=fn.npar)(h:∀env g tk,Uv T k ⟨A.deeper env,env::l,env⟩->J X ⟨A.deeper env,env::l,env⟩ T (w.at g tk) (Ek fn (d++((fn.dflt.drop (d.length+fn.dflt.length-fn.npar)).map AV.v))) (λt=>0) st->yd w.h.get? g.get? ->uD env w.h->wpAny X.M (A.deeper env) (execs body env) (λf s'=>R (.ok (.ret (match f with| .ret v=>v| _=> .none))) s') (λe s'=>wpAny X.M (A.deeper env) (leaving env e) (λt s''=>R (.error e) s'') (λe' s''=>R (.error e') s'') s') (w.at g tk).s):codeAny X.M A (.call (.ref f) ⟨vs,[]⟩) R w.s:=F.fd.rec λo fd as kd df e1 e2 e3 e4 e5 e6 e7 e8 e9 e10 e11 e12 e13 e14=>by
 have O:=I.keep0;have L:(T.xs.take fn.npar).length=fn.npar:=by rw [length_take,F.len];exact Nat.min_eq_left F.par
 have hds:∃ds,Dfl fd w fn.dflt ds:=e14.elim (λz=>⟨[],z.2▸ .nil,.inl ⟨z.1,rfl⟩⟩) λz=>z.elim λD z=>z.elim λod z=>z.elim λitems z=>z.elim λn z=>⟨items.toList,z.2.2.2.mono I.base,.inr ⟨D,od,items,n,z.1,O _ _ z.2.1,z.2.2.1,rfl⟩⟩;refine hds.elim λds hd=>hd.rec λhdr hdd=> ?_;have lvs:=r.length;have lds:=hdr.length;have hl':=hl;rw [length_append,length_map,length_drop] at hl';have hdf:=F.dfl;have hb:=Vv (s:=w.s) (fd:=fd) (vs:=vs) (ds:=ds) e12 e13 (F.nd.sublist (take_sublist ..)) (by rw [L];lia) (by rw [L];lia) (by rw [L];lia) hdd;rw [L,<-lvs,<-lds] at hb;have rr:Qd w (d++((fn.dflt.drop (d.length+fn.dflt.length-fn.npar)).map AV.v)) (vs++ds.drop (d.length+fn.dflt.length-fn.npar)):=Eb.append r (Qd.ofF (hdr.drop _));generalize d++((fn.dflt.drop (d.length+fn.dflt.length-fn.npar)).map AV.v)=W at rr h hl;generalize vs++ds.drop (d.length+fn.dflt.length-fn.npar)=vals at rr hb;have V:vals.length=(T.xs.take fn.npar).length:=by rw [L,<-hl];exact rr.length.symm
 have hkx:∀x∈T.xs,fd.scope.names.lookup x=some .local\/(fd.scope.names.lookup x=some .cell/\((cellsFrom (w.h.objs.size+1) fd.scope.names []).lookup x).isSome=true):=λx hx=>e4▸(F.kind x hx).imp id λz=>⟨z,Ro _ _ _ _ (mem_of_lookup z)⟩;refine codeAny_call_function (Nat.lt_of_lt_of_le (by lia) hA.depth) (O _ _ e1) e2 e6 e7 e3 (e11.keeps O) (hb _ _ _ _ ?_);rw [e10];refine wpAny_newFunctionEnv_cells e5 (λx hx=>hkx x.1 (mem_of_mem_take (Wu V▸mem_map_of_mem (f:=λp:Str×Value=>p.1) hx))) λenv P s₁ x=>x.done.elim λg z=>z.elim λtk z=> ?_;have kp:=z.2;have C:=z.1;subst C;have hSc:env.scope=fd.scope:=P▸rfl;have hCe:env.cells=cellsFrom (w.h.objs.size+1) fd.scope.names []:=P▸rfl;have H:w.h.get? env.locals=none:=(show env.locals=w.h.objs.size from P▸rfl)▸Ka w.h;have G:wc env T:=⟨hSc▸e4,hSc▸e5,(show env.globals=fd.globals from P▸rfl).trans e8,(show env.builtins=fd.builtins from P▸rfl).trans e9⟩;have new:uD env w.h:=⟨H,λp hp=>get?_none_of_le (Nat.le_of_lt ((show env.locals=w.h.objs.size from P▸rfl)▸x.above p.1 p.2 hp))⟩;have hns:=x.toInCall.ns;have J₁:J X ⟨A.deeper env,env::l,env⟩ T (w.at g tk) (Ek fn W) (λt=>0) st:=by
  have cellOf:∀y,y∈T.xs->env.kindOf y≠some .local->∃c,env.cells.lookup y=some c:=λy hy M=>hCe▸isSome_iff_exists.mp ((hkx y hy).resolve_left λz=>M ((congrArg (·.names.lookup y) hSc).trans z)).2;refine ⟨I.enter kp G.kind (P▸rfl) hns H,F.nd,?_,I.off H,⟨_,hns,λi y s hy C=> ?_⟩,λi j l' l'' t hl'=>(uq hl').elim,λy hy M=>(cellOf y hy λz=>nomatch M.symm.trans z).elim λc hc=>(x.cell y c hc).elim λoc z=>⟨c,oc,_,hc,z.1,z.2,I.off (new.cel (y,c) (mem_of_lookup hc))⟩,λy z c hy hz ky kz ly lz=>name_of_addr x.apart (mem_of_lookup ly) (mem_of_lookup lz)⟩;·rw [length_append,length_map,length_replicate,hl,F.len];exact Nat.add_sub_cancel' F.par
  ·induction s with
   |u=>trivial|own l'=>exact (uq C).elim|a a=>
    have hi:i<W.length:=Nat.lt_of_not_le λq=>by rw [getElem?_append_right (by rw [length_map];exact q)] at C;exact nomatch (mem_replicate.mp (mem_of_getElem? C)).2
    rw [getElem?_append_left (by rw [length_map];exact hi),getElem?_map] at C;induction q:W[i]? with
    |none=>rw [q] at C;exact Cb C|some b=>
     rw [q] at C;refine (rr.get q).elim λv hv=> ?_;have bi:=XH (kf:=env.kindOf) (m:=λt=>none) (cm:=λt=>none) (F.nd.sublist (take_sublist ..)) V (show (T.xs.take fn.npar)[i]? =some y by rw [getElem?_take,if_pos (hl▸hi)];exact hy) hv.1;refine Br.mk v ?_ (by have C:some (Slot.a b)=some (.a a):=C;(injection C with C;injection C with C;subst C);exact hv.2);by_cases M:env.kindOf y=some .local;·exact .loc M (bi.1 M)
     ·have hym:=mem_of_getElem? hy;exact (cellOf y hym M).elim λc hc=>(x.cell y c hc).elim λoc z=> .cell c oc ((F.kind y hym).elim (λz=>absurd (G.of z) M) G.of) hc z.1 (z.2.trans (congrArg _ (bi.2 M))) (I.off (new.cel (y,c) (mem_of_lookup hc)))
 exact ⟨(B.nolimit.keeps O).keeps kp,codeAny_func (h env g tk ⟨⟨⟨hA.handled,Around.frames_deeper hA.frames,show A.depth+1+3*(k+1)+30<=recursionLimit by have:=hA.depth;lia,show A.units+3+40*(k+1)+400<=cLine by have:=hA.units;lia⟩,G⟩,⟨l,rfl⟩,P▸rfl⟩ J₁ kp new)⟩
def zb.out(F:zb env P (w.at c tk) w')(kp:yd w.h.get? c.get?)(N:uD env w.h)(no:∀b,¬P b):Step w w':=have dd:∀b,c.get? b=none->w.h.get? b=none:=λb e=>Ue λo q=>Zd (kp _ _ q) e
 ⟨F.grow,λa o e=>(F.fresh a o e).imp id λz=>z.elim (dd a) λz=>(no a z).elim,λb o hb e=>F.kp b o ⟨hb,qp e N.loc,.inl λp g z=>Zd e (z▸N.cel p g),no b⟩ (kp _ _ e),λb hb=>Nl hb λo d=>F.alive b (eg (kp _ _ d)),(F.more:∃m,w'.sa=w.sa++m/\∀b∈Td m,c.get? b=none).imp λm z=>⟨z.1,λb hb=>dd b (z.2 b hb)⟩,F.rest⟩
def ZH{BE:Str}(B:ib X)(F:xr X T fn f body)(M:Gd T BE fn.body body=true)(L:Og X O T k n BE fn.body):vr X RV (k+2) (.ref f) c st (Ed O n fn c st):=λ⟨A,l,m⟩ w vs Q E hA I V C=>by
 unfold Ed at C;dsimp only at C;induction G:(c++((fn.dflt.drop (c.length+fn.dflt.length-fn.npar)).map AV.v)).length==fn.npar with
 |false=>rw [G] at C;exact C.elim|true=>
  rw [G] at C;refine pE B F hA I V (beq_iff_eq.mp G) λenv d tk z h kp N=>L body _ (w.at d tk) _ _ st _ _ M z h ?_;have no:∀b,¬Own (Ek fn (c++((fn.dflt.drop (c.length+fn.dflt.length-fn.npar)).map AV.v))) (λy=>0) b:=λb q=>q.elim λi q=>q.elim λl' q=>uq q.1;have dd:∀b,d.get? b=none->w.h.get? b=none:=λb e=>Ue λo q=>Zd (kp _ _ q) e;dsimp only at C;generalize ua O n fn.body (Ek fn (c++((fn.dflt.drop (c.length+fn.dflt.length-fn.npar)).map AV.v))) st=r at C|-;induction r with
  |none=>exact C.elim|some p=>
   induction p with|mk fl q=>induction q with|mk sl' st'=>induction fl with
   |next=>exactλw' P g H=>C w' .none (g.f.out kp N no) H.g.tail .none
   |brk=>exact C.elim|ret a=>exactλw' v g s W=>C w' v (g.out kp N no) s.tail W|exc t=>exactλw' e fo g s x D=>wF (hb:=w.h) z.a.frames z.fr s (x.older dd) D (λb hb=>dd b (g.dead b hb)) λu j q=>C (w'.at u j) e ((g.out kp N no).later q.lat) q.glo q.exc
end
section
variable {prog:Program} {w:World} {A:Around} {s:Shared} {K:Frag} {C x:Addr}
def YT(X:K.In s.heap)(I:InstAt s.heap x ox C od)(k:clsIn K C=some cd)(d:cd.mro= [.ref C,.ref UE,.type "Exception",.type "BaseException",.type "object"])(o:takerIn K C name=some r)(h:∀b,wpAny (model prog w) A.in1 (match r with|some a=>setByDescriptor a (.ref x) v|none=>storeInOwnDict (.ref x) (.ref C) (.str name tk) name v b) (λfin s'=>match fin with| .done f=>R (.ok f) s'| .again j=>j.quiet=true/\codeAny (model prog w) A j R s') (λe s'=>R (.error e) s') s):
  codeAny (model prog w) A (.call (.builtin "object.__setattr__") ⟨[.ref x,.str name tk,v],[]⟩) R s:=by
 have c:=store_object;have p:cd.mro.isEmpty=false:=by rw [d];rfl
 have n:cd.mro.contains (.type "object")=true:=by rw [d];simp
 have sub:Looks (model prog w) s.heap (isInstance (.ref x) (.type "object")) true:=I.type.andThen (looks_mroIn X (by unfold mroIn;rw [k,bind_some,if_neg (by rw [p];decide),n]));refine codeAny_call_builtin c.slot.plain c.entry (@check_slot (model prog w) _ _ s "object.__setattr__" "object" "__setattr__" (.ref x) [.str name tk,v] [] _ c.kind c.split sub (c.args (.ref x) (.str name tk) v) ?_);obtain ⟨attr,m,i⟩:=Option.bind_eq_some_iff.mp o;have g:Looks (model prog w) s.heap (mroOf (.ref C)) cd.mro:=(looks_clsIn X k).andThen .now;have l:Looks (model prog w) s.heap (storeTaker? attr) r:=by induction attr with|none=>(refine dac i ?_;clear i;rintro rfl);exact .now|some a=>obtain ⟨b,hb,rfl⟩:=map_eq_some_iff.mp i;refine (looks_takesIn X hb).andThen ?_;induction b<;>exact .now
 rw [osa_eq,refuse_eq];refine wpAny_bind (wpAny_bind (I.type.here (wpAny_bind (g.here ?_))));rw [d,refuseLoop_ref,refuseLoop_ref,store_Exception.passes];refine wpAny_pure (wpAny_bind (I.type.here (wpAny_bind ((looks_findIn X m).here (wpAny_bind (l.here ?_))))));exact h _
def qT{E:Value->Shared->Prop}(X:K.In s.heap)(p:s.heap.get? x=some {cls:= .ref C,data:= .fields vs})(r:clsIn K C=some cd)(t:cd.hasDict=true)(u:cd.mro= [.ref C,.ref UE,.type "Exception",.type "BaseException",.type "object"]) (B:takerIn K C name=some none) (y:findIn K (.ref C) "__setattr__"=some (some (.builtin "object.__setattr__")))(h:∀h' tk n q,(∀b o,b≠x->s.heap.get? b=some o->h'.get? b=some o)->h'.get? x=some {cls:= .ref C,dict:=some s.heap.objs.size,data:= .fields vs}->h'.get? s.heap.objs.size=some ⟨.type "dict",none,.dict #[⟨keyHash w.params name,.str name q,v⟩] n,#[]⟩->Q () {s with heap:=h',toks:=tk}):
  wpAny (model prog w) A (setAttr (.ref x) name v) Q E s:=by
 have I:InstAt s.heap x {cls:= .ref C,data:= .fields vs} C none:=⟨p,rfl,rfl,trivial⟩;refine set_plain X I y (YT (s:={s with toks:=s.toks+1}) X I r u B λb=> ?_);refine wpAny_bind (wpAny_pure (wpAny_bind (wpAny_bind (wpAny_loadPart p (wpAny_bind ((looks_clsIn X r).at ?_))))));rw [t];rw [if_neg (by decide)];show wpAny _ _ (do let d<-alloc {cls:= .type "dict",data:= .dict #[]};update x λo=>{o with dict:=some d};dictMade (.ref C) x d) _ _ _;have m:x≠s.heap.objs.size:=ne_of_lt (lt_size p);have g:=get?_push_of_some {cls:= .type "dict",data:= .dict #[]} p;refine wpAny_bind (wpAny_alloc (wpAny_bind (wpAny_update g (wpAny_pure ?_))));have l:(s.heap.push {cls:= .type "dict",data:= .dict #[]}).get? s.heap.objs.size=some {cls:= .type "dict",data:= .dict #[]}:=get?_push_size _ rfl;have i:=get?_update_self (λo=>{o with dict:=some s.heap.objs.size}) g rfl;have f:=(get?_update_other (s.heap.push {cls:= .type "dict",data:= .dict #[]}) (λo=>{o with dict:=some s.heap.objs.size}) m).trans l;have j:∀b o,b≠x->s.heap.get? b=some o->((s.heap.push {cls:= .type "dict",data:= .dict #[]}).update x λo=>{o with dict:=some s.heap.objs.size}).get? b=some o:=λb o hb e=>(get?_update_other _ _ (Ne.symm hb)).trans (get?_push_of_some _ e);generalize (s.heap.push {cls:= .type "dict",data:= .dict #[]}).update x (λo=>{o with dict:=some s.heap.objs.size})=H at i f j|-;refine wpAny_bind (wpAny_pure (wpAny_bind ?_));unfold nsSet;refine wpAny_bind (wpAny_bind (wpAny_askSetting (wpAny_pure (wpAny_bind (wpAny_mkText (wpAny_bind (wpAny_loadPart f ?_)))))));dsimp only;rw [aRefKeyMayBeTheName_at];rw [if_neg (by simp)];have k:=putName_dict name (keyHash w.params name) (.str name (s.toks+1)) v [] 0;have c:=get?_update_self (putName name (keyHash w.params name) (.str name (s.toks+1)) v) f (by
  show (putName name (keyHash w.params name) (.str name (s.toks+1)) v (dictOf [] 0)).isFreed=false;rw [k];rfl)
 replace c:_=some (putName name (keyHash w.params name) (.str name (s.toks+1)) v (dictOf [] 0)):=c;rw [k] at c;refine wpAny_updatePart f ?_;have nd:∀b o,b≠x->s.heap.get? b=some o->b≠s.heap.objs.size:=λb o a e z=>by rw [z,Ka] at e;exact Cb e
 refine wpAny_bind (wpAny_lookBehind c (by exact pastItsLine_dict (by rw [size_toArray];show 1<=_;decide)) (wpAny_pure ?_));exact h _ _ _ (s.toks+1) (λb o hb e=>(get?_update_other _ _ (Ne.symm (nd b o hb e))).trans (j b o hb e)) ((get?_update_other _ _ m.symm).trans i) c
end
section
variable {nm q:Str} {C N:Addr} {bs bm bmB:List Value} {hdct:Bool} {sn:List Str} {sub:List Value} {ab:Bool} {col:Option Bool} {dd:Option Addr} {k0 k1 k2 k3 k5:Option Value} {B newId initId:String}
def JM{E:Value->Shared->Prop}{os:OsState}(F:ExcBaseFacts B newId initId bmB)(e:bm.contains (.type B)=true)(b:h.get? C=some (excClassObj nm q C N bs bm hdct sn sub ab col dd k0 k1 k2 k3 k5 newId))(f:Q () ⟨h,g,d,t,os⟩):wpAny M A (checkBuiltinCall newId ⟨.ref C::rest,[]⟩) Q E ⟨h,g,d,t,os⟩:=by
 have a:(ref C::bm).contains (.type B)=true:=by rw [contains_cons,e,Bool.or_true]
 have c:=F.noStar;simp only [checkBuiltinCall,F.newKind,F.newSplit,F.newRow];repeat (first|refine wpAny_loadPart_at b ?_|(refine wpAny_isSubtype_exc b ?_;rw [a])|refine wpAny_staticBase_exc b ?_|refine wpAny_madeBy_exc b ?_|simp only [bne_self_eq_false,false_eq_true,if_false]|wp_step)
 exact f
variable {prog:Program} {w:World} {A:Around} {h:Heap} {g:Array GenState} {d:Drawn} {t:Nat} {os:OsState}
def SO(F:ExcBaseFacts B newId initId bmB)(j:bm.contains (.type B)=true)(hA:bm.contains (.type "AttributeError")=false)(k:bm.contains (.type "NameError")=false)(a:h.get? C=some (excClassObj nm q C N bs bm hdct sn sub ab col dd k0 k1 k2 k3 k5 newId))(l:R (.ok (.ret (.ref (h.objs.size+1)))) ⟨(h.push {cls:= .type "tuple",data:= .seq rest.toArray}).push {cls:= .ref C,data:= .fields #[.ref h.objs.size,.none,.none,.none,.bool false,.none]},g,d,t,os⟩) (i:rest.length<=sizeLine):
  codeAny (model prog w) A (.builtin newId ⟨.ref C::rest,[]⟩) R ⟨h,g,d,t,os⟩:=by
 have f:=F.ends;have c:(ref C::bm).contains (.type B)=true:=by rw [contains_cons,j,Bool.or_true]
 have b:(ref C::bm).contains (.type "AttributeError")=false:=by rw [contains_cons,hA];rfl
 have e:(ref C::bm).contains (.type "NameError")=false:=by rw [contains_cons,k];rfl
 refine codeAny_builtinAt F.entry ?_;unfold Builtin.«BaseException.__new__»;refine PySem.wpAt_bind ?_;show PySem.wpAt _ _ _ (stack>>=_) _ _ _;refine PySem.wpAt_bind (PySem.wpAt_stack λp below=>PySem.wpAt_of_wpAny ?_)
 wp_walk
 refine PySem.wpAt_of_wpAny ?_;rw [F.owner];repeat (first|with_reducible refine wpAny_madeHere_exc F.canon a ?_|with_reducible refine wpAny_loadPart_at a ?_|(with_reducible refine wpAny_isSubtype_exc a ?_;first|rw [c]|rw [b]|rw [e])|wp_step)
 show R _ _;rw [size_push];exact l
def QL{E:Value->Shared->Prop}{c0:Value}(F:ExcBaseFacts B newId initId bmB)(G:(ref s::bm).contains (.type B)=true)(hA:(ref s::bm).contains (.type "AttributeError")=false)(H:(ref s::bm).contains (.type "NameError")=false)(k:h.get? C=some (excClassObj nm q C N bs (.ref s::bm) hdct sn sub ab col dd k0 k1 k2 k3 k5 newId)) (P:h.Ns N mN) (D:mN "__init__"=none)(M:h.get? s=some {cls:=c0,dict:=du,data:= .cls cd,slots:=slu}) (z:h.Ns cd.ns mU) (O:mU "__init__"=some (.ref fI)) (v:h.get? fI=some oI) (y:oI.cls= .type "function")(V:∀h' e,MadeExcOf h h' e (.ref C) rest->h'.objs.size=h.objs.size+2->e=h.objs.size+1->wpAny (model prog w) (A.under (.builtin "type.__call__" ⟨.ref C::rest,[]⟩)) (call (.ref fI) (.ref e::rest)) (λr s'=>r= .none/\Q (.ref e) s') E ⟨h',g,d,t,os⟩) (n:rest.length<=sizeLine):
  wpAny (model prog w) A (call (.ref C) rest) Q E ⟨h,g,d,t,os⟩:=by
 have X:=tc_lookup;have f2:=tc_bind (.ref C);have hT:(⟨h,g,d,t,os⟩:Shared).TypeIs (.ref C) "type":=⟨_,k,rfl⟩;refine wpAny_call (codeAny_of_tree ?_);show wpAny _ _ (callAny (.ref C) _) _ _ _;repeat (any_goals (first|assumption|with_reducible refine wpAny_loadPart_at k ?_|wp_step))
 refine ⟨rfl,?_⟩;refine codeAny_call_builtin_at (Code.quiet_builtin _ (by decide+kernel)) entry_typeCall (wpAny_check_type_call_sub k ?_);repeat (first|with_reducible refine wpAny_loadPart_at k ?_|with_reducible refine wpAny_madeBy_exc k ?_|wp_step)
 refine codeAny_call_builtin_code (Code.quiet_builtin _ F.quiet) (JM F G k ?_);refine SO F G hA H k ?_ n;show wpAny _ _ _ _ _ _;have p:∀b o,h.get? b=some o->((h.push {cls:= .type "tuple",data:= .seq rest.toArray}).push {cls:= .ref C,data:= .fields #[.ref h.objs.size,.none,.none,.none,.bool false,.none]}).get? b=some o:=λb o e=>get?_push_of_some _ (get?_push_of_some _ e);have c:=p _ _ k;have l:=p _ _ M;have i:=p _ _ v;have m:=P.keeps p;have j:=z.keeps p;have f:((h.push {cls:= .type "tuple",data:= .seq rest.toArray}).push
   {cls:= .ref C,data:= .fields #[.ref h.objs.size,.none,.none,.none,.bool false,.none]}).get? (h.objs.size+1)=some
   {cls:= .ref C,data:= .fields #[.ref h.objs.size,.none,.none,.none,.bool false,.none]}:=by heap_get
 have u:(ref C::ref s::bm).contains (.ref C)=true:=by simp
 unfold isInstance;repeat (first|with_reducible refine wpAny_loadPart_at f ?_|(with_reducible refine wpAny_isSubtype_exc c ?_;rw [u])|wp_step)
 refine wpAny_isSubtype_exc c ?_;dsimp only;rw [u];repeat (first|with_reducible refine wpAny_loadPart_at f ?_|wp_step)
 show wpAny _ _ (typeLookup (.ref C) _) _ _ _;rw [typeLookup_eq];refine wpAny_bind (wpAny_mroOf_exc c ?_);rw [lookupAlong_cons];refine wpAny_bind (wpAny_classOwn_exc c m ?_);rw [D,lookupAlong_cons];refine wpAny_bind (wpAny_classOwn_cls l j ?_);rw [O];refine wpAny_pure ?_;refine wpAny_holding (wpAny_bind ?_);unfold bindSpecial;refine wpAny_bind (wpAny_typeOf (T:="function") ⟨_,i,y⟩ ?_);rw [if_pos (by decide)];refine wpAny_pure (wpAny_bind (wpAny_mono (V _ (h.objs.size+1) ⟨p,get?_none_of_le (le_succ _),h.objs.size,f,get?_none_of_le (Nat.le_refl _),?_⟩ (by rw [size_push,size_push]) rfl) (λr s' W=> ?_) λa a x=>x));·exact get?_push_of_some _ (get?_push_at rfl rfl)
 ·obtain ⟨rfl,L⟩:=W
  wp_walk
  exact L
end
inductive GL(X:Ctx):Prop
 |mk:∀nm q N bs sn sub ab col dd k0 k1 k2 k3 k5 mN UE c0 du cd slu mU fI oI names gl fs cs ats p1 p2 p3 p4,X.g0.get? X.BE=some (excClassObj nm q X.BE N bs [.ref UE,.type "Exception",.type "BaseException",.type "object"] true sn sub ab col dd k0 k1 k2 k3 k5 "Exception.__new__")->X.g0.Ns N mN->mN "__init__"=none->X.g0.get? UE=some {cls:=c0,dict:=du,data:= .cls cd,slots:=slu}->X.g0.Ns cd.ns mU->mU "__init__"=some (.ref fI)->X.g0.get? fI=some oI->oI.cls= .type "function"->xr X ⟨["self","told"],names,gl,fs,cs,ats⟩ ⟨2,2,[.none],.skip⟩ fI [.Assign [.Attribute (.Name "self" p1) "told" p2] (.Name "told" p3) p4]->names.lookup ("self":Str)=some .local->names.lookup ("told":Str)=some .local->(∀x∈names,x.2≠ .cell)->GL X
structure Xu(X:Ctx)(BE:Str):Prop where
 name:X.mg BE=some (.ref X.BE)
 cls:GL X
 clsK:∃cd UE,clsIn X.K X.BE=some cd/\cd.hasDict=true/\cd.mro= [.ref X.BE,.ref UE,.type "Exception",.type "BaseException",.type "object"]
 tak:takerIn X.K X.BE "told"=some none
 set:findIn X.K (.ref X.BE) "__setattr__"=some (some (.builtin "object.__setattr__"))
 ga:findIn X.K (.ref X.BE) "__getattribute__"=some (some (.builtin "BaseException.__getattribute__"))
 gx:findIn X.K (.ref X.BE) "__getattr__"=some none
 fnd:findIn X.K (.ref X.BE) "told"=some none
section
variable {M:Model} {A:Around} {E:Value->Shared->Prop} {env:Env}
variable {nm q:Str} {C N:Addr} {bs bm:List Value} {hdct:Bool} {sn:List Str} {sub:List Value} {ab:Bool} {col:Option Bool} {dd:Option Addr} {k0 k1 k2 k3 k5:Option Value} {newId:String}
def QK(c:bm.contains (.type "BaseException")=true)(m:A.handled=none)(h:wpAny M A x (λv b=>∃e t d,v= .ref e/\b.heap.get? C=some (excClassObj nm q C N bs bm hdct sn sub ab col dd k0 k1 k2 k3 k5 newId)/\b.heap.get? e=some {cls:= .ref C,dict:=some d,data:= .fields #[.ref t,.none,.none,.none,.bool false,.none]}/\E (.ref e) b) E s):
  wpAny M A (raiseStmt env (some x) none) Q E s:=by
 have i:(ref C::bm).contains (.type "BaseException")=true:=by rw [contains_cons,c,Bool.or_true]
 unfold raiseStmt;refine wpAny_bind (wpAny_mono h (λv b f=>f.elim λe z=>z.elim λt z=>z.elim λd z=> ?_) λa a x=>x);rw [z.1];have j:=z.2.1;have l:=z.2.2.1;have k:=z.2.2.2;induction b with|mk n g d tk os=>
 repeat (first|with_reducible refine wpAny_loadPart_at l ?_|with_reducible refine wpAny_loadPart_at j ?_|(with_reducible refine wpAny_isSubtype_exc j ?_;rw [i])|wp_step)
 exact wpAny_raiseNew_none m k
end
section
variable {X:Ctx} {O:wb} {T:Tab} {k n:Nat} {BE:Str}
noncomputable abbrev newExc(X:Ctx)(d a:Addr):Obj:={cls:= .ref X.BE,dict:=some d,data:= .fields #[.ref a,.none,.none,.none,.bool false,.none]}
def RT{st:ia}{E:Value->Shared->Prop}(B:ib X)(D:Xu X BE)(hA:qr A l (k+1))(I:Ea X l w st)(r:wa w.G t v)(h:∀h' tk e tp d,Step w (w.at h' tk)->Ea X l (w.at h' tk) st->Exc X w.h (w.at h' tk) l none t e->h'.get? e=some (newExc X d tp)->Q (.ref e) (w.at h' tk).s):wpAny X.M A (call (.ref X.BE) [v]) Q E w.s:=D.cls.rec λnm q N bs sn sub ab col dd k0 k1 k2 k3 k5 mN UE c0 du cd slu mU fI oI names gl fs cs ats p1 p2 p3 p4 e1 e2 e3 e4 e5 e6 e7 e8 F n1 n2 n3=>D.clsK.elim λcdK z=>z.elim λUE' c=>F.fd.rec λo fd as kd df f1 f2 f3 f4 f5 f6 f7 f8 f9 f10 f11 f12 f13 f14=>by
 have f:=I.keep0;refine QL (h:=w.h) (g:=w.s.gens) (d:=w.s.drawn) (t:=w.s.toks) (os:=w.s.os) excBase_Exception (by simp) (by simp) (by simp) (f _ _ e1) (e2.keeps f) e3 (f _ _ e4) (e5.keeps f) e6 (f _ _ e7) e8 (λi e hm hsz he=> ?_) (by exact (by decide:1<=sizeLine));have m:=hm.keeps;refine hm.there.elim λtp ht=> ?_;have V:∀b o,X.g0.get? b=some o->i.get? b=some o:=λb o z=>m _ _ (f _ _ z);have M:∃d0:Value,((fd.defaults= .none/\ [d0]= [])\/∃T o items n,fd.defaults= .ref T/\(w.at i w.s.toks).s.heap.get? T=some o/\o.data= .seq items n/\items.toList= [d0]):=f14.elim (λz=>nomatch z.2) λz=>z.elim λDd z=>z.elim λod z=>z.elim λitems z=>z.elim λn z=>by have hl:=z.2.2.2.length;induction hi:items.toList with|nil=>rw [hi] at hl;injection hl|cons d0 ds=>induction ds with|nil=>exact ⟨d0,.inr ⟨Dd,od,items,n,z.1,V _ _ z.2.1,z.2.2.1,hi⟩⟩|cons x a=>rw [hi] at hl;cases hl
 refine M.elim λd0 M=> ?_;have hb:BindsTo (w.at i w.s.toks).s fd ⟨[.ref e,v],[]⟩ [("self",.ref e),("told",v)]:=Vv (fd:=fd) (ns:= ["self","told"]) (vs:= [.ref e,v]) (ds:= [d0]) f12 f13 F.nd (Nat.le_refl 2) (le_succ 2) (le_succ 1) M;refine wpAny_call (codeAny_call_def (s:=(w.at i w.s.toks).s) (show A.depth+1<recursionLimit from Nat.lt_of_lt_of_le (by lia) hA.depth) (V _ _ f1) f2 ((B.nolimit.keeps f).keeps m) (f11.keeps V) f3 hb (by rw [f4];exact n3) (λy hy=>f4▸(mem_cons.mp hy).elim (λz=>z▸n1) λhy=>mem_singleton.mp hy▸n2) (λH hns C=> ?_) f6 f7 f5);have G:∀y kk,names.lookup y=some kk->(callEnv fd i.objs.size fI).kindOf y=some kk:=λy kk z=>(congrArg (·.lookup y) f4).trans z;refine wpAny_execs_cons (plainObj_wpAny_Assign_Attribute (wpAny_Name (wpAny_loadName_local f5 (G _ _ n2) hns (v:=v) (by rfl) (wpAny_Name (wpAny_loadName_local f5 (G _ _ n1) hns (v:= .ref e) (by rfl) ?_) (by decide))) (by decide)));have p:∀b o,w.h.get? b=some o->H.get? b=some o:=λb o z=>C _ _ (m _ _ z);refine qT (B.kin.keeps λb o z=>p _ _ (f _ _ z)) (C _ _ ht.1) c.1 c.2.1 c.2.2 D.tak D.set λL tk₃ nn tok W u P=>wpAny_execs_nil ⟨rfl,?_⟩;have fe:w.h.get? e=none:=hm.new;have kp:yd w.h.get? L.get? :=λb o z=>W b o (qp z fe) (p _ _ z);have j:w.h.get? H.objs.size=none:=Ue λo q=>Zd (p _ _ q) (Ka _);exact h L tk₃ e tp _ (.kept kp) (I.kept kp) (.mk _ _ _ _ u (.mk nn tok v P r fe (I.off fe) (I.off j) (I.apart j) j) rfl .no) u
def gZ(B:ib X)(D:Xu X BE)(A:∀e,Oe X O T k e)(e:E):Rd X O T k n BE (.rai e):=λx F w sl V st Q E L j m C=>AW L (P:=λx=>wpAny X.M F.A (exec x F.env) Q E w.s) λnp y cp pp c2 c3 c4 c5=>D.cls.rec λo q N bs sn sub ab col dd k0 k1 k2 k3 k5 mN H c0 du cd W mU fI oI names gl fs cs ats p1 p2 p3 p4 t e2 e3 e4 e5 e6 e7 e8 b n1 n2 n3=>by
 have u:=Fx (l:= []) c5 λb h=>nomatch h;rw [arm_exec_Raise];refine wpAny_bind (wpAny_standAt (QK (C:=X.BE) (nm:=o) (q:=q) (N:=N) (bs:=bs) (bm:= [.ref H,.type "Exception",.type "BaseException",.type "object"]) (hdct:=true) (sn:=sn) (sub:=sub) (ab:=ab) (col:=col) (dd:=dd) (k0:=k0) (k1:=k1) (k2:=k2) (k3:=k3) (k5:=k5) (newId:="Exception.__new__") (by simp) j.a.handled
  (wpAny_bind (wpAny_mono (wpAny_Call_ofName (Qf B j.e m.g c2 c3 D.name ?_)) (λv z g=>wpAny_bind (wpAny_standAt (wpAny_pure g))) λb b x=>x))))
 unfold callWith;refine wpAny_bind (wpAny_holding (Se u (wpAny_items_cons (((A e).e y F w sl V st c4 j.toFOK m).stmV m.l C λf p w₁ v s a i c=>wpAny_items_nil (wpAny_bind (wpAny_standAt ?_))) (vg c5))));rw [zq u];exact wpAny_bind (wpAny_keeperOf_exc (h:=w₁.h) (a.g.keep0 _ _ t) (wpAny_bind (RT B D j.a a.g i λh' tk ex tp d G r xx M=>wpAny_bind (wpAny_holding (wpAny_point (wpAny_pure
  ⟨ex,tp,d,rfl,r.keep0 _ _ t,M,c (w₁.at h' tk) ex none (.of_step G) r xx (.inl rfl)⟩))))))
end
section
variable {prog:Program} {w:World} {A:Around} {s:Shared} {K:Frag} {C x:Addr}
def pT{E:Value->Shared->Prop}(X:K.In s.heap)(I:InstAt s.heap x ox C od)(o:clsIn K C=some cd)(r:cd.mro= [.ref C,.ref UE,.type "Exception",.type "BaseException",.type "object"]) (e:findIn K (.ref C) "__getattribute__"=some (some (.builtin "BaseException.__getattribute__"))) (f:findIn K (.ref C) "__getattr__"=some none)(p:findObj K C od name=some (.value v)) (q:handedIn v=true) (h:Q v {s with toks:=s.toks+1}):wpAny (model prog w) A (getAttr (.ref x) name b) Q E s:=by
 induction s with|mk u g d t os=>
 have c:=I.type (M:=model prog w);have l:=looks_findIn (M:=model prog w) X e;have m:=looks_findIn (M:=model prog w) X f;have n:=looks_find (M:=model prog w) X I p;unfold getAttr getAttrBy;refine wpAny_bind (wpAny_mkText (wpAny_holding (wpAny_bind (c.at (wpAny_bind (l.at ?_))))));show wpAny _ _ (if onTheHeap (ref C)&&builtin "BaseException.__getattribute__"== .builtin "object.__getattribute__" then getAttrEveryday _ _ _ else getAttrByItsOwn _ _ _ _ _ _) _ _ _;have i:(builtin "BaseException.__getattribute__"==builtin "object.__getattribute__")=false:=by decide+kernel
 rw [i,Bool.and_false,if_neg (by decide)];unfold getAttrByItsOwn;refine wpAny_bind (show wpAny _ _ (typeLookup (.ref C) "__getattr__") _ _ _ from m.at ?_);refine wpAny_bind (wpAny_attempt (wpAny_holding ?_));have j:(b&&onTheHeap (builtin "BaseException.__getattribute__"))=false:=by induction b<;>rfl
 unfold callGetattribute;rw [j,if_neg (by decide)];unfold boundAndCalled;rw [attr_Exception.ga.bind];refine wpAny_bind (wpAny_pure (wpAny_call ?_));have sub:Looks (model prog w) u (isInstance (.ref x) (.type "BaseException")) true:=c.andThen (looks_mroIn X (by unfold mroIn;rw [o,bind_some,r];simp));refine codeAny_call_builtin attr_Exception.ga.plain entry_bexc_ga (@check_slot (model prog w) _ _ _ "BaseException.__getattribute__" "BaseException" "__getattribute__" (.ref x) [.str name t] [] _ (by decide+kernel) (by decide+kernel) sub (args_bexc_ga _ _) ?_);show wpAny _ _ (do let k<-typeOf (.ref x);match<-find (.ref x) k name with| .value v=>ret v| .bind g a=>bindTo g a (.ref x) k| .missing=>_) _ _ _;refine wpAny_bind (c.at (wpAny_bind (n.at ?_)));refine wpAny_pure ?_;show wpAny _ _ (handedOut v) _ _ _;rw [handedOut_of q];exact wpAny_pure h
end
def Later.ns(x:Later hb h h')(a:(hb.get? L).isSome)(n:h.Ns L m):h'.Ns L m:=n.elim λo z=>z.elim λes z=>z.elim λb z=>(x.kp L o a z.1).some.elim λc e=>⟨_,es,b,e,z.2⟩
def Ns.dict(n:h.Ns L m):IsDict h L:=n.imp λo z=>z.imp λes z=>z.imp λa z=>⟨z.1,z.2.1⟩
def IsDict.al(d:IsDict h L):(h.get? L).isSome:=d.elim λx z=>z.elim λx z=>z.elim λx z=>eg z.1
section
variable {X:Ctx} {O:wb} {T:Tab} {k n:Nat} {BE:Str} {F:Fr} {w w₁:Wd} {P:Addr->Prop} {sl:List Slot} {ow:Nat->Addr} {st:ia}
def zb.wrote(S:zb env P w w₁)(kp:∀b,b≠env.locals->h'.get? b=w₁.h.get? b)(a:(h'.get? env.locals).isSome):zb env P w (w₁.at h' tk):=⟨S.grow,S.fresh,λb o hb e=>(S.kp b o hb e).trans λd c=> .inl ((kp b hb.2.1).trans c),λb hb=>(Classical.em (b=env.locals)).elim (λz=>z▸a) λz=>(kp b z).symm▸S.alive b hb,S.more,S.rest⟩
def Ea.wrote(I:Ea X l w st)(oL:Off w L)(kp:∀b,b≠L->h'.get? b=w.h.get? b)(d:IsDict h' L):Ea X l (w.at h' tk) st:=I.but (ch:=(·=L)) (λb z=>z▸oL) (λb o n e=> .inl ((kp b n).trans e)) λL z x=>z▸d
def ub.tryr{m:Res AV}{E f:Value->Shared->Prop}(D:ub X Sa F w m t)(C:Ja X F T w P (match (generalizing:=false) m with|some (.ok x,st)=>some (.ret x,sl,st)|some (.error (.tup [t,a]),st)=>some (.ret (.v (.tup [.lst [],t])),sl,st)| _=>none) Q E)(ok:∀y w' v,zb F.env P w w'->Sa w' y v->Q (.ret v) w'.s->Q₀ v w'.s) (h:∀c d st' w' e,Step w w'->Ea X F.l w' st'->Exc X w.h w' F.l none (.tup [c,d]) e->(∀w' v,zb F.env P w w'->Ea X F.l w' st'->wa w'.G (.tup [.lst [],c]) v->Q (.ret v) w'.s)->f (.ref e) w'.s):wpAny X.M F.A t Q₀ f w.s:=by
 refine D _ _ ?_;induction m with
 |none=>exact C|some p=>
  induction p with|mk r st'=>induction r with
  |ok y=>exactλw' v S I r=>ok y w' v (.of_step S) r (C w' v (.of_step S) I r)|error t=>cases t with
   |tup g=>induction g with|nil=>exact C.elim|cons c g=>induction g with|nil=>exact C.elim|cons d g=>induction g with|nil=>exactλw' e S I x=>h c d st' w' e S I x C|cons a b=>exact C.elim
   | _=>exact C.elim
def kU(B:ib X)(D:Xu X BE)(HE:∀e,Oe X O T k e)(i:Nat)(e:E):Rd X O T k n BE (.tryr i e):=λx F w sl ow st Q E hc hF Jv C=>FT hc (P:=λx=>wpAny X.M F.A (exec x F.env) Q E w.s) λv vp xp nm lp np' ap zk zp sp tk1 tp rp hp' tp' c1 c3 c4 c5 c7=>Vr c5 λhxs hkl=>wpAny_Try_except (wpAny_execs_cons (wpAny_Return_some (((HE e).e v F w sl ow st c1 hF.toFOK Jv).tryr C (λy w' v a a q=>q) λt₀ t₁ st₁ w₁ ex r I₁ x₁ C=>hF.cons.elim λouter hl=>by have kx:F.env.kindOf nm=some .local:=hF.e.of hkl;have oL:=(Jv.l.step r).oL;refine Jv.l.nm.rec λm₀ hns₀ a=>(Jv.l.step r).nm.rec λm₁ hns₁ a=>pA hl hF.a.frames hF.fr I₁ x₁ (.inl rfl) r.dead λM p W a=>Vk (w:=w₁.at M p) (fr:=none) W.glo W.exc λh₃ tk₃ h a=> ?_;refine D.cls.rec λnm' q' N bs sn sub ab col dd k0 k1 k2 k3 k5 mN UE c0 du cd slu mU fI oI names gl fs cs ats p1 p2 p3 p4 e1 e2 e3 e4 e5 e6 e7 e8 a n1 n2 n3=>D.clsK.elim λcdK z=>z.elim λUE' d=> ?_;refine wpAny_handleBy_cons (codeAny_handlers_test (Qf (F:=⟨F.A.mark (some (.ref ex)),F.l,F.env⟩) (w:=(w₁.at M p).at h₃ tk₃) B hF.e h.glo c3 c4 D.name ?_)) (by intro z;injection z);refine h.exc.rec λsx₃ d₃ vs₃ u₃ he₃ a a a=>wpAny_excMatches_sub_self (h.glo.keep0 _ _ e1) he₃ rfl (by simp) (codeAny_handlers_suite_as (Vk (w:=(w₁.at M p).at h₃ tk₃) (fr:=none) h.glo h.exc λV c q₄ a=> ?_));have a14:=(W.lat.trans h.lat).trans q₄.lat;have alL:=IsDict.al (Ns.dict hns₀);have t:=a14.ns alL hns₁;refine wpAny_storeName_local (s:=(w₁.at V c).s) kx t (λf g j=> ?_) hF.e.pk;have I₅:Ea X F.l (w₁.at f (c+1)) st₁:=Ea.wrote (w:=w₁.at V c) q₄.glo oL j.2 (Ns.dict g);have F₅:zb F.env (Own sl ow) w (w₁.at f (c+1)):=zb.wrote (w₁:=w₁.at V c) (.of_step (r.later a14)) j.2 (IsDict.al (Ns.dict g));refine q₄.exc.rec λsx H vs u he De a a=>De.rec λnn tok v' hd ru a a a ap a=> ?_;have he₅:f.get? ex=_:=(j.2 ex ((Ns.dict t).elim λa z=>z.elim λa z=>z.elim λa z=>Pr he rfl z.1 λa d=>nomatch z.2.symm.trans d)).trans he;have hd₅:f.get? H=_:=(j.2 H λz=>ap F.env (hl▸ .head _) (z▸hF.fr)).trans hd;refine wpAny_execs_cons (wpAny_Return_some (wpAny_Tuple (wpAny_items_cons (wpAny_List (wpAny_items_nil ⟨zero_le _,?_⟩)) rfl)));have S₆:=Step.push (w:=w₁.at f (c+1)) (o:={cls:= .type "list",data:= .seq ([]:List Value).toArray}) (tk:=c+1+1+1) I₅;have I₆:=I₅.push (o:={cls:= .type "list",data:= .seq ([]:List Value).toArray}) (tk:=c+1+1+1) rfl;have rl:wa (Pj w₁.G f.objs.size {cls:= .type "list",data:= .seq ([]:List Value).toArray}) (.lst []) (.ref f.objs.size):=wa.lst (Bc _ _ _) rfl rfl .nil;refine wpAny_items_cons (Subscript_ (Dq rfl (wpAny_Name (wpAny_loadName_local hF.e.kind kx (g.at' λo z=>Ob _ o z) (if_pos rfl:(if nm=nm then some (ref ex) else m₁ nm)=some (.ref ex)) ?_) c7))) rfl;have IA:InstAt (f.push {cls:= .type "list",data:= .seq ([]:List Value).toArray}) ex ⟨.ref X.BE,some H,.fields vs,sx⟩ X.BE (some (gv #[⟨keyHash X.w.params "told",.str "told" tok,v'⟩] nn)):=⟨Ob _ _ he₅,rfl,rfl,Ob _ _ hd₅⟩;refine pT (s:=((w₁.at f (c+1)).push {cls:= .type "list",data:= .seq ([]:List Value).toArray} (c+1)).s) (B.kin.keeps λb o z=>I₆.keep0 b o z) IA d.1 d.2.2 D.ga D.gx (findObj_own (by unfold hasDictIn;rw [d.1];exact d.2.1) D.fnd rfl (by rfl)) (Wv (w:=w₁) (av:= .v (.tup [t₀,t₁])) ru) (wpAny_Constant_int ?_);refine rI (F:=⟨F.A.mark (some (.ref ex)),F.l,F.env⟩) (w:=(w₁.at f (c+1)).push {cls:= .type "list",data:= .seq ([]:List Value).toArray} (c+1+1+1)) (x:= .tup [t₀,t₁]) I₆ (ru.mono S₆.grow) rfl (rb (m:=some (.ok (AV.v t₀),st₁)) rfl λl y S₇ G ry=>wpAny_items_nil ⟨by exact (by decide:2<=sizeLine),?_⟩);have S₈:=Step.push (w:=l) (o:={cls:= .type "tuple",data:= .seq [.ref f.objs.size,y].toArray}) (tk:=l.s.toks) G;have I₈:=G.push (o:={cls:= .type "tuple",data:= .seq [.ref f.objs.size,y].toArray}) (tk:=l.s.toks) rfl;have S68:=(S₆.trans S₇).trans S₈;refine g.elim λo₅ z=>z.elim λes z=>z.elim λep z=>(S68.keep oL.2 z.1).elim λsx' e₈=> ?_;have oL₈:=S68.off z.1 oL;exact wpAny_nameGoes_keeps (s:=(l.push {cls:= .type "tuple",data:= .seq [.ref f.objs.size,y].toArray} l.s.toks).s) kx ⟨_,es,ep,e₈,z.2⟩ hF.e.pk λh₉ v₉ A L=>C _ _ (zb.wrote (SStep.thenF ⟨F₅,λa=> .inl⟩ (.of_step S68)) L.2 (IsDict.al (Ns.dict A))) (Ea.wrote I₈ oL₈ L.2 (Ns.dict A)) (wa.tup (Bc _ _ _) rfl rfl (Uj G (.cons (rl.mono S₇.grow) (.cons ry .nil)))))))
end
section
variable {X:Ctx} {O:wb} {T:Tab} {k n:Nat} {BE:Str}
def dU(HE:∀e,Oe X O T k e)(HC:∀(e:E) (sc:Scope) (nm:Str) (a:List Nat),Ha X O (T.comp sc nm a) k e)(i:Nat)(s it:E)(a:List Nat):Rd X O T k n BE (.asg i (.comp s it a)):=λx F w sl ow st Q E hc L B C=>tM hc (P:=λx=>wpAny X.M F.A (exec x F.env) Q E w.s) λnm np v pp c1 c2 c3=>Xz c2 (P:=λv=>(Ve v||ZD T v nm np)=true->wpAny X.M F.A (exec (.Assign [.Name nm np] v pp) F.env) Q E w.s) (λy vn vp z sc pos d1 d2 d3 d4 d5 c3=>a2 (show (Kb T.names nm .local&&np.line==pos.line&& !(sc.names.any λ(n,k)=>n==nm&&(k== .local||k== .cell)))=true from c3) λh f3=>a2 h λf1 f2=>Ae L.e c1 λhx1 hx2=>by
  have kx:=L.e.of (Vb f1);have hsw:swapsWith (.ListComp y [⟨.Name vn vp,z,[],0⟩] sc pos) (some (.Name nm np)) pp.line F.env=pure true:=by show (pure (F.env.blockKind== .function&&F.env.kindOf nm==some .local&&np.line==pos.line&& !(sc.names.any λ(n,k)=>n==nm&&(k== .local||k== .cell))):Sem Bool)=pure true;rw [Hq L.e.kind,kx,f2,f3];rfl
  rw [exec_Assign_Name_used _ _ _ _ hsw];refine wpAny_bind (wpAny_standAt (wpAny_bind (wpAny_bind (aE s it a (HE it).i (λsc nm=>HC s sc nm a) d1 d2 d3 d4 d5 L.toFOK B (Ja.toZ C) λrl st' j D u C H A hD oD fD hDC hn oC fC=>Ja.put (i:=i) C λhi C=>hn.elim λmm hn=>hD.rec λacc na hg racc=> ?_))));have p:=H.freeze (o:=td acc na) fD oD.1;have G:J X F T (j.frz D (td acc na)) sl ow st':=B.step p (A.freeze oD (B.g.apart fD) hg);refine PySem.wpAny_assign_Name (Me (w:=j.frz D (td acc na)) L.e G hx1 hx2 (.a (.v (.lst rl)) _ (wa.lst (Bc _ _ _) rfl rfl (racc.mono (lg oD.1)))) λw₅ g l c=>hn.elim λoC' z=>z.elim λesC z=>z.elim λepC z=> ?_);have oC4:Off (j.frz D (td acc na)) u:=⟨(Cn (Ne.symm hDC)).trans oC.1,oC.2⟩;have nL:u≠F.env.locals:=B.l.nm.rec λm hm c=>hm.elim λo y=>y.elim λc y=>y.elim λc y=>(qp y.1 fC).symm;refine ((g λc=>False).kp u oC' ⟨oC4.2,nL,.inr (λv d=>nomatch z.2.1.symm.trans d),id⟩ z.1).some.elim λsx r=>⟨mm,⟨_,esC,epC,r,z.2⟩,λV t=>wpAny_pure (wpAny_pure ?_)⟩;have f:=Mi t;exact C (w₅.at V _) ow ⟨((SStep.of_step p).thenF (g _)).scratch (ch:=(·=u)) (λb e=>e▸fC) λb o W e=>f b o W e,λb hb=> .inl (Ag hb)⟩ ⟨l.g.scratch (ch:=(·=u)) (λb e=>e▸(g λc=>False).off z.1 oC4 id) (λb e=>e▸B.g.apart fC) λb o W e=>f b o W e,l.l.scratch (ch:=(·=u)) (λb o e hb M=>have e':=Option.some.inj (r.symm.trans (e▸hb));M.elim (λq=>nL (e▸q.1)) λq=>q.elim (λq=>q.elim λc d=>nomatch z.2.1.symm.trans ((congrArg Obj.data e').trans d)) λq=>q.elim λc q=>q.elim λc d=>nomatch z.2.1.symm.trans ((congrArg Obj.data e').trans d)) λb o W e=>f b o W e⟩) c3
inductive jn(h₀:Heap)(w:Wd)(l:List FV):Value->Prop
 |mk:∀a,ag w a l->Off w a->h₀.get? a=none->jn h₀ w l (.ref a)
structure Zu(X:Ctx)(O:wb)(T:Tab)(k:Nat):Prop where
 call:∀f x,T.fns[f]? =some x->fJ X x λa=>∀args st,vr X jn k (.ref a) args st (O.fresh f args st)
noncomputable abbrev Wd.dl(w:Wd)(a:Addr):Wd:=⟨w.sa++ [.dl a],w.G,w.s⟩
def Ea.deck{st:ia}(I:Ea X l w st)(d:ag w a m)(g:Off w a):Ea X l (w.dl a) (st++ [.dl m]):=by
 have ap:Apart l a:=d.rec λxs n e x=>I.apartO e λx x z=>nomatch z;have f:Td (w.sa++ [.dl a])=Td w.sa++ [a]:=Hg _ _;refine ⟨I.base,I.gin,Eb.append (Ri.up (w:=w) (w':=w.dl a) ⟨λx x e=>e,[.dl a],rfl⟩ (λx x=>rfl) I.store) (.cons (show ag (w.dl a) a m from d.rec λxs n e r=>⟨xs,n,e,r⟩) .nil),λb hb=> ?_,?_,I.frames,λe j L i=>⟨(I.frS e j L i).1,λz=> ?_⟩,I.frD⟩;·rw [f] at hb;exact (mem_append.mp hb).elim (I.muG b) λz=>(mem_singleton.mp z).symm▸(show w.G a=none/\(w.h.get? a).isSome from ⟨g.1,d.rec λxs n e x=>eg e⟩)
 ·rw [f];exact nodup_append.mpr ⟨I.nd,.cons (λx h=>nomatch h) .nil,λb hb c o z=>g.2 (mem_singleton.mp o▸z▸hb)⟩
 ·rw [f] at z;exact (mem_append.mp z).elim (I.frS e j L i).2 λz=>ap e j (mem_singleton.mp z▸i)
def Step.deck(S:Step w₀ w)(d:w₀.h.get? a=none):Step w₀ (w.dl a):=⟨S.grow,S.fresh,S.kp,S.alive,S.more.elim λm c=>⟨m++ [.dl a],(congrArg (·++ [.dl a]) c.1).trans (append_assoc _ _ _),λb hb=>by rw [Hg] at hb;exact (mem_append.mp hb).elim (c.2 b) λz=>mem_singleton.mp z▸d⟩,S.rest⟩
def xQ(B:ib X)(HF:Zu X O T k)(HE:∀e,Oe X O T k e)(i f:Nat)(es:E):Rd X O T k n BE (.share i f es):=λx F w sl ow st Q E hc D H C=>yO hc (P:=λx=>wpAny X.M F.A (exec x F.env) Q E w.s) λnm np g gp A cp pp c1 c2 c3=>uy c2 λh1 h2 h3=>(HF.call f g h1).rec λa o fd hm ho hd t=>wpAny_Assign_Name (Call_Name rfl (Qf B D.e H.g h2 h3 hm (callWith_function (o:=o) (fd:=fd) (Se (Ie es c3) (((HE es).es A _ F w sl ow st c3 D.toFOK H).stm H.l C λav j w₁ vs W h G C=>⟨⟨h.g.keep0 _ _ ho,hd⟩,ub.z (R:=jn w₁.h) (F:=F) (m:=O.fresh f av j) (λQ E c=>wpAny_call (t av j F w₁ vs Q E D.a.down h.g G c)) (Ja.toZ C) λl u s v z p r C=>Ja.put (i:=i) C λhi C=>jn.rec (motive:=λv y=>wpAny X.M F.A (storeName F.env nm v) (λy=>Q .next) E s.s) (λb d V fb=>have q:=z.deck fb
   Ae D.e c1 λL M=>Me (w:=s.dl b) D.e (h.step q (p.deck d V)) L M (.a (.o u.length) _ ⟨.dl b,by rw [<-p.store.length,getElem?_append_right (Nat.le_refl _),Nat.sub_self];rfl,rfl⟩) λw' f' J' y=>C w' ow ⟨(SStep.of_step q).thenF (f' _),λb hb=> .inl (Ag hb)⟩ J') r⟩))))) rfl
def VI(B:ib X)(D:Xu X BE)(p:pe X O T k)(HF:Zu X O T k):∀a:S,Rd X O T k n BE a/\Og X O T k n BE a:=by
 have g:∀e,Oe X O T k e:=λe=>nB B e p;have t:∀(e:E) (sc:Scope) (nm:Str) (j:List Nat),Ha X O (T.comp sc nm j) k e:=λe sc nm j=>(nB B e (p.comp sc nm j)).e;have l:∀{a:S},(∀x,Nd T BE a x=false)->Rd X O T k n BE a:=λh x y y y y y y y s=>Ec ((h x).symm.trans s);have d:∀{a:S},(∀x,Gd T BE a x=false)->Og X O T k n BE a:=λh x y y y y y y y s=>Ec ((h x).symm.trans s);intro a;induction a with
 |skip=>exact ⟨l λx=>rfl,oU⟩|seq a b r hb=>refine ⟨l λx=>rfl,?_⟩;induction a with|frz i=>exact vZ i b hb.2| _=>exact wZ _ b rfl r.1 hb.2
 |frz i=>exact ⟨l λx=>rfl,d λx=>rfl⟩|asg i e=>refine ⟨?_,d λx=>rfl⟩;induction e with|comp q it j=>exact dU g t i q it j| _=>exact ZY g i _ rfl
 |own i=>exact ⟨fZ i,d λx=>rfl⟩|ownl i e=>exact ⟨jU B g i e,d λx=>rfl⟩|share i f es=>exact ⟨xQ B HF g i f es,d λx=>rfl⟩|asgs o es=>exact ⟨eU g o es,d λx=>rfl⟩|unp o e=>exact ⟨jZ B p g o e,d λx=>rfl⟩|asgA m e=>exact ⟨cU B p g m e,d λx=>rfl⟩|aug i u e=>exact ⟨aZ g i u e,d λx=>rfl⟩|app i e=>exact ⟨XY g i e,d λx=>rfl⟩|ext i e=>exact ⟨dZ g i e,d λx=>rfl⟩|rvs i=>exact ⟨iZ i,d λx=>rfl⟩|oapp i e=>exact ⟨gU g i e,d λx=>rfl⟩|exp e=>exact ⟨cZ g e,d λx=>rfl⟩|ifs c a b r hb=>exact ⟨eZ g c a b r.2 hb.2,d λx=>rfl⟩|whl c b hb=>exact ⟨kZ g c b hb.2,d λx=>rfl⟩|fors o it b hb=>exact ⟨fU B g o it b hb.2,d λx=>rfl⟩|ret e=>exact ⟨hZ g e,d λx=>rfl⟩|brk=>exact ⟨bZ,d λx=>rfl⟩|rai e=>exact ⟨gZ B D g e,d λx=>rfl⟩|bad=>exact ⟨λx F w sl v st Q E y y y C=>C.elim,d λx=>rfl⟩|tryr i e=>exact ⟨kU B D g i e,d λx=>rfl⟩
end
section
variable {X:Ctx} {O:wb} {T:Tab} {k n:Nat} {BE:Str}
def Oa.inn{E i:Value->Shared->Prop}(c:Oa X R ⟨A,l,env₀⟩ w m Q E)(u:Uv T k ⟨A',env::l,env⟩)(kp:yd w.h.get? d.get?)(N:uD env w.h):
  Oa X R ⟨A',env::l,env⟩ (w.at d tk) m Q (λe s=>wpAny X.M A' (leaving env e) (λy s'=>E e s') i s):=by
 have f:∀{w'},Step (w.at d tk) w'->Step w w':=λS=>(zb.of_step S:zb env (λy=>False) (w.at d tk) _).out kp N λy h=>h;induction m with
 |none=>exact c|some p=>
  induction p with|mk r st=>induction r with
  |ok a=>exactλw' v S I r=>c w' v (f S) I.tail r|error t=>
   have dd:∀b,d.get? b=none->w.h.get? b=none:=λb e=>Ue λo q=>Zd (kp _ _ q) e
   exactλw' e S I x=>wF (hb:=w.h) u.a.frames u.fr I (x.older dd) (.inl rfl) (λb hb=>dd b (S.dead b hb)) λj g q=>c (w'.at j g) e ((f S).later q.lat) q.glo q.exc
def vO{st:ia}(B:ib X)(F:xr X T vf f body)(D:Gd T BE vf.body body=true)(z:∀e,Oe X O T k e):vr X jn (k+2) (.ref f) args st (ny O vf args st Zx):=λ⟨A,l,t⟩ w vs Q E hA I H C=>by
 unfold ny at C;refine Oa.ite C λG C=>pE B F hA I H G λenv b tk y m kp N=> ?_;refine Zc D (P:=λbody=>wpAny X.M (A.deeper env) (execs body env) _ _ (w.at b tk).s) λx r h=>a2 h λh a=>uM h (P:=λx=>wpAny X.M (A.deeper env) (execs (x::r) env) _ _ (w.at b tk).s) λv p h=>qy h (P:=λv=>wpAny X.M (A.deeper env) (execs (.Return (some v) p::r) env) _ _ (w.at b tk).s) λx M V p3 W p5 c1=> ?_;exact wpAny_execs_cons (wpAny_Return_some (CS (z Zx).e c1 y.toFOK m (R:=jn w.h) (f:=λvs st=>ok vs.reverse st) (rb (congrArg (onV (pa O Zx _ st)) (funext λx=>funext λst=>by cases x<;>rfl)) (C.inn y kp N)) λvs u w₁ d xs s c i g L=>have j:=Ka d.h
  c (d.at _ d.s.toks) _ (i.trans (.kept Ob)) (g.kept Ob) (.mk _ ⟨xs,0,get?_push_size _ rfl,L⟩ (g.off j) (Ue λo q=>Zd (kp _ _ q) (s.dead _ (i.dead _ j))))))
inductive DR(X:Ctx)(T:Tab)(BE:Str)(f:Nat)(x:Str):Prop
 |mk:∀a o fd fn T' body,Bi[f]? =some fn->X.mg x=some (.ref a)->X.g0.get? a=some o->o.data= .func fd->T'.glob=T.glob->T'.fns=T.fns->T'.cls=T.cls->T'.ats=T.ats->xr X T' fn a body->Gd T' BE fn.body body=true->DR X T BE f x
inductive FR(X:Ctx)(T:Tab)(BE:Str)(c m:Nat)(fn:Fn):Prop
 |mk:∀T' body,T'.glob=T.glob->T'.fns=T.fns->T'.cls=T.cls->T'.ats=T.ats->xr X T' fn (X.N.metA c m) body->Gd T' BE fn.body body=true->FR X T BE c m fn
structure KL(X:Ctx)(T:Tab)(BE:Str):Prop where
 glob:∀(g:Nat) f x,JE[g]? =some f->T.glob[g]? =some x->LD X x f
 fns:∀(f:Nat) x,T.fns[f]? =some x->DR X T BE f x
 mets:∀c m fn,Nb c m=true->Dn c m=some fn->FR X T BE c m fn
 cls:∀(c:Nat) x,T.cls[c]? =some x->X.mg x=some (.ref (X.N.clsA c))
 ats:∀(m:Nat) x,T.ats[m]? =some x->x=X.N.atN m
def pe.to(h:pe X O T k)(a:T'.glob=T.glob)(b:T'.fns=T.fns)(d:T'.cls=T.cls)(i:T'.ats=T.ats):pe X O T' k:=⟨λg f x e z=>h.glob g f x e (a▸z),λf x z=>h.call f x (b▸z),λc x z=>h.cls c x (d▸z),λm x z=>h.ats m x (i▸z),h.meth⟩
def Zu.to(h:Zu X O T k)(a:T'.fns=T.fns):Zu X O T' k:=⟨λf x z=>h.call f x (a▸z)⟩
def WX(B:ib X)(D:Xu X BE)(P:KL X T BE)(n:Nat):pe X (ja n) T (2*n)/\Zu X (ja n) T (2*n):=by
 induction n with
 |zero=>exact ⟨⟨P.glob,λf x e=>(P.fns f x e).rec λa o fd fn p body i d g h y y y y y y=>⟨a,o,fd,d,g,h,λb st F w vs Q E y y y c=>(rb (NV f b st) c).elim⟩,P.cls,P.ats,λc m b st y F w vs Q E y y y r=>(rb (UW c m b st) r).elim⟩,⟨λf x e=>(P.fns f x e).rec λa o fd fn p body i d g h y y y y y y=>⟨a,o,fd,d,g,h,λb st F w vs Q E y y y c=>(rb (tT f b st) c).elim⟩⟩⟩|succ n l=>
  refine ⟨⟨P.glob,λf x e=>(P.fns f x e).rec λa o fd fn p body i d g h t1 t2 t3 t4 F j=>⟨a,o,fd,d,g,h,λb st=> ?_⟩,P.cls,P.ats,λc m b st s=> ?_⟩,⟨λf x e=>(P.fns f x e).rec λa o fd fn p body i d g h t1 t2 t3 t4 F j=>⟨a,o,fd,d,g,h,λb st=> ?_⟩⟩⟩;·rw [Zh];induction q:Dn c m with|none=>exactλF w vs Q E y y y c=>c.elim|some fn=>exact (P.mets c m fn s q).rec λp body t1 t2 t3 t4 F j=>ZH B F j (VI B D (l.1.to t1 t2 t3 t4) (l.2.to t2) fn.body).2
  ·rw [Uh,i];exact ZH B F j (VI B D (l.1.to t1 t2 t3 t4) (l.2.to t2) fn.body).2
  ·rw [IE];unfold oy;induction q:beq f 50 with|false=>exactλF w vs Q E y y y c=>c.elim|true=>cases eq_of_beq_eq_true q;cases Option.some.inj (i.symm.trans (rfl:Bi[50]? =some vf));exact vO B F j λe=>nB B e (l.1.to t1 t2 t3 t4)
end
def Dz:FV->Option (List FV)| .lst l=>if l.length<=big then some (numbered 0 l) else none|x=>none
def Dg(a b:Int):Option (List FV):=if mid a&&mid b then some (Ye a b) else none
def rR:Option (List Slot×ia)->Bb|some (sl,st)=>some (.next,sl,st)|none=>none
def asK(sl:List Slot):Option ia->Bb|some st=>some (.next,sl,st)|none=>none
section
variable (O:wb) (sl:List Slot) (a b:E)
def RJ(c:CmpOp)(x:FV)(r:Res AV):Res AV:=onV r λy st=>retB (yb c x y) st
def eac(c:CmpOp)(r:Res AV):Res AV:=onV r λx st=>RJ c x (pa O b sl st)
def kF(f:FV->Option FV)(r:Res AV):Res AV:=onV r λx st=>retV (f x) st
def Am(c:Res (List AV)):Res AV:=bnd c λl st=>retV (yF (fvs l)) st
def zM(a:Int)(r:Res AV):Res (List FV):=onI r λm st=>lift (Dg a m) st
def kR2(r:Res AV):Res (List FV):=onI r λn st=>zM n (pa O b sl st)
def kI(f:FV->Option (List FV))(r:Res AV):Res (List FV):=onV r λx st=>lift (f x) st
def Jad(c:Operator)(i:Nat)(x:FV)(r:Res AV):Bb:=sV r sl λy st=>Hi ((rz c x y).bind λz=>put sl i (.a (.v z))) st
def Iad(i:Nat)(l:List FV)(r:Res AV):Bb:=sV r sl λx st=>Ak sl i (tf l x) st
def Kad(i:Nat)(l:List FV)(r:Res AV):Bb:=sV r sl λx st=>Ak sl i (Pg l x) st
def N5(c:Operator)(i:Nat)(e:E)(st:ia):Option AV->Bb|some (.v (.int x))=>Jad sl c i (.int x) (pa O e sl st)|a=>none
def M5(i:Nat)(e:E)(st:ia):Option Slot->Bb|some (.own l)=>Iad sl i l (pa O e sl st)|x=>none
def O5(i:Nat)(e:E)(st:ia):Option Slot->Bb|some (.own l)=>Kad sl i l (pa O e sl st)|x=>none
def Ko(N:Nat)(b:S)(s:Bb):Bb:=match s with|some (.next,sl,st)=>ua O N b sl st|z=>z
def Jc(s:Bb):Res AV:=match s with|some (.ret x,a,st)=>some (.ok x,st)|some (.next,a,st)=>some (.ok (.v .none),st)|some (.exc e,a,st)=>some (.error e,st)|a=>none
def fN(N:Nat)(c:List Nat)(b:S)(l:List FV)(s:Bb):Bb:=ai s (runs (ua O N b) c l)
def VW(st:ia)(N:Nat)(c:List Nat)(b:S)(l:List FV)(o:Option (List Slot)):Bb:=match o with|none=>none|some sl=>fN O N c b l (ua O N b sl st)
end
section
variable {r:Res AV} {rs:Res (List AV)} {O:wb} {sl:List Slot} {st:ia} {a b c es:E} {i m n:Nat} {x y:FV} {u v:Bool} {t:FV} {k:Int} {z:AV} {zs:List AV}
def iW:pa O (.var i) sl st=lift (Lb sl[i]?) st:=rfl
def kE:Sd O (.rng a) sl st=zM 0 (pa O a sl st):=by rw [LB];unfold cQ zM Dg;congr 1;funext n st;rw [show mid 0=true from rfl,Bool.true_and];split<;>rfl
def iT:Sd O (.rng2 a b) sl st=kR2 O sl b (pa O a sl st):=by rw [ey];unfold SK kR2;congr 1;funext n st;unfold zM Dg;congr 1;funext m st;split<;>rfl
def jW:Sd O (.enm a) sl st=kI Dz (pa O a sl st):=by rw [JB];unfold oE kI;congr 1;funext x st;cases x<;>simp only [Dz,lift];split<;>rfl
def zw(h:isJ a=false):Sd O a sl st=kI pb (pa O a sl st):=by unfold Sd iR;rw [h];show itR _=_;unfold itR kI;congr 1;funext x st;induction pb x<;>rfl
end
section
variable {O:wb} {N:Nat} {sl:List Slot} {st:ia} {e es:E} {a b:S} {i m:Nat}
noncomputable def Nk(f:Fn)(c:List AV):List AV:=c++((f.dflt.drop (c.length+f.dflt.length-f.npar)).map AV.v)
def XD:Ed O n f args st=br ((Nk f args).length==f.npar) (Jc (ua O n f.body ((Nk f args).map Slot.a++replicate (f.nslot-f.npar) Slot.u) st)) none:=rfl
def AG:runs (ua O N b) c (x::r) sl st=VW O st N c b r (bindL c x sl):=by show (match bindL c x sl with|none=>none|some sl=>ai (ua O N b sl st) (runs (ua O N b) c r))=_;induction bindL c x sl<;>rfl
end
section
variable {c:List Slot->ia->Res AV} {b:List Slot->ia->Bb} {k:Nat} {sl sl':List Slot} {st st':ia} {ts:List Nat}
def bp(a:c sl st=some (.ok (.v (.bool true)),st))(hb:b sl st=some (.next,sl',st')):loops c b (k+1) sl st=loops c b k sl' st':=by show sE (Mine.onB (c sl st) _) sl _=_;rw [a];show ai (b sl st) _=_;rw [hb];rfl
def fh(a:c sl st=some (.ok (.v (.bool false)),st)):loops c b (k+1) sl st=some (.next,sl,st):=by show sE (Mine.onB (c sl st) _) sl _=_;rw [a];rfl
def HM(a:c sl st=some (.ok (.v (.bool true)),st))(hb:b sl st=some (.exc t,sl',st')):loops c b (k+1) sl st=some (.exc t,sl',st'):=by show sE (Mine.onB (c sl st) _) sl _=_;rw [a];show ai (b sl st) _=_;rw [hb];rfl
end
def UI(h:l.length<=big):Va (.bytes l) (some (l.length:Int)) none=some (.bytes []):=(if_pos h).trans (congrArg (λx=>some (FV.bytes x)) (show ((l.drop (clipAt l.length (l.length:Int))).take (l.length-clipAt l.length (l.length:Int)))= [] by rw [clipAt_nat,Nat.min_self,drop_length,take_nil]))
def nR{r:List b}(h:r.length=n-i)(a:i<=n):r.take (min (i+k) n-i)=r.take k:=(Nat.le_total (i+k) n).elim (λz=>by rw [Nat.min_eq_left z,Nat.add_sub_cancel_left]) λz=>by rw [Nat.min_eq_right z,<-h,take_length,take_of_length_le (by rw [h];exact Nat.sub_le_iff_le_add'.mpr z)]
def sU{i k:Nat}(h:l.length<=big)(a:i<=l.length)(e:l.drop i=r):Va (.bytes l) (some (i:Int)) (some ((i:Int)+(k:Int)))=some (.bytes (r.take k)):=(if_pos h).trans (congrArg (λx=>some (FV.bytes x)) (show (l.drop (clipAt l.length (i:Int))).take (clipAt l.length ((i+k:Nat):Int)-clipAt l.length (i:Int))=r.take k by rw [clipAt_nat,clipAt_nat,Nat.min_eq_left a,e];exact nR (e▸length_drop) a))
def cE{m:Nat}:cut l none (some (m:Int))=l.take m:=show (l.drop 0).take (clipAt l.length (m:Int)-0)=l.take m by rw [clipAt_nat,drop_zero,Nat.sub_zero,<-take_eq_take_min]
inductive An where|f (x:FV)|b (u:Bool)|r (x:Except FV AV×ia)|l (x:List FV)|p (x:PO)|m (x:ia)|s (x:Fl×List Slot×ia)
inductive Q where|done (r:Bb)|ask (m:Option An) (k:An->Q)
def den:Q->Bb| .done r=>r| .ask m k=>match m with|some a=>den (k a)|none=>none
noncomputable def quest:Q->Option An| .done _=>none| .ask m x=>m
noncomputable def ZW(a:An):Q->Q| .done r=> .done r| .ask x k=>k a
noncomputable def ad1:Q->Q| .done r=> .done r| .ask m k=>match m with|some a=>k a|none=> .ask none k
def QD:Nat->Q->Q|0,c=>c|n+1,c=>QD n (ad1 c)
def dT:∀c,den (ad1 c)=den c| .done _=>rfl| .ask m k=>by induction m<;>rfl
theorem wz:∀n c,den (QD n c)=den c|0,x=>rfl|n+1,c=>(wz n _).trans (dT c)
def fT:∀{c},quest c=some a->den c=den (ZW a c)| .done _,h=>Cb h| .ask m k,h=>by have h:m=some a:=h;subst h;rfl
structure Fact where
 n:Nat
 {m:Option An}
 {a:An}
 h:m=some a
def qs:List Fact->Q->List (Option An)| [],x=> []|f::r,c=>quest (QD f.n c)::qs r (ZW f.a (QD f.n c))
def Qg:List Fact->Q->Q| [],c=>c|f::r,c=>Qg r (ZW f.a (QD f.n c))
noncomputable def ms:List Fact->List (Option An)| []=> []|f::r=>f.m::ms r
theorem dv:∀fs c,qs fs c=ms fs->den c=den (Qg fs c)| [],x,a=>rfl|f::r,c,h=>by injection h with b d;exact (wz f.n c).symm.trans ((fT (b.trans f.h)).trans (dv r _ d))
section
variable {α β:Type}
abbrev Fact.F(n:Nat){m:Option FV}{a:FV}(h:m=some a):Fact:=⟨n,congrArg (Option.map An.f) h⟩
abbrev Fact.B(n:Nat){m a:Bool}(h:m=a):Fact:=⟨n,congrArg (λx=>some (An.b x)) h⟩
abbrev Fact.O(n:Nat){m:Option Bool}{a:Bool}(h:m=some a):Fact:=⟨n,congrArg (Option.map An.b) h⟩
abbrev Fact.R(n:Nat){m:Res AV}{a:Except FV AV×ia}(h:m=some a):Fact:=⟨n,congrArg (Option.map An.r) h⟩
abbrev Fact.L(n:Nat){m:Option (List FV)}{a:List FV}(h:m=some a):Fact:=⟨n,congrArg (Option.map An.l) h⟩
abbrev Fact.P(n:Nat){m:Option PO}{a:PO}(h:m=some a):Fact:=⟨n,congrArg (Option.map An.p) h⟩
abbrev Fact.M(n:Nat){m:Option ia}{a:ia}(h:m=some a):Fact:=⟨n,congrArg (Option.map An.m) h⟩
abbrev Fact.S(n:Nat){m:Bb}{a:Fl×List Slot×ia}(h:m=some a):Fact:=⟨n,congrArg (Option.map An.s) h⟩
end
noncomputable def aF(m:Option FV)(k:FV->Q):Q:= .ask (m.map .f) λa=>match a with| .f v=>k v|x=> .done none
noncomputable def aO(m:Option Bool)(k:Bool->Q):Q:= .ask (m.map .b) λa=>match a with| .b v=>k v|x=> .done none
def aB(b:Bool)(k1 k2:Q):Q:= .ask (some (.b b)) λa=>match a with| .b u=>br u k1 k2|x=> .done none
noncomputable def aV(b:Bool)(k:Bool->Q):Q:= .ask (some (.b b)) λa=>match a with| .b u=>k u|x=> .done none
noncomputable def aL(m:Option (List FV))(k:List FV->Q):Q:= .ask (m.map .l) λa=>match a with| .l v=>k v|x=> .done none
noncomputable def aP(m:Option PO)(k:PO->Q):Q:= .ask (m.map .p) λa=>match a with| .p v=>k v|x=> .done none
def aM(m:Option ia)(k:ia->Q):Q:= .ask (m.map .m) λa=>match a with| .m v=>k v|x=> .done none
def rQ(sl:List Slot)(k:AV->ia->Q)(st:ia):Except FV AV->Q| .ok x=>k x st| .error e=> .done (some (.exc e,sl,st))
def aR(m:Res AV)(sl:List Slot)(k:AV->ia->Q):Q:= .ask (m.map .r) λa=>match a with| .r (x,st)=>rQ sl k st x|y=> .done none
def sQ(k h:List Slot->ia->Q)(sl:List Slot)(st:ia):Fl->Q| .next=>k sl st| .brk=>h sl st|f=> .done (some (f,sl,st))
def aS(m:Bb)(k h:List Slot->ia->Q):Q:= .ask (m.map .s) λa=>match a with| .s (x,sl,st)=>sQ k h sl st x|y=> .done none
noncomputable def vQ(k:FV->Q):AV->Q| .v f=>k f| .o x=> .done none
noncomputable def bF(k:Bool->Q):FV->Q| .bool b=>k b|x=> .done none
def bQ(k:Bool->Q)(x:AV):Q:=vQ (bF k) x
noncomputable def iF(k:Int->Q):FV->Q| .int b=>k b|x=> .done none
def iQ(k:Int->Q)(x:AV):Q:=vQ (iF k) x
noncomputable def ve(k:a->Q):Option a->Q|some x=>k x|none=> .done none
def sN(r:Bb)(g h:List Slot->ia->Bb):Bb:=match r with|some (.next,sl,st)=>g sl st|some (.brk,sl,st)=>h sl st|z=>z
section
variable {α:Type} {sl:List Slot} {st:ia} {g:AV->ia->Bb} {G H':List Slot->ia->Bb}
def cW:den (aL m k)=match m with|some v=>den (k v)|none=>none:=by induction m<;>rfl
def dW:den (aM m k)=match m with|some v=>den (k v)|none=>none:=by induction m<;>rfl
def bW:den (aB b k1 k2)=br b (den k1) (den k2):=by induction b<;>rfl
def Df:den (aR m sl k)=sE m sl λx st=>den (k x st):=by induction m with|none=>rfl|some x=>obtain ⟨x,st⟩:=x;induction x<;>rfl
def rn:den (aS m k h)=sN m (λsl st=>den (k sl st)) λsl st=>den (h sl st):=by induction m with|none=>rfl|some x=>obtain ⟨x,sl,st⟩:=x;induction x<;>rfl
def we{K:AV->ia->Q}:den (aF m λv=>K (.v v) st)=sE (retV m st) sl λx st=>den (K x st):=by induction m<;>rfl
def xw{K:AV->ia->Q}:den (aO m λv=>aV v λv=>K (.v (.bool v)) st)=sE (retB m st) sl λx st=>den (K x st):=by induction m<;>rfl
variable {β:Type} {h:β->ia->Bb}
def Eg{k:α->ia->Q}(H:∀x st,den (k x st)=sE (f x st) sl h):(sE m sl λx st=>den (k x st))=sE (bnd m f) sl h:=by induction m with|none=>rfl|some x=>obtain ⟨x,st⟩:=x;induction x with|error a=>rfl|ok x=>exact H x st
def Ih{k:FV->ia->Q}(H:∀x st,den (k x st)=sE (f x st) sl h):(sE m sl λx st=>den (vQ (λx=>k x st) x))=sE (onV m f) sl h:=Eg λx st=>by induction x with|o a=>rfl|v x=>exact H x st
def Fj{k:Bool->ia->Q}(H:∀x st,den (k x st)=sE (f x st) sl h):(sE m sl λx st=>den (bQ (λx=>k x st) x))=sE (onB m f) sl h:=Eg λx st=>by induction x with|o a=>rfl|v x=>cases x with|bool x=>exact H x st| _=>rfl
def QG{k:Int->ia->Q}(H:∀x st,den (k x st)=sE (f x st) sl h):(sE m sl λx st=>den (iQ (λx=>k x st) x))=sE (onI m f) sl h:=Eg λx st=>by induction x with|o a=>rfl|v x=>cases x with|int x=>exact H x st| _=>rfl
def kB{k:α->ia->Q}(H:∀x st,den (k x st)=sN (f x st) G H'):(sE m sl λx st=>den (k x st))=sN (sE m sl f) G H':=by induction m with|none=>rfl|some x=>obtain ⟨x,st⟩:=x;induction x with|error a=>rfl|ok x=>exact H x st
def Jx{k:FV->ia->Q}(H:∀x st,den (k x st)=sN (f x st) G H'):(sE m sl λx st=>den (vQ (λx=>k x st) x))=sN (sV m sl f) G H':=kB λx st=>by induction x with|o a=>rfl|v x=>exact H x st
def Ho{K:List Slot->ia->Q}:den (ve (λsl=>K sl st) o)=sN (Hi o st) (λsl st=>den (K sl st)) G:=by induction o<;>rfl
def Lad{f g:List Slot->ia->Bb}(H:∀sl st,F sl st=sN (f sl st) g G):sN m F G=sN (match m with|some (.next,sl,st)=>f sl st|z=>z) g G:=by
 induction m with
 |none=>rfl|some x=>
  obtain ⟨x,sl,st⟩:=x;induction x with
  |next=>exact H sl st
  | _=>rfl
end
def lJ(p q:CmpOp)(x y z:FV):Option Bool:=match yb p x y with
 |some u=>match yb q y z with|some v=>some (u&&v)|none=>br u none (some false)
 |none=>none
def sure(O:wb)(sl:List Slot)(c:E):Option FV:=if h:c.ctorIdx=0 then @E.cst.elim (λx=>Option FV) c h some else if h:c.ctorIdx=2 then @E.glob.elim (λx=>Option FV) c h O.glob else if h:c.ctorIdx=1 then @E.var.elim (λx=>Option FV) c h λi=>Ug (Lb sl[i]?) fv else none
def ZU(h:sure O sl c=some z):pa O c sl st=some (.ok (.v z),st):=by
 unfold sure at h;by_cases b:c.ctorIdx=0;·rw [dif_pos b] at h;exact @E.cst.elim (λc=>∀b,@E.cst.elim (λa=>Option FV) c b some=some z->pa O c sl st=some (.ok (.v z),st)) c b (λx a h=>Option.some.inj h▸rfl) b h
 rw [dif_neg b] at h;by_cases f:c.ctorIdx=2;·rw [dif_pos f] at h;exact @E.glob.elim (λc=>∀b,@E.glob.elim (λa=>Option FV) c b O.glob=some z->pa O c sl st=some (.ok (.v z),st)) c f (λx a h=>by show retV (O.glob x) st=_;rw [show O.glob x=some z from h];rfl) f h
 rw [dif_neg f] at h;by_cases d:c.ctorIdx=1;·rw [dif_pos d] at h;exact @E.var.elim (λc=>∀b,@E.var.elim (λa=>Option FV) c b (λi=>Ug (Lb sl[i]?) fv)=some z->pa O c sl st=some (.ok (.v z),st)) c d (λi a h=>by show lift (Lb sl[i]?) st=_;exact Ke h λx e h=>by rw [e];induction x with|v x=>(injection h with h;subst h);rfl|o a=>exact Cb h) d h
 rw [dif_neg d] at h;exact Cb h
mutual
noncomputable def mE(O:wb):E->List Slot->ia->(AV->ia->Q)->Q
 | .cst c,t,st,K=>K (.v c) st| .var i,sl,st,K=>ve (λx=>K x st) (Lb sl[i]?)| .glob x,t,st,K=>aF (O.glob x) λv=>K (.v v) st| .bin g a b,sl,st,K=>mE O a sl st λx st=>vQ (λx=>mE O b sl st λy st=>vQ (λy=>aF (Ia g x y) λv=>K (.v v) st) y) x| .cmp g a b,sl,st,K=>mE O a sl st λx st=>vQ (λx=>mE O b sl st λy st=>vQ (λy=>aO (yb g x y) λv=>aV v λv=>K (.v (.bool v)) st) y) x| .cmp2 p q a b c,sl,st,K=>mE O a sl st λx st=>vQ (λx=>mE O b sl st λy st=>vQ (λy=>match sure O sl c with|some z=>aO (lJ p q x y z) λv=>aV v λv=>K (.v (.bool v)) st|none=>aO (yb p x y) λu=>aB u (mE O c sl st λz st=>vQ (λz=>aO (yb q y z) λv=>aV v λv=>K (.v (.bool v)) st) z) (K (.v (.bool false)) st)) y) x| .and a b,sl,st,K=>mE O a sl st λx st=>bQ (λx=>aB x (mE O b sl st λy st=>bQ (λy=>K (.v (.bool y)) st) y) (K (.v (.bool false)) st)) x| .or a b,sl,st,K=>mE O a sl st λx st=>bQ (λx=>aB x (K (.v (.bool true)) st) (mE O b sl st λy st=>bQ (λy=>K (.v (.bool y)) st) y)) x| .not a,sl,st,K=>mE O a sl st λx st=>bQ (λx=>aV (!x) λx=>K (.v (.bool x)) st) x| .ite c a b,sl,st,K=>mE O c sl st λx st=>bQ (λx=>aB x (mE O a sl st K) (mE O b sl st K)) x| .neg n,t,st,K=>K (.v (.int (-(n:Int)))) st| .idx a i,sl,st,K=>mE O a sl st λx st=>vQ (λx=>mE O i sl st λy st=>iQ (λy=>aF (jc x y) λv=>K (.v v) st) y) x| .idxv x i,sl,st,K=>ve (λs=>match s with| .own l=>mE O i sl st λy st=>iQ (λy=>aF (jc (.lst l) y) λv=>K (.v v) st) y|t=> .done none) sl[x]?| .slc a j d,sl,st,K=>mE O a sl st λx st=>vQ (λx=>br (isNil j) (br (isNil d) (aF (Va x none none) λv=>K (.v v) st) (mE O d sl st λh st=>iQ (λh=>aF (Va x none (some h)) λv=>K (.v v) st) h))
  (mE O j sl st λl st=>iQ (λl=>br (isNil d) (aF (Va x (some l) none) λv=>K (.v v) st) (mE O d sl st λh st=>iQ (λh=>aF (Va x (some l) (some h)) λv=>K (.v v) st) h)) l)) x
 | .rev a,sl,st,K=>mE O a sl st λx st=>vQ (λx=>aF (VP x) λv=>K (.v v) st) x| .tup es,sl,st,K=>zF O es sl st λl st=>aF (AL (fvs l)) λv=>K (.v v) st| .lst es,sl,st,K=>zF O es sl st λl st=>aF (yF (fvs l)) λv=>K (.v v) st| .call f es,sl,st,K=>zF O es sl st λl st=>aR (O.call f l st) sl K| .len a,sl,st,K=>mE O a sl st λx st=>vQ (λx=>aF (Rg x) λv=>K (.v v) st) x| .listf a,sl,st,K=>mE O a sl st λx st=>vQ (λx=>aF (nv x) λv=>K (.v v) st) x| .bytesf a,sl,st,K=>mE O a sl st λx st=>vQ (λx=>aF (Jj x) λv=>K (.v v) st) x| .intf a,sl,st,K=>mE O a sl st λx st=>iQ (λx=>K (.v (.int x)) st) x| .sumf a,sl,st,K=>mE O a sl st λx st=>vQ (λx=>aF (sumF x) λv=>K (.v v) st) x| .make c es,sl,st,K=>br (Nb c 999) (zF O es sl st λl st=>aR (O.meth c 999 (.o st.length::l) (st++ [.inst c []])) sl λx st'=>match x with| .v .none=>K (.o st.length) st'|t=> .done none) (.done none)| .meth a m es,sl,st,K=>mE O a sl st λx st=>match x with
  | .o i=>aP st[i]? λp=>match p with| .inst c t=>br (Nb c m) (zF O es sl st λl st=>aR (O.meth c m (.o i::l) st) sl K) (.done none)|t=> .done none
  | .v t=> .done none
 | .attr a m,sl,st,K=>mE O a sl st λx st=>match x with
  | .o i=>aP st[i]? λp=>match p with| .inst c fs=>br (sd c m) (ve (λx=>K x st) (zy fs m)) (.done none)|t=> .done none
  | .v t=> .done none
 |e,sl,st,K=>aR (pa O e sl st) sl K
noncomputable def zF(O:wb):E->List Slot->ia->(List AV->ia->Q)->Q| .nil,y,st,K=>K [] st| .cons a es,sl,st,K=>mE O a sl st λx st=>zF O es sl st λl st=>K (x::l) st|y,b,z,c=> .done none
end
def YS(e:sure O sl c=some z):sE (retB (lJ p q x y z) st) sl h=sE (match yb p x y with|some u=>br u (onV (pa O c sl st) λz st=>retB (yb q y z) st) (ok (.v (.bool false)) st)|none=>none) sl h:=by rw [ZU e];show _=sE (match yb p x y with|some u=>br u (retB (yb q y z) st) (ok (.v (.bool false)) st)|none=>none) sl h;unfold lJ;induction yb p x y with|none=>rfl|some u=>induction u<;>induction yb q y z<;>rfl
def nO{k:Bool->Q}{f:Bool->Res AV}(H:∀u,den (k u)=sE (f u) sl h):den (aO m k)=sE (match m with|some u=>f u|none=>none) sl h:=by induction m with|none=>rfl|some u=>exact H u
def iE(a:den k=sE f sl h):den (br b k (.done none))=sE (if b then f else none) sl h:=by induction b with|true=>exact a|false=>rfl
def gE(a:den k1=sE f1 sl h)(c:den k2=sE f2 sl h):den (aB b k1 k2)=sE (match b with|true=>f1|false=>f2) sl h:=by induction b with|true=>exact a|false=>exact c
def bI{e:E}{k:Option Int->ia->Q}(b:∀K,den (mE O e sl st K)=sE (pa O e sl st) sl λx st=>den (K x st))(H:∀x st,den (k x st)=sE (f x st) sl h):
  den (br (isNil e) (k none st) (mE O e sl st λx st=>iQ (λx=>k (some x) st) x))=sE (bnd (fB e (pa O e sl st) st) f) sl h:=by
 unfold fB;induction isNil e with|true=>exact H _ _|false=>show den (mE O e sl st _)=sE (bnd (onI (pa O e sl st) λx st=>ok (some x) st) f) sl h;rw [b];induction pa O e sl st with|none=>rfl|some x=>obtain ⟨x,st⟩:=x;induction x with|error a=>rfl|ok x=>induction x with|o a=>rfl|v x=>cases x with|int x=>exact H _ _| _=>rfl
mutual
theorem La(O:wb):∀(e:E) (sl:List Slot) (st:ia) (K:AV->ia->Q),den (mE O e sl st K)=sE (pa O e sl st) sl λx st=>den (K x st)
 | .cst t,r,j,n=>rfl| .var i,sl,st,K=>by show den (ve _ (Lb sl[i]?))=sE (lift (Lb sl[i]?) st) sl _;induction Lb sl[i]? <;>rfl
 | .glob t,r,j,n=>we| .bin t a b,r,j,n=>(La O a _ _ _).trans (Ih λt t=>(La O b _ _ _).trans (Ih λt t=>we))| .cmp t a b,r,j,n=>(La O a _ _ _).trans (Ih λt t=>(La O b _ _ _).trans (Ih λt t=>xw))| .cmp2 p q a b c,sl,st,K=>(La O a _ _ _).trans (Ih λx t=>(La O b _ _ _).trans (Ih λy st=>by
   induction h:sure O sl c with
   |some z=>exact xw.trans (YS h)|none=>exact nO λu=>bW.trans (by
     induction u with|true=>exact (La O c _ _ _).trans (Ih λt t=>xw)|false=>rfl)))
 | .and a b,t,r,j=>(La O a _ _ _).trans (Fj λt t=>gE ((La O b _ _ _).trans (Fj λt t=>rfl)) rfl)| .or a b,t,r,j=>(La O a _ _ _).trans (Fj λt t=>gE rfl ((La O b _ _ _).trans (Fj λt t=>rfl)))| .not a,t,r,j=>(La O a _ _ _).trans (Fj λt t=>rfl)| .ite c a b,t,r,j=>(La O c _ _ _).trans (Fj λt t=>gE (La O a _ _ _) (La O b _ _ _))| .neg t,r,j,n=>rfl| .idx a i,t,r,j=>(La O a _ _ _).trans (Ih λt t=>(La O i _ _ _).trans (QG λt t=>we))| .idxv x i,sl,st,K=>by show den (ve _ sl[x]?)=sE (match sl[x]? with|some (.own l)=>onI (pa O i sl st) λk st=>retV (jc (.lst l) k) st| _=>none) sl _;induction sl[x]? with|none=>rfl|some s=>induction s with|own l=>exact (La O i _ _ _).trans (QG λt t=>we)| _=>rfl
 | .slc a f d,sl,t,K=>(La O a _ _ _).trans (Ih λx t=>(bI (k:=λl st=>br (isNil d) (aF (Va x l none) λv=>K (.v v) st) (mE O d sl st λh st=>iQ (λh=>aF (Va x l (some h)) λv=>K (.v v) st) h)) (La O f _ _) λl t=>(bI (k:=λh st=>aF (Va x l h) λv=>K (.v v) st) (La O d _ _) λt t=>we)))| .rev a,t,r,j=>(La O a _ _ _).trans (Ih λt t=>we)| .tup es,t,r,j=>(Aj O es _ _ _).trans (Eg λt t=>we)| .lst es,t,r,j=>(Aj O es _ _ _).trans (Eg λt t=>we)| .call t es,r,j,n=>(Aj O es _ _ _).trans (Eg λt t=>Df)| .len a,t,r,j=>(La O a _ _ _).trans (Ih λt t=>we)| .listf a,t,r,j=>(La O a _ _ _).trans (Ih λt t=>we)| .bytesf a,t,r,j=>(La O a _ _ _).trans (Ih λt t=>we)| .intf a,t,r,j=>(La O a _ _ _).trans (QG λt t=>rfl)| .sumf a,t,r,j=>(La O a _ _ _).trans (Ih λt t=>we)| .make c es,t,r,j=>iE ((Aj O es _ _ _).trans (Eg λt t=>Df.trans (Eg λx t=>by induction x with|o t=>rfl|v x=>cases x<;>rfl)))| .meth a m es,sl,t,K=>(La O a _ _ _).trans (Eg λx st=>by induction x with|v t=>rfl|o i=>show den (aP st[i]? _)=sE (match st[i]? with|some (.inst c t)=>if Nb c m then bnd (Ef O es sl st) λl st=>O.meth c m (.o i::l) st else none| _=>none) sl _;induction st[i]? with|none=>rfl|some p=>induction p with|inst c t=>exact iE ((Aj O es _ _ _).trans (Eg λt t=>Df))|dl t=>rfl)| .attr a m,sl,t,K=>(La O a _ _ _).trans (Eg λx st=>by induction x with|v t=>rfl|o i=>show den (aP st[i]? _)=sE (match st[i]? with|some (.inst c fs)=>if sd c m then lift (zy fs m) st else none| _=>none) sl _;induction st[i]? with|none=>rfl|some p=>induction p with|inst c fs=>exact iE (by induction zy fs m<;>rfl)|dl t=>rfl)| .lenv t,r,j,n=>Df| .pop t,r,j,n=>Df| .emptyq t,r,j,n=>Df| .rng t,r,j,n=>Df| .rng2 ..,t,r,j=>Df| .enm t,r,j,n=>Df| .comp ..,t,r,j=>Df| .nil,t,r,j=>Df| .cons ..,t,r,j=>Df
theorem Aj(O:wb):∀(e:E) (sl:List Slot) (st:ia) (K:List AV->ia->Q),den (zF O e sl st K)=sE (Ef O e sl st) sl λx st=>den (K x st)| .nil,y,b,z=>rfl| .cons a es,y,b,z=>(La O a _ _ _).trans (Eg λy y=>(Aj O es _ _ _).trans (Eg λy y=>rfl))| .cst y,b,z,c=>rfl| .var y,b,z,c=>rfl| .glob y,b,z,c=>rfl| .bin ..,y,b,z=>rfl| .cmp ..,y,b,z=>rfl| .cmp2 ..,y,b,z=>rfl| .and ..,y,b,z=>rfl| .or ..,y,b,z=>rfl| .not ..,y,b,z=>rfl| .ite ..,y,b,z=>rfl| .neg ..,y,b,z=>rfl| .idx ..,y,b,z=>rfl| .idxv ..,y,b,z=>rfl| .slc ..,y,b,z=>rfl| .rev ..,y,b,z=>rfl| .tup ..,y,b,z=>rfl| .lst ..,y,b,z=>rfl| .call ..,y,b,z=>rfl| .len ..,y,b,z=>rfl| .listf ..,y,b,z=>rfl| .bytesf ..,y,b,z=>rfl| .intf ..,y,b,z=>rfl| .sumf ..,y,b,z=>rfl| .make ..,y,b,z=>rfl| .meth ..,y,b,z=>rfl| .attr ..,y,b,z=>rfl| .lenv y,b,z,c=>rfl| .pop y,b,z,c=>rfl| .emptyq y,b,z,c=>rfl| .rng y,b,z,c=>rfl| .rng2 ..,y,b,z=>rfl| .enm y,b,z,c=>rfl| .comp ..,y,b,z=>rfl
end
def sS:List T->List AV->List Slot->ia->(List Slot->ia->Q)->Q| [],[],sl,st,K=>K sl st| .v i::a,x::xs,sl,st,K=>ve (λsl=>sS a xs sl st K) (put sl i (.a x))| .a m::a,x::xs,sl,st,K=>aM (Hb sl st m x) λst=>sS a xs sl st K|y,b,z,c,u=> .done none
def nS(O:wb):List (Nat×Bool)->E->List Slot->ia->(List Slot->ia->Q)->Q| [],.nil,y,st,K=>K [] st|(y,false)::d,.cons a es,sl,st,K=>mE O a sl st λx st=>nS O d es sl st λl st=>K (.a x::l) st|(y,true)::d,.cons (.lst .nil) es,sl,st,K=>nS O d es sl st λl st=>K (.own []::l) st|y,b,z,c,u=> .done none
def mI(O:wb)(sl:List Slot)(st:ia)(K:List FV->ia->Q):E->Q| .rng a=>mE O a sl st λx st=>iQ (λx=>aL (Dg 0 x) λl=>K l st) x| .rng2 a b=>mE O a sl st λx st=>iQ (λx=>mE O b sl st λy st=>iQ (λy=>aL (Dg x y) λl=>K l st) y) x| .enm a=>mE O a sl st λx st=>vQ (λx=>aL (Dz x) λl=>K l st) x|e=>mE O e sl st λx st=>vQ (λx=>aL (pb x) λl=>K l st) x
def QO(f:Bb->Bb):Q->Q| .done r=> .done (f r)| .ask m k=> .ask m λa=>QO f (k a)
def Nad:Bb->Bb|some (.ret x,sl,st)=>some (.ret x,sl,st)|some (.exc (.tup [t,a]),sl,st)=>some (.ret (.v (.tup [.lst [],t])),sl,st)|a=>none
def Ad(sl:List Slot)(st:ia):Q:= .done (some (.next,sl,st))
def Rc(sl:List Slot)(st:ia):Q:= .done (some (.brk,sl,st))
def mW(sl:List Slot)(x:AV)(st:ia):Q:= .done (some (.ret x,sl,st))
def oA(b:List Slot->ia->(List Slot->ia->Q)->(List Slot->ia->Q)->Q)(a:List Nat)(K:List Slot->ia->Q):List FV->List Slot->ia->Q| [],sl,st=>K sl st|x::r,sl,st=>ve (λsl=>b sl st (oA b a K r) K) (bindL a x sl)
def mS(u:Bool)(O:wb)(n:Nat):S->List Slot->ia->(List Slot->ia->Q)->(List Slot->ia->Q)->Q| .skip,sl,st,K,H=>K sl st| .seq a b,sl,st,K,H=>mS u O n a sl st (λsl st=>mS u O n b sl st K H) H| .frz i,sl,st,K,H=>ve (λsl=>K sl st) (wO sl i sl[i]?)| .asg i e,sl,st,K,H=>mE O e sl st λx st=>ve (λsl=>K sl st) (put sl i (.a x))| .own i,sl,st,K,H=>ve (λsl=>K sl st) (put sl i (.own []))| .ownl i e,sl,st,K,H=>mE O e sl st λx st=>vQ (λx=>aL (pb x) λl=>ve (λsl=>K sl st) (put sl i (.own l))) x| .asgs d es,sl,st,K,H=>nS O d es sl st λl st=>br (distinct d) (ve (λsl=>K sl st) (Sl d l sl)) (.done none)| .unp d e,sl,st,K,H=>mE O e sl st λx st=>vQ (λx=>match x with| .tup l=>sS d (l.map .v) sl st K|t=> .done none) x| .asgA m e,sl,st,K,H=>mE O e sl st λx st=>aM (Hb sl st m x) λst=>K sl st| .aug i f e,sl,st,K,H=>ve (λx=>iQ (λx=>mE O e sl st λy st=>vQ (λy=>aF (rz f (.int x) y) λz=>ve (λsl=>K sl st) (put sl i (.a (.v z)))) y) x) (Lb sl[i]?)| .app i e,sl,st,K,H=>ve (λs=>match s with| .own l=>mE O e sl st λx st=>vQ (λx=>aL (tf l x) λl=>K (sl.set i (.own l)) st) x|t=> .done none) sl[i]?| .ext i e,sl,st,K,H=>ve (λs=>match s with| .own l=>mE O e sl st λx st=>vQ (λx=>aL (Pg l x) λl=>K (sl.set i (.own l)) st) x|t=> .done none) sl[i]?| .exp e,sl,st,K,H=>mE O e sl st λt st=>K sl st| .ifs c a b,sl,st,K,H=>mE O c sl st λx st=>bQ (λv=>aB v (mS u O n a sl st K H) (mS u O n b sl st K H)) x| .fors d it b,sl,st,K,H=>mI O sl st (λl st=>br u (oA (mS u O n b) d K l sl st) (aS (runs (ua O n b) d l sl st) K H)) it| .ret e,sl,st,t,H=>mE O e sl st λx st=> .done (some (.ret x,sl,st))| .brk,sl,st,t,H=>H sl st| .rai e,sl,st,t,H=>mE O e sl st λx st=>vQ (λx=> .done (some (.exc x,sl,st))) x| .tryr t e,sl,st,k,H=>QO Nad (mE O e sl st (mW sl))|s,sl,st,K,H=>aS (ua O n s sl st) K H
theorem jE(h:f none=none):∀c,den (QO f c)=f (den c)| .done _=>rfl| .ask m k=>by induction m with|none=>exact h.symm|some a=>exact jE h (k a)
theorem yz:∀(a:List T) (xs:List AV) (sl:List Slot) (st:ia),den (sS a xs sl st K)=sN (rR (Nf a xs sl st)) (λsl st=>den (K sl st)) H
 | [],[],y,b=>rfl| [],y::b,z,c=>rfl| .v y::b,[],z,c=>rfl| .a y::b,[],z,c=>rfl| .v i::a,x::xs,sl,st=>by show den (ve _ (put sl i (.a x)))=sN (rR (match (match put sl i (.a x) with|some sl=>some (sl,st)|none=>none) with|some (sl,st)=>Nf a xs sl st|none=>none)) _ _;induction put sl i (.a x) with|none=>rfl|some sl=>exact yz a xs sl st
 | .a m::a,x::xs,sl,st=>by show den (aM (Hb sl st m x) _)=sN (rR (match (match Hb sl st m x with|some st=>some (sl,st)|none=>none) with|some (sl,st)=>Nf a xs sl st|none=>none)) _ _;rw [dW];induction Hb sl st m x with|none=>rfl|some st=>exact yz a xs sl st
def eT(O:wb):∀(c:List (Nat×Bool)) (es:E) (sl:List Slot) (st:ia) (K:List Slot->ia->Q),den (nS O c es sl st K)=sE (vd O c es sl st) sl λl st=>den (K l st):=by
 intro c;induction c with
 |nil=>intro es;induction es<;>intros<;>rfl
 |cons t c d=>
  obtain ⟨i,b⟩:=t;intro es sl st K;induction es with
  |cons a es=>
   induction b with
   |false=>exact (La O a _ _ _).trans (Eg λx x=>(d es _ _ _).trans (Eg λx x=>rfl))|true=>
    induction a with
    |lst l=>induction l with|nil=>exact (d es _ _ _).trans (Eg λx x=>rfl)| _=>rfl
    | _=>rfl
  | _=>induction b<;>rfl
def eW(H:∀l st,den (K l st)=sN (f l st) g g'):∀e,den (mI O sl st K e)=sN (sE (Sd O e sl st) sl f) g g':=by
 have d:∀(m:Option (List FV)) (st:ia),den (aL m λl=>K l st)=sN (sE (lift m st) sl f) g g':=λm st=>by induction m with|none=>rfl|some l=>exact H l st
 have c:∀{i:Type} (m:Res i) (k:i->ia->Q) (F:i->ia->Res (List FV)),(∀x st,den (k x st)=sN (sE (F x st) sl f) g g')->(sE m sl λx st=>den (k x st))=sN (sE (bnd m F) sl f) g g':=λm k F h=>by induction m with|none=>rfl|some x=>obtain ⟨x,st⟩:=x;induction x with|error z=>rfl|ok x=>exact h x st
 have j:∀e,isJ e=false->den (mE O e sl st λx st=>vQ (λx=>aL (pb x) λl=>K l st) x)=sN (sE (Sd O e sl st) sl f) g g':=λe h=>by rw [zw h];exact (La O e _ _ _).trans (c _ _ _ λx st=>by induction x with|o z=>rfl|v x=>exact d _ _)
 intro e;induction e with|rng a=>rw [kE];exact (La O a _ _ _).trans (c _ _ _ λx st=>by induction x with|o z=>rfl|v x=>cases x with|int x=>exact d _ _| _=>rfl)|rng2 a b=>rw [iT];exact (La O a _ _ _).trans (c _ _ _ λx st=>by induction x with|o z=>rfl|v x=>cases x with|int x=>exact (La O b _ _ _).trans (c _ _ _ λy st=>by induction y with|o z=>rfl|v y=>cases y with|int y=>exact d _ _| _=>rfl)| _=>rfl)|enm a=>rw [jW];exact (La O a _ _ _).trans (c _ _ _ λx st=>by induction x with|o z=>rfl|v x=>exact d _ _)| _=>exact j _ rfl
theorem vw(hb:∀sl st K H,den (b sl st K H)=sN (ua O n c sl st) (λsl st=>den (K sl st)) λsl st=>den (H sl st)):
  ∀l sl st,den (oA b d K l sl st)=sN (runs (ua O n c) d l sl st) (λsl st=>den (K sl st)) G
 | [],a,z=>rfl|x::r,sl,st=>by
  show den (ve _ (bindL d x sl))=sN (VW O st n d c r (bindL d x sl)) _ _;induction bindL d x sl with
  |none=>rfl|some sl=>
   show den (b sl st (oA b d K r) K)=sN (fN O n d c r (ua O n c sl st)) _ _;rw [hb];induction ua O n c sl st with
   |none=>rfl|some y=>
    obtain ⟨y,sl,st⟩:=y;induction y with
    |next=>exact vw hb r sl st
    | _=>rfl
theorem ig(u:Bool)(O:wb)(n:Nat):∀(s:S) (sl:List Slot) (st:ia) (K H:List Slot->ia->Q),den (mS u O n s sl st K H)=sN (ua O n s sl st) (λsl st=>den (K sl st)) λsl st=>den (H sl st)
 | .skip,_,_,_,_=>rfl| .seq a b,k,p,q,r=>(ig u O n a _ _ _ _).trans (Lad λsl st=>ig u O n b sl st _ _)| .frz k,p,q,r,j=>Ho| .asg k e,p,q,r,j=>(La O e _ _ _).trans (kB λk k=>Ho)| .own k,p,q,r,j=>Ho| .ownl i e,sl,k,p,q=>(La O e _ _ _).trans (Jx λx st=>by rw [cW];induction pb x with|none=>rfl|some l=>exact Ho)| .asgs d es,sl,k,p,q=>(eT O d es _ _ _).trans (kB λl st=>by induction distinct d with|true=>exact Ho|false=>rfl)| .unp d e,k,p,q,r=>(La O e _ _ _).trans (Jx λx st=>by cases x with|tup l=>exact yz d _ _ _| _=>rfl)| .asgA m e,sl,k,K,p=>(La O e _ _ _).trans (kB λx st=>by show den (aM (Hb sl st m x) λst=>K sl st)=sN (asK sl (Hb sl st m x)) (λsl st=>den (K sl st)) _;induction Hb sl st m x<;>rfl)| .aug i f e,sl,st,K,k=>by show den (ve _ (Lb sl[i]?))=sN (N5 O sl f i e st (Lb sl[i]?)) _ _;induction Lb sl[i]? with|none=>rfl|some x=>induction x with|o k=>rfl|v x=>cases x with|int x=>exact (La O e _ _ _).trans (Jx λy st=>by show den (aF (rz f (.int x) y) _)=sN (Hi ((rz f (.int x) y).bind λz=>put sl i (.a (.v z))) st) _ _;induction rz f (.int x) y with|none=>rfl|some z=>exact Ho)| _=>rfl
 | .app i e,sl,st,K,k=>by show den (ve _ sl[i]?)=sN (M5 O sl i e st sl[i]?) _ _;induction sl[i]? with|none=>rfl|some s=>induction s with|own l=>exact (La O e _ _ _).trans (Jx λy st=>by show den (aL (tf l y) λl=>K (sl.set i (.own l)) st)=sN (Ak sl i (tf l y) st) (λsl st=>den (K sl st)) _;induction tf l y<;>rfl)| _=>rfl
 | .ext i e,sl,st,K,k=>by show den (ve _ sl[i]?)=sN (O5 O sl i e st sl[i]?) _ _;induction sl[i]? with|none=>rfl|some s=>induction s with|own l=>exact (La O e _ _ _).trans (Jx λy st=>by show den (aL (Pg l y) λl=>K (sl.set i (.own l)) st)=sN (Ak sl i (Pg l y) st) (λsl st=>den (K sl st)) _;induction Pg l y<;>rfl)| _=>rfl
 | .exp e,k,p,q,r=>(La O e _ _ _).trans (kB λk k=>rfl)| .ifs c a b,k,p,q,r=>(La O c _ _ _).trans (Jx λx st=>by
   cases x with
   |bool u=>induction u with|true=>exact ig u O n a _ _ _ _|false=>exact ig u O n b _ _ _ _
   | _=>rfl)
 | .fors d it b,sl,st,K,H=>eW (K:=λl st=>br u (oA (mS u O n b) d K l sl st) (aS (runs (ua O n b) d l sl st) K H)) (λl st=>by induction u with|false=>exact rn|true=>exact vw (λsl st K H=>ig true O n b sl st K H) l sl st) it| .ret e,k,p,q,r=>(La O e _ _ _).trans (kB λk k=>rfl)| .brk,k,p,q,r=>rfl| .rai e,k,p,q,r=>(La O e _ _ _).trans (Jx λk k=>rfl)| .share ..,k,p,q,r=>rn| .rvs k,p,q,r,j=>rn| .oapp ..,k,p,q,r=>rn| .whl ..,k,p,q,r=>rn| .bad,k,p,q,r=>rfl| .tryr i e,sl,st,K,k=>(jE rfl _).trans (by
   rw [La];show _=sN (match pa O e sl st with|some (.ok x,st)=>some (.ret x,sl,st)|some (.error (.tup [t,k]),st)=>some (.ret (.v (.tup [.lst [],t])),sl,st)| _=>none) _ _;induction pa O e sl st with
   |none=>rfl|some x=>
    obtain ⟨x,st⟩:=x;induction x with
    |ok x=>rfl|error t=>cases t with
     |tup l=>induction l with|nil=>rfl|cons k l=>induction l with|nil=>rfl|cons k l=>induction l<;>rfl
     | _=>rfl)
def zj:sN r (λsl st=>den (Ad sl st)) (λsl st=>den (Rc sl st))=r:=by induction r with|none=>rfl|some x=>obtain ⟨x,sl,st⟩:=x;induction x<;>rfl
def Gh(fs:List Fact)(c:Q):List (Option An)×Bb:=(qs fs c,den (Qg fs c))
def run_eq(h:Gh fs c=(ms fs,r)):den c=r:=(dv fs c (congrArg Prod.fst h)).trans (congrArg Prod.snd h)
def ji(fs:List Fact)(c:Q):List (Option An)×Res AV:=(qs fs c,Jc (den (Qg fs c)))
def xv(h:ji fs c=(ms fs,r)):Jc (den c)=r:=(congrArg Jc (dv fs c (congrArg Prod.fst h))).trans (congrArg Prod.snd h)
section
def qS(u:Bool)(fs:List Fact)(h:Gh fs (mS u O n s sl st Ad Rc)=(ms fs,r)):ua O n s sl st=r:=zj.symm.trans ((ig u O n s sl st Ad Rc).symm.trans (run_eq h))
def qF(u:Bool)(fs:List Fact)(h:ji fs (mS u O n s sl st Ad Rc)=(ms fs,r)):Jc (ua O n s sl st)=r:=(congrArg Jc (zj.symm.trans (ig u O n s sl st Ad Rc).symm)).trans (xv h)
def Kh(fs:List Fact)(h:ji fs (mE O e sl st (mW sl))=(ms fs,r):=by kernel_rfl):pa O e sl st=r:=by have h:=xv h;rw [La] at h;rw [<-h];induction pa O e sl st with|none=>rfl|some x=>obtain ⟨x,st⟩:=x;induction x<;>rfl
def mC(u:Bool)(O:wb)(n:Nat)(f:Fn)(a:List AV)(st:ia):Q:=br ((Nk f a).length==f.npar) (mS u O n f.body ((Nk f a).map Slot.a++replicate (f.nslot-f.npar) Slot.u) st Ad Rc) (.done none)
def oS:Ed O n f a st=Jc (den (mC u O n f a st)):=by unfold mC;rw [XD];induction (Nk f a).length==f.npar with|false=>rfl|true=>exact congrArg Jc (zj.symm.trans (ig u O n f.body _ st Ad Rc).symm)
def qC(u:Bool)(fs:List Fact)(h:ji fs (mC u O n f args st)=(ms fs,r)):Ed O n f args st=r:=oS.trans (xv h)
def SI:Bb->List Slot|some (x,sl,a)=>sl|none=> []
def wE:Bb->FV|some (.exc (.tup [x,w]),a)=>w|x=> .none
def qN(u:Bool){n:Nat}{Z:List Slot->Prop}(fs:List Fact)(a:Z (SI (den (Qg fs (mS u O n s sl st Ad Rc)))))(h:Gh fs (mS u O n s sl st Ad Rc)=(ms fs,some (.next,SI (den (Qg fs (mS u O n s sl st Ad Rc))),st))):∃sl',ua O n s sl st=some (.next,sl',st)/\Z sl':=⟨_,qS u fs h,a⟩
def qX(u:Bool)(fs:List Fact)(h:Gh fs (mS u O n s sl st Ad Rc)=(ms fs,some (.exc (.tup [.int i,wE (den (Qg fs (mS u O n s sl st Ad Rc)))]),SI (den (Qg fs (mS u O n s sl st Ad Rc))),st))):∃w sl',ua O n s sl st=some (.exc (.tup [.int i,w]),sl',st):=⟨_,_,qS u fs h⟩
def bc(fs:List Fact)(h:Gh fs (mS false O n s sl st Ad Rc)=(ms fs,r):=by kernel_rfl):ua O n s sl st=r:=qS false fs h
def oj(fs:List Fact)(h:ji fs (mS false O n s sl st Ad Rc)=(ms fs,r):=by kernel_rfl):Jc (ua O n s sl st)=r:=qF false fs h
def NI(fs:List Fact)(h:ji fs (mS true O n s sl st Ad Rc)=(ms fs,r):=by kernel_rfl):Jc (ua O n s sl st)=r:=qF true fs h
def Ni(fs:List Fact)(h:ji fs (mC false O n f args st)=(ms fs,r):=by kernel_rfl):Ed O n f args st=r:=qC false fs h
def rtC(fs:List Fact)(h:ji fs (mC true O n f args st)=(ms fs,r):=by kernel_rfl):Ed O n f args st=r:=qC true fs h
def qd{n:Nat}{Z:List Slot->Prop}(fs:List Fact)(a:Z (SI (den (Qg fs (mS false O n s sl st Ad Rc)))))(h:Gh fs (mS false O n s sl st Ad Rc)=(ms fs,some (.next,SI (den (Qg fs (mS false O n s sl st Ad Rc))),st)):=by kernel_rfl):∃sl',ua O n s sl st=some (.next,sl',st)/\Z sl':=qN false fs a h
def Oi(fs:List Fact)(h:Gh fs (mS false O n s sl st Ad Rc)=(ms fs,some (.exc (.tup [.int i,wE (den (Qg fs (mS false O n s sl st Ad Rc)))]),SI (den (Qg fs (mS false O n s sl st Ad Rc))),st)):=by kernel_rfl):∃w sl',ua O n s sl st=some (.exc (.tup [.int i,w]),sl',st):=qX false fs h
def rtR(fs:List Fact)(h:Gh fs (oA (mS true O n c) a Ad l sl st)=(ms fs,r):=by kernel_rfl):runs (ua O n c) a l sl st=r:=zj.symm.trans ((vw (G:=λsl st=>den (Rc sl st)) (λsl st K H=>ig true O n c sl st K H) l sl st).symm.trans (run_eq h))
def wR:Res AV->FV|some (.error (.tup [x,w]),a)=>w|x=> .none
def dJ(fs:List Fact)(h:ji fs (mC false O n f args st)=(ms fs,some (.error (.tup [.int i,wR (Jc (den (Qg fs (mC false O n f args st))))]),st)):=by kernel_rfl):∃w,Ed O n f args st=some (.error (.tup [.int i,w]),st):=⟨_,qC false fs h⟩
end
def jy(u:Bool)(n:Nat)(a:List AV)(st:ia):Option Fn->Q|some fn=>mC u (ja n) 2000 fn a st|none=> .done none
section
variable {n f c m:Nat} {args:List AV} {st:ia} {r:Res AV}
def oM:∀{o:Option Fn},(match o with|some fn=>Ed (ja n) 2000 fn args st|none=>none)=Jc (den (jy u n args st o))|none=>rfl|some fn=>oS
def jY(fs:List Fact):ji fs (jy u n args st o)=(ms fs,r)->(match o with|some fn=>Ed (ja n) 2000 fn args st|none=>none)=r:=λh=>oM.trans (xv h)
def xa(fs:List Fact)(h:ji fs (jy false n args st Bi[f]?)=(ms fs,r):=by kernel_rfl):(ja (n+1)).call f args st=r:=(Uh ..).trans (jY fs h)
def Qh(fs:List Fact)(h:ji fs (jy true n args st Bi[f]?)=(ms fs,r):=by kernel_rfl):(ja (n+1)).call f args st=r:=(Uh ..).trans (jY fs h)
def Rh(fs:List Fact)(h:ji fs (jy false n args st (Dn c m))=(ms fs,r):=by kernel_rfl):(ja (n+1)).meth c m args st=r:=(Zh ..).trans (jY fs h)
def gT:den (aS R (λsl st=>mS false O N b sl st Ad Rc) Rc)=Ko O N b R:=by
 rw [rn];induction R with
 |none=>rfl|some x=>
  obtain ⟨x,sl,st⟩:=x;induction x with
  |next=>exact (ig false O N b _ _ _ _).trans zj
  | _=>rfl
def RS(fs:List Fact)(k:Nat)(a:Jc (Ko (ja n) 2000 b R)=r)(h:(qs fs (jy false n args st Bi[f]?),QD k (Qg fs (jy false n args st Bi[f]?)))=(ms fs,aS R (λsl st=>mS false (ja n) 2000 b sl st Ad Rc) Rc):=by kernel_rfl):(ja (n+1)).call f args st=r:=(Uh ..).trans (oM.trans ((congrArg Jc ((dv fs _ (congrArg Prod.fst h)).trans ((wz k _).symm.trans ((congrArg den (congrArg Prod.snd h)).trans gT)))).trans a))
def Jd{N:Nat}{c:S}(hb:bindL a x sl=some sl1)(h:ua O N c sl1 st=q):runs (ua O N c) a (x::l) sl st=fN O N a c l q:=by rw [AG,hb,<-h];rfl
end
def bS:S->Bool| .whl x a=>true|x=>false
def ye:S->S×S| .seq a b=>br (bS a) (.skip,.seq a b) (.seq a (ye b).1,(ye b).2)|s=>(.skip,s)
def lO:∀{s:S} {sl:List Slot} {st:ia},ua O n s sl st=Ko O n (ye s).2 (ua O n (ye s).1 sl st):=by
 intro s;induction s with
 |seq a b x c=>
  intro sl st;show _=Ko O n (br (bS a) (S.skip,S.seq a b) (.seq a (ye b).1,(ye b).2)).2 (ua O n (br (bS a) (S.skip,S.seq a b) (.seq a (ye b).1,(ye b).2)).1 sl st);induction bS a with
  |true=>rfl|false=>
   show Ko O n b (ua O n a sl st)=Ko O n (ye b).2 (Ko O n (ye b).1 (ua O n a sl st));induction ua O n a sl st with
   |none=>rfl|some y=>
    obtain ⟨y,sl,st⟩:=y;induction y with
    |next=>exact c
    | _=>rfl
 | _=>intros;rfl
section
variable (n:Nat) (l:List AV) (st:ia)
def Oab:(ja (n+1)).call 11 l st=Ed (ja n) 2000 yh l st:=Uh n _ l st
def Pab:(ja (n+1)).call 15 l st=Ed (ja n) 2000 xh l st:=Uh n _ l st
def pv:(ja (n+1)).meth 0 6 l st=Ed (ja n) 2000 Qj l st:=Zh n _ _ l st
def Cy:(ja (n+1)).meth 0 7 l st=Ed (ja n) 2000 Ah l st:=Zh n _ _ l st
def z5:(ja (n+1)).meth 2 0 l st=Ed (ja n) 2000 Ei l st:=Zh n _ _ l st
def A5:(ja (n+1)).meth 3 0 l st=Ed (ja n) 2000 ij l st:=Zh n _ _ l st
end
section
variable (n:Nat)
def cac:(ja n).glob 56=some (.lst [(.int 65),(.int 233),(.int 8364),(.int 128512),(.int 1114111),(.int 65279),(.int 0),(.int 65533)]):=rfl
end
section
variable {r r':Res AV} {O:wb} {sl sl':List Slot} {st st':ia} {a b es:E} {i m n:Nat} {x y t:FV} {u v v':Bool} {k k':Int} {z:AV} {zs:List AV} {op:Operator} {cp p q:CmpOp} {o o':Option Int} {f:FV->Option FV} {g:FV->Option (List FV)} {fs:List (Nat×AV)} {ts:List (Nat×Bool)} {tt:List T} {tn:List Nat} {l lf:List FV} {A B:S} {s s':Bb} {s0:Slot} {bb:List Slot->ia->Bb}
def aQ:fN O n tn A l (some (.next,sl,st))=runs (ua O n A) tn l sl st:=rfl
def C5:VW O st n tn A l (some sl)=fN O n tn A l (ua O n A sl st):=rfl
def cO(x y:c):br true x y=x:=rfl
def bO(x y:c):br false x y=y:=rfl
def oG{a b:List Nat}(h:a.length+b.length<=big):Ia .Add (.bytes a) (.bytes b)=some (.bytes (a++b)):=by show (gd (decide (a.length+b.length<=big)) _).or _=_;rw [decide_eq_true h];rfl
def xo{a b:List FV}(h:a.length+b.length<=big):Ia .Add (.lst a) (.lst b)=some (.lst (a++b)):=by show gd (decide (a.length+b.length<=big)) _=_;rw [decide_eq_true h];rfl
def MK:Ia .BitAnd (.int k) (.int k')=some (.int (bitAnd k k')):=rfl
def uS(h:k'≠0):Ia .Mod (.int k) (.int k')=some (.int (k.fmod k')):=by show gd (!decide (k'=0)) _=_;rw [decide_eq_false h];rfl
def uv(h:0<k')(h':k'<1073741824):Ia .FloorDiv (.int k) (.int k')=some (.int (k.fdiv k')):=by show gd (!decide (k'=0)&&decide (k'.natAbs<1073741824)) _=_;rw [decide_eq_false (show k'≠0 by lia),decide_eq_true (show k'.natAbs<1073741824 by lia)];rfl
def jb(h:small k=true)(h':small k'=true):Ia .Mult (.int k) (.int k')=some (.int (k*k')):=by show gd (small k&&small k') _=_;rw [h,h'];rfl
def AD(h:0<=k'):Ia .RShift (.int k) (.int k')=some (.int (k.fdiv (2^k'.toNat))):=by show gd (decide (0<=k')) _=_;rw [decide_eq_true h];rfl
def tc(h:0<=k')(c:k'<=64)(h':small k=true):Ia .LShift (.int k) (.int k')=some (.int (k*2^k'.toNat)):=by show gd (decide (0<=k')&&decide (k'<=64)&&small k) _=_;rw [decide_eq_true h,decide_eq_true c,h'];rfl
end
section
variable (n:Nat) (st:ia)
noncomputable def Ib(c:Int):Bool:=decide (56320<=c)&&decide (c<=57343)
noncomputable def Ua(c:Int):Bool:=decide (55296<=c)&&decide (c<=56319)
def gL(c:Int):(ja (n+1)).call 0 [.v (.int c)] st=some (.ok (.v (.bool (decide (0<=c)&&decide (c<=1114111)))),st):=xa []
def Hj(c:Int):(ja (n+1)).call 1 [.v (.int c)] st=some (.ok (.v (.bool (Ua c))),st):=xa []
def Wy(c:Int):(ja (n+1)).call 2 [.v (.int c)] st=some (.ok (.v (.bool (Ib c))),st):=xa []
def xq(c:Int):(ja (n+1)).call 3 [.v (.int c)] st=some (.ok (.v (.bool (decide (55296<=c)&&decide (c<=57343)))),st):=xa []
noncomputable def isScalar(c:Int):Bool:=(decide (0<=c)&&decide (c<=1114111))&& !(decide (55296<=c)&&decide (c<=57343))
def bf(c:Int):(ja (n+2)).call 4 [.v (.int c)] st=some (.ok (.v (.bool (isScalar c))),st):=by have a:=gL n st c;have b:=xq n st c;unfold isScalar;generalize (decide (0<=c)&&decide (c<=1114111))=u at a|-;generalize (decide (55296<=c)&&decide (c<=57343))=v at b|-;induction u with|false=>exact xa [.R 0 a]|true=>induction v with|false=>exact xa [.R 0 a,.R 1 b]|true=>exact xa [.R 0 a,.R 1 b]
end
def Fg(b:0<=x)(a:0<=k):0<=bitAnd x k/\bitAnd x k<=k/\bitAnd x k<=x:=by rw [bitAnd_pp b a];have c:=and_le_right (n:=x.toNat) (m:=k.toNat);have d:=and_le_left (n:=x.toNat) (m:=k.toNat);lia
def OK(b:0<=x)(a:0<=k):0<=bitOr x k/\bitOr x k<=x+k:=by rw [bitOr_and];have:=Fg b a;lia
def Kc(b:0<=x)(a:x<18446744073709551616):small x=true:=by rw [Yb];unfold Qy;rw [decide_eq_true (by lia),decide_eq_true a];rfl
def Oc(a:l.length<=big):Rg (.bytes l)=some (.int (l.length:Int)):=by unfold Rg Iw;dsimp only;rw [if_pos a]
def jS(a:l.length<=big):Rg (.lst l)=some (.int (l.length:Int)):=by unfold Rg Iw;dsimp only;rw [if_pos a]
structure At{α:Type}(l:List α)(i:Nat)(r:List α):Prop where
 big:l.length<=big
 eq:l.drop i=r
 le:i<=l.length
def At.len(h:At l i r):l.length=i+r.length:=by have:=h.le;rw [<-h.eq,length_drop];lia
def At.idx{i k o:Nat}(h:At l i r)(b:r[k]? =some o)(a:j=(i:Int)+(k:Int)):jc (.bytes l) j=some (.int o):=by subst a;unfold jc;rw [if_neg (by lia),show ((i:Int)+(k:Int)).toNat=i+k by lia];dsimp only;rw [if_pos h.big,<-getElem?_drop,h.eq,b];rfl
def At.next(h:At l i (o::r)):At l (i+1) r:=by have:=h.len;rw [length_cons] at this;exact ⟨h.big,by rw [<-drop_drop,h.eq];rfl,by lia⟩
def At.go(h:At l i (q++r)):At l (i+q.length) r:=by have:=h.len;rw [length_append] at this;exact ⟨h.big,by rw [<-drop_drop,h.eq,drop_left],by lia⟩
noncomputable abbrev P3:=Nat×Option Int×Str
noncomputable def oi:Option Int->FV|none=> .none|some c=> .int c
def p3(x:P3):FV:= .tup [.int x.1,oi x.2.1,.str x.2.2]
def Xc(c:Nat):Nat->Nat->Int->Int->Int->List Nat->P3|0,x,code,a,y,b=>(c,some code,c3)|x+1,d,a,y,b,[]=>(d,none,Rk)|m+1,d,code,f,e,o::r=>br (decide (f<=o)&&decide ((o:Int)<=e)) (Xc c m (d+1) (bitOr (code*64) (bitAnd o 63)) 128 191 r) (d,none,PL)
def Lo{code b a:Int}:Xc many (m+1) bh code b a (o::r)=br (decide (b<=o)&&decide ((o:Int)<=a)) (Xc many m (bh+1) (bitOr (code*64) (bitAnd o 63)) 128 191 r) (bh,none,PL):=rfl
def O4:S:=(.seq (.ifs (.cmp .GtE (.bin .Add (.var 1) (.var 7)) (.len (.var 0))) (.seq (.ret (.tup (.cons (.var 7) (.cons (.cst .none) (.cons (.glob 46) .nil))))) .skip) .skip) (.seq (.asg 8 (.idx (.var 0) (.bin .Add (.var 1) (.var 7)))) (.seq (.ifs (.not (.cmp2 .LtE .LtE (.var 4) (.var 8) (.var 5))) (.seq (.ret (.tup (.cons (.var 7) (.cons (.cst .none) (.cons (.glob 45) .nil))))) .skip) .skip) (.seq (.asg 6 (.bin .BitOr (.bin .LShift (.var 6) (.cst (.int 6))) (.bin .BitAnd (.var 8) (.cst (.int 63))))) (.seq (.asgs [(4,false),(5,false)] (.cons (.cst (.int 128)) (.cons (.cst (.int 191)) .nil))) .skip)))))
def fad:S:=(.seq (.ret (.tup (.cons (.var 3) (.cons (.var 6) (.cons (.cst (.str c3)) .nil))))) .skip)
abbrev S8(l:List Nat)(at':Nat)(L:Slot)(M b a code:Int)(c d:Slot):List Slot:= [.a (.v (.bytes l)),.a (.v (.int at')),L,.a (.v (.int M)),.a (.v (.int b)),.a (.v (.int a)),.a (.v (.int code)),c,d]
theorem TK(n a at':Nat)(st:ia)(l:List Nat)(L:Slot):∀(m d:Nat) (code g f:Int) (r:List Nat) (t p:Slot),At l (at'+d) r->0<=code->code<128*64^d->d+m<=4->Jc (Ko (ja n) 2000 fad (runs (ua (ja n) 2000 O4) [7] ((range' d m).map λ(k:Nat)=>FV.int (k:Int)) (S8 l at' L a g f code t p) st))=
   some (.ok (.v (p3 (Xc a m d code g f r))),st)
 |0,d,code,g,f,r,t,p,y,b,z,c=>oj []|m+1,d,code,g,f,r,t,p,hA,w,B,hb=>by
  have e:=Oc hA.big;have u:=hA.len;rw [range'_succ];induction r with
  |nil=>have i:decide ((l.length:Int)<=(at':Int)+(d:Int))=true:=decide_eq_true (by simp at u;lia);exact congrArg (λq=>Jc (Ko _ _ _ q)) (Jd (sl1:=S8 l at' L a g f code (.a (.v (.int d))) p) (q:=some (.ret (.v (p3 (d,none,Rk))),S8 l at' L a g f code (.a (.v (.int d))) p,st)) rfl (bc [.F 1 e,.B 1 i]))|cons o r=>
   have i:decide ((l.length:Int)<=(at':Int)+(d:Int))=false:=decide_eq_false (by rw [length_cons] at u;lia);have s:=hA.idx (k:=0) (j:=(at':Int)+(d:Int)) rfl (by lia);induction q:(decide (g<=(o:Int))&&decide ((o:Int)<=f)) with
   |false=>rw [Lo,q];exact congrArg (λq=>Jc (Ko _ _ _ q)) (Jd (sl1:=S8 l at' L a g f code (.a (.v (.int d))) p) (q:=some (.ret (.v (p3 (d,none,PL))),S8 l at' L a g f code (.a (.v (.int d))) (.a (.v (.int o))),st)) rfl (bc [.F 1 e,.B 1 i,.F 2 s,.B 1 q]))|true=>
    have A:small code=true:=Kc w (by
     have:(64:Int)^d<=64^3:=by rcases (by lia:d=0\/d=1\/d=2\/d=3) with h|h|h|h<;>subst h<;>decide
     lia)
    have v:=Fg (x:=(o:Int)) (k:=63) (by lia) (by decide);have a2:=OK (x:=code*64) (by lia) v.1;rw [Lo,q];exact (congrArg (λq=>Jc (Ko _ _ _ q)) (Jd (sl1:=S8 l at' L a g f code (.a (.v (.int d))) p) (q:=some (.next,S8 l at' L a 128 191 (bitOr (code*64) (bitAnd o 63)) (.a (.v (.int d))) (.a (.v (.int o))),st)) rfl (bc [.F 1 e,.B 1 i,.F 2 s,.B 1 q,.F 2 (tc (k':=6) (by decide) (by decide) A)]))).trans (TK n a at' st l L m (d+1) _ 128 191 r _ _ hA.next a2.1 (by rw [Int.pow_succ];lia) (by lia))
def Xa(o:Nat)(r:List Nat):P3:=br (decide ((o:Int)<128)) (1,some (o:Int),c3) (br (decide (194<=(o:Int))&&decide ((o:Int)<=223)) (Xc 2 1 1 (bitAnd o 31) 128 191 r)
  (br (decide (224<=(o:Int))&&decide ((o:Int)<=239)) (Xc 3 2 1 (bitAnd o 15) (br ((o:Int)==224) 160 128) (br ((o:Int)==237) 159 191) r)
   (br (decide (240<=(o:Int))&&decide ((o:Int)<=244)) (Xc 4 3 1 (bitAnd o 7) (br ((o:Int)==240) 144 128) (br ((o:Int)==244) 143 191) r) (1,none,br (decide ((o:Int)<192)) LV MV))))
def om(n at':Nat)(st:ia)(l:List Nat)(o:Nat)(r:List Nat)(hA:At l at' (o::r)):(ja (n+2)).call 41 [.v (.bytes l),.v (.int at')] st=some (.ok (.v (p3 (Xa o r))),st):=by
 have a:=hA.idx (k:=0) (j:=at') rfl (Int.add_zero _).symm;unfold Xa;induction c:decide ((o:Int)<128) with|true=>have e:(ja (n+1)).call 40 [.v (.int o)] st=some (.ok (.v (.tup [.int 1,.int 0,.int 0])),st):=xa [.B 1 c];exact xa [.F 0 a,.R 0 e,.F 6 a]|false=>
 induction d:decide (194<=(o:Int))&&decide ((o:Int)<=223) with|true=>have e:(ja (n+1)).call 40 [.v (.int o)] st=some (.ok (.v (.tup [.int 2,.int 128,.int 191])),st):=xa [.B 1 c,.B 2 d];have b:=Fg (x:=(o:Int)) (k:=31) (by lia) (by decide);exact RS [.F 0 a,.R 0 e,.F 6 a] 3 (TK (n+1) 2 at' st l (.a (.v (.tup [.int 2,.int 128,.int 191]))) 1 1 (bitAnd o 31) 128 191 r .u .u hA.next b.1 (by lia) (by decide))|false=>
 induction g:decide (224<=(o:Int))&&decide ((o:Int)<=239) with
 |true=>
  have e:(ja (n+1)).call 40 [.v (.int o)] st=some (.ok (.v (.tup [.int 3,.int (br ((o:Int)==224) 160 128),.int (br ((o:Int)==237) 159 191)])),st):=by induction h:(o:Int)==224<;>induction f:(o:Int)==237<;>exact xa [.B 1 c,.B 2 d,.B 2 g,.B 3 h,.B 2 f]
  have b:=Fg (x:=(o:Int)) (k:=15) (by lia) (by decide);exact RS [.F 0 a,.R 0 e,.F 6 a] 3 (TK (n+1) 3 at' st l (.a (.v (.tup [.int 3,.int (br ((o:Int)==224) 160 128),.int (br ((o:Int)==237) 159 191)]))) 2 1 (bitAnd o 15) (br ((o:Int)==224) 160 128) (br ((o:Int)==237) 159 191) r .u .u hA.next b.1 (by lia) (by decide))
 |false=>
 induction f:decide (240<=(o:Int))&&decide ((o:Int)<=244) with
 |true=>
  have e:(ja (n+1)).call 40 [.v (.int o)] st=some (.ok (.v (.tup [.int 4,.int (br ((o:Int)==240) 144 128),.int (br ((o:Int)==244) 143 191)])),st):=by induction h:(o:Int)==240<;>induction i:(o:Int)==244<;>exact xa [.B 1 c,.B 2 d,.B 2 g,.B 2 f,.B 3 h,.B 2 i]
  have b:=Fg (x:=(o:Int)) (k:=7) (by lia) (by decide);exact RS [.F 0 a,.R 0 e,.F 6 a] 3 (TK (n+1) 4 at' st l (.a (.v (.tup [.int 4,.int (br ((o:Int)==240) 144 128),.int (br ((o:Int)==244) 143 191)]))) 3 1 (bitAnd o 7) (br ((o:Int)==240) 144 128) (br ((o:Int)==244) 143 191) r .u .u hA.next b.1 (by lia) (by decide))
 |false=>have e:(ja (n+1)).call 40 [.v (.int o)] st=some (.ok (.v .none),st):=xa [.B 1 c,.B 2 d,.B 2 g,.B 2 f];induction i:decide ((o:Int)<192)<;>exact xa [.F 0 a,.R 0 e,.F 3 a,.B 1 i]
noncomputable abbrev Er:=Int
section
variable {α σ:Type}
abbrev kc(α σ:Type):=σ->α->List α->Except Er (List FV×Nat×σ)
def pre(a:List FV):Except Er (List FV×σ)->Except Er (List FV×σ)| .ok (l,s)=> .ok (a++l,s)| .error e=> .error e
def scK(i:Int)(k:Nat->Int->σ->Except Er (List FV×σ)):Except Er (List FV×Nat×σ)->Except Er (List FV×σ)| .ok (a,j,s')=>pre a (k j (i+j+1) s')| .error d=> .error (i+d)
def scan(step:kc α σ):Nat->Int->σ->List α->Except Er (List FV×σ)|0,x,s,y=> .ok ([],s)|f+1,i,s,r=>match r with| []=> .ok ([],s)|o::r=>scK i (λj a b=>scan step f a b (r.drop j)) (step s o r)
def WG(step:kc α σ)(f:Nat)(i:Int)(s:σ):scan step f i s []= .ok ([],s):=by induction f<;>rfl
def dm(step:kc α σ)(f:Nat)(i:Int)(s:σ)(o:α)(r:List α):scan step (f+1) i s (o::r)=scK i (λj a b=>scan step f a b (r.drop j)) (step s o r):=rfl
def sc(step:kc α σ)(i:Int)(s:σ)(r:List α):Except Er (List FV×σ):=scan step r.length i s r
theorem FC(step:kc α σ):∀(f g:Nat) (i:Int) (s:σ) (r:List α),r.length<=f->r.length<=g->scan step f i s r=scan step g i s r|a,y,b,z,[],c,u=>(WG ..).trans (WG ..).symm|0,a,y,b,z::c,h,u=>by simp at h|a+1,0,y,b,z::c,u,h=>by simp at h|f+1,g+1,i,s,o::r,j,l=>by simp only [length_cons,Nat.add_le_add_iff_right] at j l;rw [dm,dm];induction step s o r with|error e=>rfl|ok x=>obtain ⟨d,k,s'⟩:=x;exact congrArg (pre d) (FC step f g _ s' (r.drop k) (by rw [length_drop];lia) (by rw [length_drop];lia))
def Ck(step:kc α σ)(i:Int)(s:σ):sc step i s []= .ok ([],s):=rfl
def Ud{step:kc α σ}(h:step s o r= .ok (a,k,s')):sc step i s (o::r)=pre a (sc step (i+k+1) s' (r.drop k)):=by unfold sc;rw [length_cons];rw [dm,h];exact congrArg (pre a) (FC step r.length (r.drop k).length _ _ _ (by rw [length_drop];lia) (Nat.le_refl _))
def fg{step:kc α σ}(h:step s o r= .error d):sc step i s (o::r)= .error (i+d):=by unfold sc;rw [length_cons];rw [dm,h];rfl
def Wf(step:kc α σ):Prop:=∀s o r a k s',step s o r= .ok (a,k,s')->k<=r.length/\a.length<=2*(k+1)
def join(x:Except Er (List FV×σ))(f:σ->Except Er (List FV×σ)):Except Er (List FV×σ):=match x with| .ok (l,s)=>pre l (f s)| .error e=> .error e
def tG(a:List FV)(x:Except Er (List FV×σ))(f:σ->Except Er (List FV×σ)):pre a (join x f)=join (pre a x) f:=by induction x with|error e=>rfl|ok x=>obtain ⟨l,s⟩:=x;simp only [join,pre];induction f s with|error e=>rfl|ok y=>simp only [append_assoc]
def II(x:Except Er (List FV×σ)):pre [] x=x:=by induction x with|error e=>rfl|ok x=>rfl
theorem VG{step:kc α σ}(W:Wf step)(H:∀s o r,step s o (r++t)=step s o r):∀(n:Nat) (i:Int) (s:σ) (r:List α),r.length<=n->sc step i s (r++t)=join (sc step i s r) λs'=>sc step (i+r.length) s' t|a,i,s,[],y=>by rw [Ck];rw [nil_append,length_nil,show i+((0:Nat):Int)=i from Int.add_zero i];exact (II _).symm|0,a,y,b::z,h=>by simp at h|n+1,i,s,o::r,h=>by simp only [length_cons,Nat.add_le_add_iff_right] at h;induction q:step s o r with|error d=>rw [cons_append,fg (H s o r▸q),fg q];rfl|ok x=>obtain ⟨e,k,s'⟩:=x;have c:=(W _ _ _ _ _ _ q).1;rw [cons_append,Ud ((H s o r).trans q),Ud q,drop_append_of_le_length c,VG W H n _ s' (r.drop k) (by rw [length_drop];lia),tG];congr 1;funext s'';congr 1;rw [length_drop,length_cons];lia
def sh(a:Int):Except Er (List FV×σ)->Except Er (List FV×σ)| .ok x=> .ok x| .error d=> .error (a+d)
def aN(a:Int)(b:List FV)(x:Except Er (List FV×σ)):pre b (sh a x)=sh a (pre b x):=by induction x with|error e=>rfl|ok x=>rfl
theorem Av{step:kc α σ}(a:Int):∀(n:Nat) (i:Int) (s:σ) (r:List α),r.length<=n->sc step (a+i) s r=sh a (sc step i s r)|y,b,z,[],c=>rfl|0,y,b,z::c,h=>by simp at h|n+1,i,s,o::r,h=>by simp only [length_cons,Nat.add_le_add_iff_right] at h;induction q:step s o r with|error d=>rw [fg q,fg q];simp only [sh];rw [Int.add_assoc]|ok x=>obtain ⟨e,k,s'⟩:=x;rw [Ud q,Ud q,show a+i+(k:Int)+1=a+(i+k+1) by lia,Av a n _ s' (r.drop k) (by rw [length_drop];lia),aN]
theorem Pu{step:kc α σ}(Inv:Int->σ->List FV->List Slot->Prop)(W:Wf step)(G:∀i s fd sl,At l i []->Inv i s fd sl->c sl st=some (.ok (.v (.bool false)),st)) (H:∀i s fd sl o r,At l i (o::r)->Inv i s fd sl->c sl st=some (.ok (.v (.bool true)),st))(hb:∀i s fd sl o r,At l i (o::r)->Inv i s fd sl->fd.length<=2*i->match step s o r with| .ok (O,k,s')=>∃sl',b sl st=some (.next,sl',st)/\Inv (i+k+1) s' (fd++O) sl'| .error d=>∃w sl',b sl st=some (.exc (.tup [.int (i+d),w]),sl',st)):
  ∀(n N i:Nat) (s:σ) (fd:List FV) (sl:List Slot) (r:List α),r.length<=n->r.length<N->At l i r->Inv i s fd sl->fd.length<=2*i->match sc step i s r with| .ok (X,s')=>∃sl',loops c b N sl st=some (.next,sl',st)/\Inv (i+r.length) s' (fd++X) sl'| .error e=>∃w sl',loops c b N sl st=some (.exc (.tup [.int e,w]),sl',st)
 |a,0,z,u,t,p,j,m,h,f,g,A=>absurd h (not_lt_zero _)|a,N+1,i,s,fd,sl,[],z,u,hA,F,t=>⟨sl,fh (G i s fd sl hA F),by simpa using F⟩|0,a+1,z,u,t,p,j::m,h,f,g,A,D=>by simp at h|n+1,N+1,i,s,fd,sl,o::r,h,hN,hA,F,hf=>by
  simp only [length_cons,Nat.add_le_add_iff_right,Nat.add_lt_add_iff_right] at h hN;have B:=hb i s fd sl o r hA F hf;have C:=H i s fd sl o r hA F;induction q:step s o r with
  |error d=>rw [q] at B;obtain ⟨w,sl',P⟩:=B;rw [fg q];exact ⟨w,sl',HM C P⟩
  |ok x=>
   obtain ⟨O,k,s'⟩:=x;rw [q] at B;obtain ⟨sl',P,I'⟩:=B;have w:=W _ _ _ _ _ _ q;have V:At l (i+k+1) (r.drop k):=by have:=hA.next;have e:r=r.take k++r.drop k:=(take_append_drop k r).symm;rw [e] at this;have:=this.go;rw [length_take,Nat.min_eq_left w.1] at this;rw [show i+k+1=i+1+k by lia];exact this
   have L:=Pu Inv W G H hb n N (i+k+1) s' (fd++O) sl' (r.drop k) (by rw [length_drop];lia) (by rw [length_drop];lia) V (by simpa using I') (by rw [length_append];lia);rw [Ud q];rw [bp C P];rw [show ((i+k+1:Nat):Int)=(i:Int)+k+1 by lia] at L;induction q2:sc step ((i:Int)+k+1) s' (r.drop k) with|error e=>rw [q2] at L;exact L|ok y=>obtain ⟨X,s''⟩:=y;rw [q2] at L;obtain ⟨M,e2,v⟩:=L;refine ⟨M,e2,?_⟩;rw [append_assoc] at v;rw [length_drop] at v;rw [length_cons];rw [show ((i:Int)+((r.length+1:Nat):Int))=(i:Int)+k+1+((r.length-k:Nat):Int) by lia];exact v
end
noncomputable def lim:Nat:=1000
inductive nV(f:Slot->Slot->List Slot):List Slot->Prop
 |mk (a b:Slot):nV f (f a b)
inductive EL(f:Slot->Slot->Slot->List Slot):List Slot->Prop
 |mk (a b c:Slot):EL f (f a b c)
inductive oV(f:Slot->Slot->Slot->Slot->List Slot):List Slot->Prop
 |mk (a b c d:Slot):oV f (f a b c d)
def Nx(r:Bb)(st:ia)(Q:List Slot->Prop):Prop:=∃sl',r=some (.next,sl',st)/\Q sl'
def Ex(r:Bb)(st:ia)(i:Int):Prop:=∃w sl',r=some (.exc (.tup [.int i,w]),sl',st)
def Out(r:Res AV)(x:Except Er (List FV×b))(st:ia):Prop:=match x with| .ok (l,a)=>r=some (.ok (.v (.lst l)),st)| .error e=>∃w,r=some (.error (.tup [.int e,w]),st)
def At.zero(h:l.length<=lim):At l 0 l:=⟨Nat.le_trans h (by decide),rfl,zero_le _⟩
def At.lt(h:At l i (o::r)):decide ((i:Int)<(l.length:Int))=true:=decide_eq_true (by have:=h.len;rw [length_cons] at this;lia)
def At.end(h:At l i []):decide ((i:Int)<(l.length:Int))=false:=decide_eq_false (by have:=h.len;rw [length_nil] at this;lia)
def pz(r:Res AV)(x:Except Er (List FV×b))(st st':ia):Prop:=match x with| .ok (l,a)=>r=some (.ok (.v (.lst l)),st')| .error e=>∃w,r=some (.error (.tup [.int e,w]),st)
def cM{step:kc z m}(s:m)(Inv:Int->m->List FV->List Slot->Prop)(W:Wf step)(h:l.length<=lim)(p:Inv 0 s [] sl)(f:∀(i:Nat) s fd sl,At l i []->Inv i s fd sl->pa O C sl st=some (.ok (.v (.bool false)),st)) (g:∀(i:Nat) s fd sl o r,At l i (o::r)->Inv i s fd sl->pa O C sl st=some (.ok (.v (.bool true)),st))(hb:∀(i:Nat) s fd sl o r,At l i (o::r)->Inv i s fd sl->(fd.length<big/\fd.length+2*(r.length+1)<=big)->match step s o r with| .ok (n,k,s')=>Nx (ua O N B sl st) st (Inv ((i:Int)+k+1) s' (fd++n))| .error d=>Ex (ua O N B sl st) st ((i:Int)+d))(u:∀s fd sl,Inv l.length s fd sl->Jc (ua O N R sl st)=some (.ok (.v (.lst fd)),st')):
  pz (Jc (Ko O N R (loops (pa O C) (ua O N B) 2000 sl st))) (sc step 0 s l) st st':=by
 have hA:=At.zero h;have L:=Pu (l:=l) (c:=pa O C) (b:=ua O N B) (st:=st) (step:=step) Inv W f g (λi s fd sl o r hA t v=>hb i s fd sl o r hA t (by
  have:=hA.len;rw [length_cons] at this;unfold lim at h;unfold big;lia)) l.length 2000 0 s [] sl l (Nat.le_refl _) (by unfold lim at h;lia) hA p (zero_le _)
 induction q:sc step 0 s l with
 |error e=>rw [show ((0:Nat):Int)=0 from rfl,q] at L;obtain ⟨w,sl',a⟩:=L;rw [a];exact ⟨w,rfl⟩
 |ok x=>obtain ⟨y,s'⟩:=x;rw [show ((0:Nat):Int)=0 from rfl,q] at L;obtain ⟨sl',a,j⟩:=L;rw [a];rw [nil_append,Int.zero_add] at j;exact u s' y sl' j
def Ce:kc Nat Unit:=λx o r=>match Xa o r with|(m,some c,x)=> .ok ([.int c],m-1,())|(x,none,a)=> .error 0
theorem Aq(d:Nat):∀(m e:Nat) (code g f:Int) (r:List Nat),1<=e->e+m=d->1<=(Xc d m e code g f r).1/\(Xc d m e code g f r).1<=e+r.length|0,e,x,a,y,b,h,i=>by simp only [Xc];lia|x+1,a,y,b,z,[],h,c=>by simp only [Xc,length_nil];lia|m+1,e,code,g,f,o::r,h,i=>by have j:=Aq d m (e+1) (bitOr (code*64) (bitAnd o 63)) 128 191 r (by lia) (by lia);simp only [Xc,length_cons];induction (decide (g<=(o:Int))&&decide ((o:Int)<=f))<;>simp only [br]<;>lia
def lh(o:Nat)(r:List Nat):1<=(Xa o r).1/\(Xa o r).1<=1+r.length:=by
 unfold Xa;have t2:=λcode b a=>Aq 2 1 1 code b a r (by lia) rfl;have t3:=λcode b a=>Aq 3 2 1 code b a r (by lia) rfl;have t4:=λcode b a=>Aq 4 3 1 code b a r (by lia) rfl;induction decide ((o:Int)<128) with|true=>simp only [br];lia|false=>
 induction (decide (194<=(o:Int))&&decide ((o:Int)<=223)) with|true=>exact t2 _ _ _|false=>
 induction (decide (224<=(o:Int))&&decide ((o:Int)<=239)) with|true=>exact t3 _ _ _|false=>
 induction (decide (240<=(o:Int))&&decide ((o:Int)<=244)) with|true=>exact t4 _ _ _|false=>simp only [br];lia
def US:Wf Ce:=λs o r e k s' h=>by have:=lh o r;unfold Ce at h;generalize Xa o r=P at h this;obtain ⟨m,c,w⟩:=P;induction c with|none=>injection h|some c=>(injection h with h;injection h with a h;injection h with b d;subst a b d);dsimp only at this;simp only [length_cons,length_nil];lia
noncomputable abbrev zZ(l:List Nat)(fd:List FV)(i:Int)(a b c:Slot):List Slot:= [.a (.v (.bytes l)),.own fd,.a (.v (.int i)),a,b,c]
def mP(n:Nat)(fn:Fn)(a:List AV)(st:ia):Q:=br ((Nk fn a).length==fn.npar) (mS false (ja n) 2000 (ye fn.body).1 ((Nk fn a).map Slot.a++replicate (fn.nslot-fn.npar) Slot.u) st Ad Rc) (.done none)
def pS(hb:(ye fn.body).2=b)(h:Gh fs (mP n fn a st)=(ms fs,some (.next,sl,st))):Ed (ja n) 2000 fn a st=Jc (ua (ja n) 2000 b sl st):=by subst hb;have h:=run_eq h;unfold mP at h;rw [XD];induction e:(Nk fn a).length==fn.npar with|false=>rw [e] at h;injection h|true=>rw [e] at h;have h:=(zj.symm.trans (ig false _ _ _ _ _ _ _).symm).trans h;show Jc (ua _ _ _ _ _)=_;rw [lO,h];rfl
def lS(h:l.length<=big)(c:Lb sl[a]? =some (.v (.int i)))(hb:Lb sl[b]? =some (.v (.bytes l))):pa O (.cmp .Lt (.var a) (.len (.var b))) sl st=some (.ok (.v (.bool (decide (i<(l.length:Int))))),st):=by show eac O sl _ _ (lift (Lb sl[a]?) st)=_;rw [c];show RJ _ _ (kF _ (lift (Lb sl[b]?) st))=_;rw [hb];show RJ _ _ (retV (Rg _) st)=_;rw [Oc h];rfl
def im(h:1<=m):i+((m-1:Nat):Int)+1=i+(m:Int):=by lia
def ap(h:fd.length<big)(x:FV):tf fd x=some (fd++ [x]):=if_pos h
def Bd(O:wb)(B:S)(st:ia)(Inv:Int->b->List FV->List Slot->Prop)(i:Int)(fd:List FV)(sl:List Slot):Except Er (List FV×Nat×b)->Prop| .ok (a,k,s')=>∃j:Int,i+k+1=j/\Nx (ua O 2000 B sl st) st (Inv j s' (fd++a))| .error d=>∃j,i+d=j/\Ex (ua O 2000 B sl st) st j
section
variable {σ:Type} {O:wb} {B:S} {st:ia} {Inv:Int->σ->List FV->List Slot->Prop} {i j d:Int} {k:Nat} {s':σ} {fd cs:List FV} {sl:List Slot}
def Bd.ok(e:i+k+1=j)(h:Nx (ua O 2000 B sl st) st (Inv j s' (fd++cs))):Bd O B st Inv i fd sl (.ok (cs,k,s')):=⟨_,e,h⟩
def Bd.er(e:i+d=j)(h:Ex (ua O 2000 B sl st) st j):Bd O B st Inv i fd sl (.error d):=⟨_,e,h⟩
end
def ZV{step:kc Nat b}(s:b)(Inv:Int->b->List FV->List Slot->Prop)(W:Wf step)(f:l.length<=lim)(c:Inv 0 s [] sl)(e:X=Jc (ua (ja n) 2000 (.seq (.whl C B) R) sl st))(a:∀i s fd sl,Inv i s fd sl->l.length<=big->pa (ja n) C sl st=some (.ok (.v (.bool (decide (i<(l.length:Int))))),st))(hb:∀(i:Nat) s fd sl o r,At l i (o::r)->Inv i s fd sl->(fd.length<big/\fd.length+2*(r.length+1)<=big)->Bd (ja n) B st Inv i fd sl (step s o r))(g:∀s fd sl,Inv l.length s fd sl->Jc (ua (ja n) 2000 R sl st)=some (.ok (.v (.lst fd)),st')):pz X (sc step 0 s l) st st':=by rw [e];exact cM s Inv W f c (λi s fd sl hA j=>hA.end▸a _ _ _ _ j hA.big) (λi s fd sl o r hA j=>hA.lt▸a _ _ _ _ j hA.big) (λi s fd sl o r hA j z=>by have h:=hb i s fd sl o r hA j z;revert h;induction step s o r with|ok x=>exactλh=>h.elim λj h=>(show Nx (ua (ja n) 2000 B sl st) st (Inv ((i:Int)+x.2.1+1) x.2.2 (fd++x.1)) from h.1▸h.2)|error d=>exactλh=>h.elim λj h=>(show Ex (ua (ja n) 2000 B sl st) st ((i:Int)+d) from h.1▸h.2)) g
def Uo{step:kc Nat b}(s:b)(Inv:Int->b->List FV->List Slot->Prop)(W:Wf step)(k:l.length<=lim)(c:Inv 0 s [] sl)(fs:List Fact)(a:∀i s fd sl,Inv i s fd sl->Lb sl[2]? =some (.v (.int i))/\Lb sl[0]? =some (.v (.bytes l)))(hb:∀(i:Nat) s fd sl o r,At l i (o::r)->Inv i s fd sl->(fd.length<big/\fd.length+2*(r.length+1)<=big)->Bd (ja n) B st Inv i fd sl (step s o r))(m:∀s fd sl,Inv l.length s fd sl->Jc (ua (ja n) 2000 R sl st)=some (.ok (.v (.lst fd)),st))(d:Gh fs (mP n fn args st)=(ms fs,some (.next,sl,st)))(g:Bi[f]? =some fn:=by rfl) (e:(ye fn.body).2= .seq (.whl (.cmp .Lt (.var 2) (.len (.var 0))) B) R:=by rfl):
  Out ((ja (n+1)).call f args st) (sc step 0 s l) st:=
 ZV s Inv W k c ((Uh ..).trans (by rw [g];exact pS e d)) (λ_ _ _ _ j h=>lS h (a _ _ _ _ j).1 (a _ _ _ _ j).2) hb m
def eE{step:kc Nat a}(s:a)(Inv:Int->a->List FV->List Slot->Prop)(W:Wf step)(h:l.length<=lim)(b:Inv 0 s [] sl)(fs:List Fact)(g:∀i s fd sl,Inv i s fd sl->l.length<=big->pa (ja n) C sl st=some (.ok (.v (.bool (decide (i<(l.length:Int))))),st))(hb:∀(i:Nat) s fd sl o r,At l i (o::r)->Inv i s fd sl->(fd.length<big/\fd.length+2*(r.length+1)<=big)->Bd (ja n) B st Inv i fd sl (step s o r))(j:∀s fd sl,Inv l.length s fd sl->Jc (ua (ja n) 2000 R sl st)=some (.ok (.v (.lst fd)),st'))(d:Gh fs (mP n fn args st)=(ms fs,some (.next,sl,st)))(f:Dn c m=some fn:=by rfl) (e:(ye fn.body).2= .seq (.whl C B) R:=by rfl):
  pz ((ja (n+1)).meth c m args st) (sc step 0 s l) st st':=
 ZV s Inv W h b ((Zh ..).trans (by rw [f];exact pS e d)) g hb j
section
variable {step:kc Nat Unit} {l:List Nat} {n f:Nat} {fn:Fn} {args:List AV} {B R:S} {st:ia}
def dE(F:List FV->Int->Slot->Slot->Slot->List Slot)(W:Wf step)(k:l.length<=lim)(fs:List Fact)(hb:∀(i:Nat) fd o r a b c,At l i (o::r)->(fd.length<big/\fd.length+2*(r.length+1)<=big)->Bd (ja n) B st (λi _ fd sl=>EL (F fd i) sl) i fd (F fd i a b c) (step () o r))(m:∀fd a b c,Jc (ua (ja n) 2000 R (F fd l.length a b c) st)=some (.ok (.v (.lst fd)),st))(d:Gh fs (mP n fn args st)=(ms fs,some (.next,F [] 0 .u .u .u,st))) (g:Bi[f]? =some fn:=by rfl) (e:(ye fn.body).2= .seq (.whl (.cmp .Lt (.var 2) (.len (.var 0))) B) R:=by rfl)(h:∀fd i a b c,Lb (F fd i a b c)[2]? =some (.v (.int i))/\Lb (F fd i a b c)[0]? =some (.v (.bytes l)):=by intros;exact ⟨rfl,rfl⟩):Out ((ja (n+1)).call f args st) (sc step 0 () l) st:=Uo () (λi x fd sl=>EL (F fd i) sl) W k (.mk .u .u .u) fs (λ_ _ _ _ j=>j.rec λ_ _ _=>h ..) (λi s fd sl o r hA j z=>j.rec λa b c=>hb i fd o r a b c hA z) (λ_ _ _ j=>j.rec λ_ _ _=>m ..) d g e
def YV(F:List FV->Int->Slot->Slot->Slot->Slot->List Slot)(W:Wf step)(m:l.length<=lim)(fs:List Fact)(hb:∀(i:Nat) fd o r a b c d,At l i (o::r)->(fd.length<big/\fd.length+2*(r.length+1)<=big)->Bd (ja n) B st (λi _ fd sl=>oV (F fd i) sl) i fd (F fd i a b c d) (step () o r))(p:∀fd a b c d,Jc (ua (ja n) 2000 R (F fd l.length a b c d) st)=some (.ok (.v (.lst fd)),st))(e:Gh fs (mP n fn args st)=(ms fs,some (.next,F [] 0 .u .u .u .u,st))) (h:Bi[f]? =some fn:=by rfl) (g:(ye fn.body).2= .seq (.whl (.cmp .Lt (.var 2) (.len (.var 0))) B) R:=by rfl)(k:∀fd i a b c d,Lb (F fd i a b c d)[2]? =some (.v (.int i))/\Lb (F fd i a b c d)[0]? =some (.v (.bytes l)):=by intros;exact ⟨rfl,rfl⟩):Out ((ja (n+1)).call f args st) (sc step 0 () l) st:=Uo () (λi x fd sl=>oV (F fd i) sl) W m (.mk .u .u .u .u) fs (λ_ _ _ _ j=>j.rec λ_ _ _ _=>k ..) (λi s fd sl o r hA j z=>j.rec λa b c d=>hb i fd o r a b c d hA z) (λ_ _ _ j=>j.rec λ_ _ _ _=>p ..) e h g
def uJ(F:List FV->Int->Slot->Slot->List Slot)(W:Wf step)(h:l.length<=lim)(fs:List Fact)(hb:∀(i:Nat) fd o r a b,At l i (o::r)->(fd.length<big/\fd.length+2*(r.length+1)<=big)->Bd (ja n) B st (λi _ fd sl=>nV (F fd i) sl) i fd (F fd i a b) (step () o r))(k:∀fd a b,Jc (ua (ja n) 2000 R (F fd l.length a b) st)=some (.ok (.v (.lst fd)),st))(c:Gh fs (mP n fn args st)=(ms fs,some (.next,F [] 0 .u .u,st))) (e:Bi[f]? =some fn:=by rfl) (d:(ye fn.body).2= .seq (.whl (.cmp .Lt (.var 2) (.len (.var 0))) B) R:=by rfl)(g:∀fd i a b,Lb (F fd i a b)[2]? =some (.v (.int i))/\Lb (F fd i a b)[0]? =some (.v (.bytes l)):=by intros;exact ⟨rfl,rfl⟩):Out ((ja (n+1)).call f args st) (sc step 0 () l) st:=Uo () (λi x fd sl=>nV (F fd i) sl) W h (.mk .u .u) fs (λ_ _ _ _ j=>j.rec λ_ _=>g ..) (λi s fd sl o r hA j z=>j.rec λa b=>hb i fd o r a b hA z) (λ_ _ _ j=>j.rec λ_ _=>k ..) c e d
end
def LU(n:Nat)(st:ia)(l:List Nat)(f:l.length<=lim):Out ((ja (n+3)).call 42 [.v (.bytes l)] st) (sc Ce 0 () l) st:=by refine dE (zZ l) US f [] (λi fd o r a b c hA hb=> ?_) (λ_ _ _ _=>oj []) (by kernel_rfl);have le:=(lh o r).1;have e:=om n i st l o r hA;unfold Ce;generalize Xa o r=P at e le;obtain ⟨m,d,w⟩:=P;induction d with|none=>exact .er (Int.add_zero _) (Oi [.R 0 e])|some c=>exact .ok (im le) (qd [.R 0 e,.L 3 (ap hb.1 (.int c))] (.mk _ _ _))
def Wc:kc Nat Unit:=λx o r=> .ok ([.int ((Xa o r).2.1.getD 65533)],(Xa o r).1-1,())
def rH:Wf Wc:=λs o r d k s' h=>by have:=lh o r;(injection h with h;injection h with a h;injection h with b c;subst a b c);simp only [length_cons,length_nil];lia
def YI(n:Nat)(st:ia)(l:List Nat)(f:l.length<=lim):Out ((ja (n+3)).call 43 [.v (.bytes l)] st) (sc Wc 0 () l) st:=by refine dE (zZ l) rH f [] (λi fd o r a b c hA hb=> ?_) (λ_ _ _ _=>oj []) (by kernel_rfl);have le:=(lh o r).1;have e:=om n i st l o r hA;unfold Wc;generalize Xa o r=P at e le|-;obtain ⟨m,d,w⟩:=P;induction d with|none=>exact .ok (im le) (qd [.R 0 e,.L 4 (ap hb.1 (.int 65533))] (.mk _ _ _))|some c=>exact .ok (im le) (qd [.R 0 e,.L 3 (ap hb.1 (.int c))] (.mk _ _ _))
noncomputable def raa(x y:Nat):Int:=bitOr (bitOr 53248 (bitAnd x 63*64)) (bitAnd y 63)
def Cq(o x y:Nat)(P:P3):P3:=br (((o:Int)==237)&&(decide (160<=(x:Int))&&decide ((x:Int)<=191))) (br (decide (128<=(y:Int))&&decide ((y:Int)<=191)) (3,some (raa x y),c3) P) P
def jz(o:Nat)(P:P3):List Nat->P3|x::y::a=>Cq o x y P|a=>P
def Sb(o:Nat)(r:List Nat):P3:=jz o (Xa o r) r
def yq(n at':Nat)(st:ia)(l:List Nat)(o:Nat)(r:List Nat)(hA:At l at' (o::r)):(ja (n+3)).call 45 [.v (.bytes l),.v (.int at')] st=some (.ok (.v (p3 (Sb o r))),st):=by
 have a:=hA.idx (k:=0) (j:=at') rfl (Int.add_zero _).symm;have e:=om n at' st l o r hA;have c:=Oc hA.big;have d:=hA.len;have sh:r.length<2->(ja (n+3)).call 45 [.v (.bytes l),.v (.int at')] st=some (.ok (.v (p3 (Xa o r))),st):=λh=>by have b:decide ((at':Int)+2<(l.length:Int))=false:=decide_eq_false (by rw [length_cons] at d;lia);generalize q:((o:Int)==237)=u;induction u with|true=>exact xa [.F 0 a,.B 2 q,.F 1 c,.B 1 b,.R 2 e]|false=>exact xa [.F 0 a,.B 2 q,.R 1 e]
 match r,e,hA,d,sh with
 | [],_,_,_,sh=>exact sh (by decide)| [x],_,_,_,sh=>exact sh (Nat.le_refl 2)|x::y::r,e,hA,d,_=>
  have b:decide ((at':Int)+2<(l.length:Int))=true:=decide_eq_true (by simp at d;lia);have f:=hA.idx (k:=1) (o:=x) (j:=at'+1) rfl rfl;have g:=hA.idx (k:=2) (o:=y) (j:=at'+2) rfl rfl;have s1:small (bitAnd x 63)=true:=Kc (Fg (by lia) (by decide)).1 (by have:=Fg (x:=(x:Int)) (k:=63) (by lia) (by decide);lia);refine (?_:(ja (n+3)).call 45 _ st=some (.ok (.v (p3 (Cq o x y (Xa o (x::y::r))))),st));generalize Xa o (x::y::r)=P at e|-;unfold Cq;induction q:(o:Int)==237 with|false=>exact xa [.F 0 a,.B 2 q,.R 1 e]|true=>
  induction q1:decide (160<=(x:Int))&&decide ((x:Int)<=191) with|false=>exact xa [.F 0 a,.B 2 q,.F 1 c,.B 1 b,.F 2 f,.B 1 q1,.R 1 e]|true=>
  induction q2:decide (128<=(y:Int))&&decide ((y:Int)<=191) with|false=>exact xa [.F 0 a,.B 2 q,.F 1 c,.B 1 b,.F 2 f,.B 1 q1,.F 2 g,.B 1 q2,.R 1 e]|true=>exact xa [.F 0 a,.B 2 q,.F 1 c,.B 1 b,.F 2 f,.B 1 q1,.F 2 g,.B 1 q2,.F 2 f,.F 1 (tc (k':=6) (by decide) (by decide) s1),.F 2 g]
def MC(n:Nat)(st:ia)(a b:Int)(c:55296<=a)(d:a<=56319):(ja (n+1)).call 44 [.v (.int a),.v (.int b)] st=some (.ok (.v (.int (65536+(a-55296)*1024+(b-56320)))),st):=by have s1:small (a-55296)=true:=Kc (by lia) (by lia);exact xa [.F 3 (tc (k':=10) (by decide) (by decide) s1)]
def xf:List Nat->Option Int| []=>none|o::r=>match (Sb o r).2.1 with|some c=>br (Ib c) (some c) none|none=>none
def oB(n j:Nat)(J:Int)(f:J=j)(st:ia)(l:List Nat)(hb:l.length<=big):(ja (n+4)).call 46 [.v (.bytes l),.v (.int J)] st=some (.ok (.v (oi (xf (l.drop j)))),st):=by
 subst f;have b:=Oc hb;induction q:l.drop j with
 |nil=>have a:decide ((l.length:Int)<=(j:Int))=true:=decide_eq_true (by have:=congrArg List.length q;rw [length_drop,length_nil] at this;lia);exact xa [.F 0 b,.B 1 a]|cons o r=>
  have g:j<l.length:=by have:=congrArg List.length q;rw [length_drop,length_cons] at this;lia
  have a:decide ((l.length:Int)<=(j:Int))=false:=decide_eq_false (by lia);have e:=yq n j st l o r ⟨hb,q,by lia⟩;refine (?_:(ja (n+4)).call 46 _ st=some (.ok (.v (oi (match (Sb o r).2.1 with|some c=>br (Ib c) (some c) none|none=>none))),st));generalize Sb o r=P at e|-;obtain ⟨m,d,w⟩:=P;induction d with|none=>exact xa [.F 0 b,.B 1 a,.R 1 e]|some c=>refine (?_:_=(some (.ok (.v (oi (br (Ib c) (some c) none))),st):Res AV));induction h:Ib c<;>exact xa [.F 0 b,.B 1 a,.R 1 e,.R 4 (Wy (n+2) st c),.B 0 h]
def mi(o:Nat)(r:List Nat):1<=(Sb o r).1/\(Sb o r).1<=1+r.length:=by
 have h:=lh o r;unfold Sb;generalize Xa o r=P at h|-
 match r,h with| [],h=>exact h| [a],h=>exact h|x::y::r,h=>simp only [jz,Cq,length_cons] at h|-;induction (((o:Int)==237)&&(decide (160<=(x:Int))&&decide ((x:Int)<=191)))<;>induction (decide (128<=(y:Int))&&decide ((y:Int)<=191))<;>simp only [br]<;>lia
theorem Bq(d:Nat):∀(m g:Nat) (code f e:Int) (r:List Nat) (c:Int),(Xc d m g code f e r).2.1=some c->m<=r.length|0,x,a,y,b,z,u,v=>zero_le _|x+1,a,y,b,z,[],u,h=>by simp only [Xc] at h;injection h|m+1,g,code,f,e,o::r,c,h=>by simp only [Xc] at h;induction q:(decide (f<=(o:Int))&&decide ((o:Int)<=e)) with|true=>rw [q] at h;have:=Bq d m _ _ _ _ r c h;rw [length_cons];lia|false=>rw [q] at h;injection h
def cw(o:Nat)(r:List Nat)(c:Int)(h:(Xa o r).2.1=some c)(i:2048<=c):2<=r.length:=by
 unfold Xa at h;induction a:decide ((o:Int)<128) with|true=>rw [a] at h;simp only [br] at h;injection h;have:=of_decide_eq_true a;lia|false=>
 rw [a] at h;induction b:(decide (194<=(o:Int))&&decide ((o:Int)<=223)) with
 |true=>
  rw [b] at h;simp only [br] at h
  match r,h with| [],h=>simp only [Xc] at h;injection h|x::r,h=>have g:=Fg (x:=(o:Int)) (k:=31) (by lia) (by decide);have f:=Fg (x:=(x:Int)) (k:=63) (by lia) (by decide);have a2:=OK (x:=bitAnd o 31*64) (by lia) f.1;simp only [Xc] at h;induction q:(decide (128<=(x:Int))&&decide ((x:Int)<=191)) with|true=>rw [q] at h;simp only [br] at h;have h:=Option.some.inj h;lia|false=>rw [q] at h;injection h
 |false=>
 rw [b] at h;induction d:(decide (224<=(o:Int))&&decide ((o:Int)<=239)) with|true=>rw [d] at h;exact Bq _ _ _ _ _ _ _ c h|false=>
 rw [d] at h;induction e:(decide (240<=(o:Int))&&decide ((o:Int)<=244)) with|true=>rw [e] at h;have:=Bq _ _ _ _ _ _ _ c h;lia|false=>rw [e] at h;injection h
def vj(o:Nat)(r:List Nat)(c:Int)(h:(Sb o r).2.1=some c)(a:2048<=c):2<=r.length:=by match r,h with| [],h=>exact cw o [] c h a| [x],h=>exact cw o [x] c h a|x::y::r,h=>simp only [length_cons];lia
def QB(r:List Nat)(c:Int)(h:xf r=some c):3<=r.length:=by match r,h with| [],h=>injection h|o::r,h=>rcases a:Sb o r with ⟨m,b,w⟩;simp only [xf,a] at h;induction b with|none=>injection h|some d=>dsimp only at h;induction q:Ib d with|false=>rw [q] at h;injection h|true=>have e:56320<=d:=of_decide_eq_true (and_eq_true_iff.mp q).1;have:=vj o r d (by rw [a]) (by lia);rw [length_cons];lia
noncomputable def joined(c d:Int):Int:=65536+(c-55296)*1024+(d-56320)
def Kf:kc Nat Unit:=λx o r=>match Sb o r with|(x,none,a)=> .error 0|(m,some c,x)=>br ((m:Int)==4) (.error 0) (br (Ua c) (match xf (r.drop 2) with|none=> .error 0|some d=> .ok ([.int (joined c d)],5,())) (br (Ib c) (.error 0) (.ok ([.int c],m-1,()))))
def zR:Wf Kf:=λs o r n k s' h=>by
 have le:=mi o r;unfold Kf at h;rcases l:Sb o r with ⟨m,j,w⟩;rw [l] at h le;induction j with
 |none=>injection h|some c=>
  dsimp only at h le;induction g:((m:Int)==4) with|true=>rw [g] at h;injection h|false=>
  rw [g] at h;induction i:Ua c with
  |true=>rw [i] at h;induction a:xf (r.drop 2) with|none=>rw [a] at h;injection h|some d=>rw [a] at h;have:=QB _ _ a;rw [length_drop] at this;(injection h with h;injection h with b h;injection h with e f;subst b e f);simp only [length_cons,length_nil];lia
  |false=>rw [i] at h;induction a:Ib c with|true=>rw [a] at h;injection h|false=>rw [a] at h;(injection h with h;injection h with b h;injection h with e f;subst b e f);simp only [length_cons,length_nil];lia
noncomputable abbrev sl7(l:List Nat)(fd:List FV)(i:Int)(a b c d:Slot):List Slot:= [.a (.v (.bytes l)),.own fd,.a (.v (.int i)),a,b,c,d]
def TQ(n:Nat)(st:ia)(l:List Nat)(u:l.length<=lim):Out ((ja (n+5)).call 47 [.v (.bytes l)] st) (sc Kf 0 () l) st:=by
 refine YV (sl7 l) zR u [] (λi fd o r a b c d hA hb=> ?_) (λ_ _ _ _ _=>oj []) (by kernel_rfl);have e:=yq (n+1) i st l o r hA;have le:=(mi o r).1;have h:=oB n (i+3) ((i:Int)+3) rfl st l hA.big;rw [show l.drop (i+3)=r.drop 2 by rw [<-drop_drop,hA.eq];rfl] at h;have j:= @Hj (n+3) st;have k:= @Wy (n+3) st;unfold Kf;generalize Sb o r=P at e le|-;obtain ⟨m,s,w⟩:=P;have ap:=ap hb.1;induction s with|none=>exact .er (Int.add_zero _) (Oi [.R 0 e])|some c=>
 dsimp only;induction f:((m:Int)==4) with|true=>exact .er (Int.add_zero _) (Oi [.R 0 e,.B 5 f])|false=>
 induction g:Ua c with
 |true=>have q:=and_eq_true_iff.mp g;have t:=λd=>MC (n+3) st c d (of_decide_eq_true q.1) (of_decide_eq_true q.2);generalize xf (r.drop 2)=L at h|-;induction L with|none=>exact .er (Int.add_zero _) (Oi [.R 0 e,.B 5 f,.R 0 (j c),.B 0 g,.R 1 h])|some d=>exact .ok (by lia) (qd [.R 0 e,.B 5 f,.R 0 (j c),.B 0 g,.R 1 h,.R 3 (t d),.L 0 (ap (.int (65536+(c-55296)*1024+(d-56320))))] (.mk _ _ _ _))
 |false=>
 induction p:Ib c with|true=>exact .er (Int.add_zero _) (Oi [.R 0 e,.B 5 f,.R 0 (j c),.B 0 g,.R 0 (k c),.B 0 p])|false=>exact .ok (im le) (qd [.R 0 e,.B 5 f,.R 0 (j c),.B 0 g,.R 0 (k c),.B 0 p,.L 0 (ap (.int c))] (.mk _ _ _ _))
def At.slc{l r:List Nat}{i k:Nat}{J:Int}(h:At l i r)(a:J=(i:Int)+(k:Int)):Va (.bytes l) (some (i:Int)) (some J)=some (.bytes (r.take k)):=by subst a;exact sU h.big h.le h.eq
def Mf:kc Nat Unit:=λx o r=>match Sb o r with|(x,none,a)=> .error 0|(m,some c,x)=>br (Ua c) (match xf (r.drop 2) with|none=> .ok ([.int c],m-1,())|some x=> .error 0) (.ok ([.int c],m-1,()))
def BR:Wf Mf:=λs o r l k s' h=>by
 have le:=mi o r;unfold Mf at h;rcases j:Sb o r with ⟨m,i,w⟩;rw [j] at h le;induction i with
 |none=>injection h|some c=>
  dsimp only at h le;induction f:Ua c with
  |true=>rw [f] at h;induction g:xf (r.drop 2) with|none=>rw [g] at h;(injection h with h;injection h with a h;injection h with b e;subst a b e);simp only [length_cons,length_nil];lia|some d=>rw [g] at h;injection h
  |false=>rw [f] at h;(injection h with h;injection h with a h;injection h with b e;subst a b e);simp only [length_cons,length_nil];lia
def VU(n:Nat)(st:ia)(l:List Nat)(k:l.length<=lim):Out ((ja (n+5)).call 49 [.v (.bytes l)] st) (sc Mf 0 () l) st:=by
 refine dE (zZ l) BR k [] (λi fd o r a b c hA hb=> ?_) (λ_ _ _ _=>oj []) (by kernel_rfl);have e:=yq (n+1) i st l o r hA;have le:=(mi o r).1;have f:=oB n (i+3) ((i:Int)+3) rfl st l hA.big;rw [show l.drop (i+3)=r.drop 2 by rw [<-drop_drop,hA.eq];rfl] at f;have g:= @Hj (n+3) st;have ap:=ap hb.1;unfold Mf;generalize Sb o r=P at e le|-;obtain ⟨m,j,w⟩:=P;induction j with|none=>exact .er (Int.add_zero _) (Oi [.R 0 e])|some c=>
 dsimp only;induction h:Ua c with
 |true=>generalize xf (r.drop 2)=L at f|-;induction L with|none=>exact .ok (im le) (qd [.R 0 e,.R 3 (g c),.B 0 h,.R 1 f,.L 3 (ap (.int c))] (.mk _ _ _))|some d=>exact .er (Int.add_zero _) (Oi [.R 0 e,.R 3 (g c),.B 0 h,.R 1 f])
 |false=>exact .ok (im le) (qd [.R 0 e,.R 3 (g c),.B 0 h,.L 1 (ap (.int c))] (.mk _ _ _))
def Ji(o:Nat)(r:List Nat):Option P3:=br ((o::r).take 2== [192,128]) (some (2,some 0,c3)) (br ((o:Int)==0) none (some (Sb o r)))
def Lf:kc Nat Unit:=λx o r=>match Ji o r with|none=> .error 0|some (x,none,a)=> .error 0|some (m,some c,x)=>br ((m:Int)==4) (.error 0) (match br (Ua c) (xf (r.drop 2)) none with|none=> .ok ([.int c],m-1,())|some d=> .ok ([.int (joined c d)],5,()))
def YM{o:Nat}{r:List Nat}{P:P3}(h:Ji o r=some P):1<=P.1/\P.1<=1+r.length:=by unfold Ji at h;induction q:(o::r).take 2== [192,128] with|true=>rw [q] at h;(injection h with h;subst h);have:=congrArg List.length (eq_of_beq q);rw [length_take,length_cons] at this;simp only [length_cons,length_nil] at this;dsimp only;lia|false=>rw [q] at h;induction q2:((o:Int)==0) with|true=>rw [q2] at h;injection h|false=>rw [q2] at h;(injection h with h;subst h);exact mi o r
def AR:Wf Lf:=λs o r n k s' h=>by
 unfold Lf at h;induction g:Ji o r with
 |none=>rw [g] at h;injection h|some P=>
  have le:=YM g;rw [g] at h;obtain ⟨m,l,w⟩:=P;induction l with
  |none=>injection h|some c=>
   dsimp only at h le;induction i:((m:Int)==4) with|true=>rw [i] at h;injection h|false=>
   rw [i] at h;induction j:Ua c with
   |true=>rw [j] at h;simp only [br] at h;induction f:xf (r.drop 2) with|none=>rw [f] at h;(injection h with h;injection h with a h;injection h with b e;subst a b e);simp only [length_cons,length_nil];lia|some d=>rw [f] at h;have:=QB _ _ f;rw [length_drop] at this;(injection h with h;injection h with a h;injection h with b e;subst a b e);simp only [length_cons,length_nil];lia
   |false=>rw [j] at h;(injection h with h;injection h with a h;injection h with b e;subst a b e);simp only [length_cons,length_nil];lia
def QU(n:Nat)(st:ia)(l:List Nat)(y:l.length<=lim):Out ((ja (n+5)).call 48 [.v (.bytes l)] st) (sc Lf 0 () l) st:=by
 refine YV (sl7 l) AR y [] (λi fd o r a b c d hA hb=> ?_) (λ_ _ _ _ _=>oj []) (by kernel_rfl);have e:=yq (n+1) i st l o r hA;have le:=(mi o r).1;have p:=oB n (i+3) ((i:Int)+3) rfl st l hA.big;rw [show l.drop (i+3)=r.drop 2 by rw [<-drop_drop,hA.eq];rfl] at p;have s:= @Hj (n+3) st;have ap:=ap hb.1;have f:=hA.slc (k:=2) (J:=(i:Int)+2) rfl;have g:=hA.idx (k:=0) (o:=o) (j:=i) rfl (Int.add_zero _).symm;unfold Lf Ji;generalize (o::r).take 2=TT at f|-;induction q:TT== [192,128] with|true=>have h:Ua 0=false:=rfl;exact .ok (by lia) (qd [.F 1 f,.B 1 q,.R 7 (s 0),.L 4 (ap (.int 0))] (.mk _ _ _ _))|false=>
 induction q2:((o:Int)==0) with|true=>exact .er (Int.add_zero _) (Oi [.F 1 f,.B 1 q,.F 1 g,.B 2 q2])|false=>
 dsimp only [br];generalize Sb o r=P at e le|-;obtain ⟨m,v,w⟩:=P;induction v with|none=>exact .er (Int.add_zero _) (Oi [.F 1 f,.B 1 q,.F 1 g,.B 2 q2,.R 0 e])|some c=>
 dsimp only;induction t:((m:Int)==4) with|true=>exact .er (Int.add_zero _) (Oi [.F 1 f,.B 1 q,.F 1 g,.B 2 q2,.R 0 e,.B 5 t])|false=>
 induction h:Ua c with
 |true=>have u:=and_eq_true_iff.mp h;have x:=λd=>MC (n+3) st c d (of_decide_eq_true u.1) (of_decide_eq_true u.2);generalize xf (r.drop 2)=L at p|-;induction L with|none=>exact .ok (im le) (qd [.F 1 f,.B 1 q,.F 1 g,.B 2 q2,.R 0 e,.B 5 t,.R 0 (s c),.B 0 h,.R 1 p,.L 3 (ap (.int c))] (.mk _ _ _ _))|some d=>exact .ok (by lia) (qd [.F 1 f,.B 1 q,.F 1 g,.B 2 q2,.R 0 e,.B 5 t,.R 0 (s c),.B 0 h,.R 1 p,.R 3 (x d),.L 0 (ap (.int (65536+(c-55296)*1024+(d-56320))))] (.mk _ _ _ _))
 |false=>exact .ok (im le) (qd [.F 1 f,.B 1 q,.F 1 g,.B 2 q2,.R 0 e,.B 5 t,.R 0 (s c),.B 0 h,.L 3 (ap (.int c))] (.mk _ _ _ _))
noncomputable def Rb(l:List Nat):Prop:=∀x∈l,x<256
def At.byte{l r:List Nat}{i k o:Nat}(h:At l i r)(a:Rb l)(b:r[k]? =some o):o<256:=a o (by
 have:=mem_of_getElem? b;rw [<-h.eq] at this;exact mem_of_mem_drop this)
def ic(be:Bool)(x y:Nat):Int:=br be (bitOr ((x:Int)*256) y) (bitOr ((y:Int)*256) x)
def Bg{x:Nat}(h:x<256):small (x:Int)=true:=Kc (natCast_nonneg x) (by lia)
def Uu(n at':Nat)(J:Int)(e:J=at')(st:ia)(l:List Nat)(a:Rb l)(q:Str)(be:Bool)(b:(q==c0)=be)(x y:Nat)(r:List Nat)(hA:At l at' (x::y::r)):(ja (n+1)).call 27 [.v (.bytes l),.v (.int J),.v (.str q)] st=some (.ok (.v (.int (ic be x y))),st):=by have c:=hA.idx (k:=0) (j:=J) rfl (by lia);have d:=hA.idx (k:=1) (j:=J+1) rfl (by lia);have s1:=Bg (hA.byte a (k:=0) rfl);have s2:=Bg (hA.byte a (k:=1) rfl);induction be with|true=>exact xa [.B 2 b,.F 1 c,.F 0 (tc (k':=8) (by decide) (by decide) s1),.F 1 d]|false=>exact xa [.B 2 b,.F 2 d,.F 0 (tc (k':=8) (by decide) (by decide) s2),.F 0 c]
def BN(n:Nat)(st:ia)(a b:Int)(h:Ua a=true):(ja (n+1)).call 25 [.v (.int a),.v (.int b)] st=some (.ok (.v (.int (joined a b))),st):=have h:=and_eq_true_iff.mp h
 have c:=of_decide_eq_true h.1;have d:=of_decide_eq_true h.2;have s1:small (a-55296)=true:=Kc (by lia) (by lia)
 (xa [.F 4 (tc (k':=10) (by decide) (by decide) s1)])
def Kg(be:Bool)(u:Int):List Nat->Option Int×Nat|y::z::x=>br (Ib (ic be y z)) (some (joined u (ic be y z)),3) (none,1)|x=>(none,1)
def Bo(be:Bool)(u:Int)(r:List Nat):Option Int×Nat:=br (Ib u) (none,1) (br (Ua u) (Kg be u r) (some u,1))
def Vc(be:Bool)(o:Nat):List Nat->Option Int×Nat| []=>(none,0)|x::r=>Bo be (ic be o x) r
inductive Tells(n f:Nat)(l:List Nat)(i:Nat)(q:Str)(st:ia)(x:Option Int×Nat):Prop
 |mk (w:Str) (j:Int) (e:(i:Int)+x.2+1=j) (h:(ja n).call f [.v (.bytes l),.v (.int i),.v (.str q)] st=some (.ok (.v (.tup [oi x.1,.int j,.str w])),st))
def Tu(n at':Nat)(st:ia)(l:List Nat)(m:Rb l)(q:Str)(be:Bool)(s:(q==c0)=be)(o:Nat)(r:List Nat)(hA:At l at' (o::r)):Tells (n+2) 29 l at' q st (Vc be o r):=by
 have b:=Oc hA.big;have a:=hA.len
 match r,hA,a with
 | [],hA,a=>have c:decide ((l.length:Int)<(at':Int)+2)=true:=decide_eq_true (by rw [a];exact Int.lt_succ _);exact .mk c1 l.length (by rw [a];rfl) (xa [.F 1 b,.B 1 c,.F 1 b])|x::r,hA,a=>
  have c:decide ((l.length:Int)<(at':Int)+2)=false:=decide_eq_false (by simp at a;lia);have f:=Uu n at' (at':Int) rfl st l m q be s o x r hA;have j:= @Hj n st;have e:= @Wy n st;refine (?_:Tells (n+2) 29 l at' q st (Bo be (ic be o x) r));unfold Bo;generalize ic be o x=u at f|-;induction h:Ib u with|true=>exact .mk c2 (at'+2) (Int.add_assoc ..) (xa [.F 1 b,.B 1 c,.R 1 f,.R 0 (e (u)),.B 0 h])|false=>
  induction g:Ua u with|false=>exact .mk c3 (at'+2) (Int.add_assoc ..) (xa [.F 1 b,.B 1 c,.R 1 f,.R 0 (e (u)),.B 0 h,.R 0 (j (u)),.B 0 (congrArg not g)])|true=>
  have no:decide ((at':Int)+4<=(l.length:Int))=false->Tells (n+2) 29 l at' q st (none,1):=λi=> .mk c4 (at'+2) (Int.add_assoc ..) (xa [.F 1 b,.B 1 c,.R 1 f,.R 0 (e (u)),.B 0 h,.R 0 (j (u)),.B 0 (congrArg not g),.F 2 b,.B 1 i])
  match r,hA,a with| [],_,a=>exact no (decide_eq_false (by simp at a;lia))| [_],_,a=>exact no (decide_eq_false (by simp at a;lia))|y::z::r,hA,a=>have i:decide ((at':Int)+4<=(l.length:Int))=true:=decide_eq_true (by simp at a;lia);have k:=Uu n (at'+2) ((at':Int)+2) rfl st l m q be s y z r hA.next.next;have t:=λd=>BN n st u d g;refine (?_:Tells (n+2) 29 l at' q st (br (Ib (ic be y z)) (some (joined u (ic be y z)),3) (none,1)));generalize ic be y z=v at k|-;induction p:Ib v with|true=>exact .mk c3 (at'+4) (Int.add_assoc ..) (xa [.F 1 b,.B 1 c,.R 1 f,.R 0 (e (u)),.B 0 h,.R 0 (j (u)),.B 0 (congrArg not g),.F 2 b,.B 1 i,.R 2 k,.R 0 (e (v)),.B 0 p,.R 0 (t (v))])|false=>exact .mk c4 (at'+2) (Int.add_assoc ..) (xa [.F 1 b,.B 1 c,.R 1 f,.R 0 (e (u)),.B 0 h,.R 0 (j (u)),.B 0 (congrArg not g),.F 2 b,.B 1 i,.R 2 k,.R 0 (e (v)),.B 0 p])
def zf(be:Bool)(o:Nat)(r:List Nat):(Vc be o r).2<=r.length:=by
 induction r with
 |nil=>exact Nat.le_refl _|cons x r=>
  simp only [Vc,Bo];induction Ib (ic be o x) with|true=>simp only [br,length_cons];lia|false=>
  induction Ua (ic be o x) with|false=>simp only [br,length_cons];lia|true=>match r with| []=>simp only [br,Kg,length_cons];lia| [b]=>simp only [br,Kg,length_cons];lia|y::z::r=>simp only [br,Kg,length_cons];induction Ib (ic be y z)<;>(simp only;lia)
def strict(a:Nat->List Nat->Option Int×Nat):kc Nat Unit:=λx o r=>match a o r with|(some c,k)=> .ok ([.int c],k,())|(none,x)=> .error 0
def Ub(a:Nat->List Nat->Option Int×Nat):kc Nat Unit:=λx o r=> .ok ([.int ((a o r).1.getD 65533)],(a o r).2,())
def ph(h:∀o r,(a o r).2<=r.length):Wf (strict a):=λs o r g k s' e=>by have:=h o r;unfold strict at e;generalize a o r=P at e this;obtain ⟨c,k'⟩:=P;induction c with|none=>injection e|some c=>(injection e with e;injection e with b e;injection e with d f;subst b d f);exact ⟨this,by simp only [length_cons,length_nil];lia⟩
def Ee(h:∀o r,(raw o r).2<=r.length):Wf (Ub raw):=λs o r d k s' e=>by (injection e with e;injection e with a e;injection e with b c;subst a b c);exact ⟨h o r,by simp only [length_cons,length_nil];lia⟩
def Yy(n:Nat)(st:ia)(l:List Nat)(q:Str):(ja (n+1)).call 30 [.v (.bytes l),.v (.str q)] st=some (.ok (.v (.tup [.str q,.int 0])),st):=xa []
def Zy(n:Nat)(st:ia)(l:List Nat)(q:Str):(ja (n+1)).call 35 [.v (.bytes l),.v (.str q)] st=some (.ok (.v (.tup [.str q,.int 0])),st):=xa []
noncomputable abbrev pN(q:Str)(l:List Nat)(fd:List FV)(i:Int)(a b c:Slot):List Slot:= [.a (.v (.bytes l)),.a (.v (.str q)),.a (.v (.int i)),.own fd,a,b,c]
noncomputable abbrev oN(q:Str)(l:List Nat)(fd:List FV)(i:Int)(a b:Slot):List Slot:= [.a (.v (.bytes l)),.a (.v (.str q)),.a (.v (.int i)),.own fd,a,b]
def UQ(n:Nat)(st:ia)(l:List Nat)(h:l.length<=lim)(g:Rb l)(q:Str)(be:Bool)(m:(q==c0)=be):Out ((ja (n+3)).call 31 [.v (.bytes l),.v (.str q)] st) (sc (strict (Vc be)) 0 () l) st:=by refine dE (pN q l) (ph (zf be)) h [.R 0 (Yy (n+1) st l q)] (λi fd o r a b c hA hb=> ?_) (λ_ _ _ _=>oj []) (by kernel_rfl);have ap:=ap hb.1;obtain ⟨w,j,d,e⟩:=Tu n i st l g q be m o r hA;unfold strict;generalize Vc be o r=P at e d|-;obtain ⟨f,k⟩:=P;induction f with|none=>exact .er (Int.add_zero _) (Oi [.R 0 e])|some c=>exact .ok d (qd [.R 0 e,.L 3 (ap (.int c))] (.mk _ _ _))
def dH(n:Nat)(st:ia)(l:List Nat)(h:l.length<=lim)(g:Rb l)(q:Str)(be:Bool)(m:(q==c0)=be):Out ((ja (n+3)).call 32 [.v (.bytes l),.v (.str q)] st) (sc (Ub (Vc be)) 0 () l) st:=by refine uJ (oN q l) (Ee (zf be)) h [.R 0 (Yy (n+1) st l q)] (λi fd o r a b hA hb=> ?_) (λ_ _ _=>oj []) (by kernel_rfl);have ap:=ap hb.1;obtain ⟨w,j,d,e⟩:=Tu n i st l g q be m o r hA;unfold Ub;generalize Vc be o r=P at e d|-;obtain ⟨f,k⟩:=P;induction f with|none=>exact .ok d (qd [.R 0 e,.L 4 (ap (.int 65533))] (.mk _ _))|some c=>exact .ok d (qd [.R 0 e,.L 3 (ap (.int c))] (.mk _ _))
noncomputable def pj(a b c d:Nat):Int:=bitOr (bitOr (bitOr ((a:Int)*16777216) ((b:Int)*65536)) ((c:Int)*256)) d
def Xx(c:Int):Option Int:=br (isScalar c) (some c) none
def se(be:Bool)(o:Nat):List Nat->Option Int×Nat|x::y::z::a=>(Xx (br be (pj o x y z) (pj z y x o)),3)|r=>(none,r.length)
def Wg(be:Bool)(o:Nat)(r:List Nat):(se be o r).2<=r.length:=by match r with| []=>exact Nat.le_refl _| [a]=>exact Nat.le_refl _| [a,b]=>exact Nat.le_refl _|x::y::z::r=>simp only [se,length_cons];lia
def wy{l:List Nat}(h:l.length<=big):pb (.bytes l)=some (l.map λ(x:Nat)=>FV.int (x:Int)):=if_pos h
def NK(n at':Nat)(st:ia)(l:List Nat)(q:Str)(o:Nat)(r:List Nat)(hA:At l at' (o::r))(f:(o::r).length<4):Tells (n+3) 34 l at' q st (none,r.length):=by
 have b:=hA.slc (k:=4) (J:=(at':Int)+4) rfl;rw [take_of_length_le (Nat.le_of_lt f)] at b;have e:(o::r).length<=big:=Nat.le_trans (Nat.le_of_lt f) (by decide);have a:=wy e;have g:=Oc hA.big;have c:decide ((((o::r).map λ(x:Nat)=>FV.int (x:Int)).length:Int)<4)=true:=decide_eq_true (by rw [length_map];lia);have d:((o::r).map λ(x:Nat)=>FV.int (x:Int)).length<=big:=by rw [length_map];exact e
 refine .mk c1 l.length (by rw [hA.len];rfl) ?_;generalize (o::r).map (λ(x:Nat)=>FV.int (x:Int))=L at a c d;generalize o::r=R at a b;have h:pa (ja (n+2)) (.lenv 3) [.a (.v (.bytes l)),.a (.v (.int at')),.a (.v (.str q)),.own L,.u] st=some (.ok (.v (.int L.length)),st):=if_pos d;exact xa [.F 1 b,.L 0 a,.R 0 h,.B 1 c,.F 1 g]
def OC(n at':Nat)(st:ia)(l:List Nat)(d:Rb l)(q:Str)(be:Bool)(c:(q==c0)=be)(o:Nat)(r:List Nat)(hA:At l at' (o::r)):Tells (n+3) 34 l at' q st (se be o r):=by
 match r,hA with
 | [],hA=>exact NK n at' st l q o [] hA (le_add_left 2 2)| [x],hA=>exact NK n at' st l q o [x] hA (le_add_left 3 1)| [x,y],hA=>exact NK n at' st l q o [x,y] hA (Nat.le_refl 4)|x::y::z::r,hA=>
  have b:Va (.bytes l) (some (at':Int)) (some ((at':Int)+4))=some (.bytes [o,x,y,z]):=hA.slc (k:=4) rfl;have a:pb (.bytes [o,x,y,z])=some [.int o,.int x,.int y,.int z]:=wy (l:= [o,x,y,z]) (show 4<=big by decide);have s0:=Bg (hA.byte d (k:=0) rfl);have s1:=Bg (hA.byte d (k:=1) rfl);have s2:=Bg (hA.byte d (k:=2) rfl);have s3:=Bg (hA.byte d (k:=3) rfl);refine (?_:Tells (n+3) 34 l at' q st (Xx (br be (pj o x y z) (pj z y x o)),3));induction be with
  |true=>rw [cO];have k0:=bf n st (pj o x y z);have k1:=xq (n+1) st (pj o x y z);unfold Xx;generalize isScalar (pj o x y z)=f at k0|-;generalize (decide (55296<=pj o x y z)&&decide (pj o x y z<=57343))=g at k1;unfold pj at k0 k1|-;induction f with|true=>exact .mk c3 (at'+4) (Int.add_assoc ..) (xa [.F 1 b,.L 0 a,.B 6 (congrArg not c),.F 2 (tc (k':=24) (by decide) (by decide) s0),.F 1 (tc (k':=16) (by decide) (by decide) s1),.F 2 (tc (k':=8) (by decide) (by decide) s2),.R 3 k0])|false=>induction g with|true=>exact .mk c6 (at'+4) (Int.add_assoc ..) (xa [.F 1 b,.L 0 a,.B 6 (congrArg not c),.F 2 (tc (k':=24) (by decide) (by decide) s0),.F 1 (tc (k':=16) (by decide) (by decide) s1),.F 2 (tc (k':=8) (by decide) (by decide) s2),.R 3 k0,.R 2 k1])|false=>exact .mk c7 (at'+4) (Int.add_assoc ..) (xa [.F 1 b,.L 0 a,.B 6 (congrArg not c),.F 2 (tc (k':=24) (by decide) (by decide) s0),.F 1 (tc (k':=16) (by decide) (by decide) s1),.F 2 (tc (k':=8) (by decide) (by decide) s2),.R 3 k0,.R 2 k1])
  |false=>rw [bO];have k0:=bf n st (pj z y x o);have k1:=xq (n+1) st (pj z y x o);unfold Xx;generalize isScalar (pj z y x o)=f at k0|-;generalize (decide (55296<=pj z y x o)&&decide (pj z y x o<=57343))=g at k1;unfold pj at k0 k1|-;induction f with|true=>exact .mk c3 (at'+4) (Int.add_assoc ..) (xa [.F 1 b,.L 0 a,.B 6 (congrArg not c),.F 3 (tc (k':=24) (by decide) (by decide) s3),.F 1 (tc (k':=16) (by decide) (by decide) s2),.F 2 (tc (k':=8) (by decide) (by decide) s1),.R 3 k0])|false=>induction g with|true=>exact .mk c6 (at'+4) (Int.add_assoc ..) (xa [.F 1 b,.L 0 a,.B 6 (congrArg not c),.F 3 (tc (k':=24) (by decide) (by decide) s3),.F 1 (tc (k':=16) (by decide) (by decide) s2),.F 2 (tc (k':=8) (by decide) (by decide) s1),.R 3 k0,.R 2 k1])|false=>exact .mk c7 (at'+4) (Int.add_assoc ..) (xa [.F 1 b,.L 0 a,.B 6 (congrArg not c),.F 3 (tc (k':=24) (by decide) (by decide) s3),.F 1 (tc (k':=16) (by decide) (by decide) s2),.F 2 (tc (k':=8) (by decide) (by decide) s1),.R 3 k0,.R 2 k1])
def VQ(n:Nat)(st:ia)(l:List Nat)(h:l.length<=lim)(g:Rb l)(q:Str)(be:Bool)(m:(q==c0)=be):Out ((ja (n+4)).call 36 [.v (.bytes l),.v (.str q)] st) (sc (strict (se be)) 0 () l) st:=by refine dE (pN q l) (ph (Wg be)) h [.R 0 (Zy (n+2) st l q)] (λi fd o r a b c hA hb=> ?_) (λ_ _ _ _=>oj []) (by kernel_rfl);have ap:=ap hb.1;obtain ⟨w,j,d,e⟩:=OC n i st l g q be m o r hA;unfold strict;generalize se be o r=P at e d|-;obtain ⟨f,k⟩:=P;induction f with|none=>exact .er (Int.add_zero _) (Oi [.R 0 e])|some c=>exact .ok d (qd [.R 0 e,.L 3 (ap (.int c))] (.mk _ _ _))
def eH(n:Nat)(st:ia)(l:List Nat)(h:l.length<=lim)(g:Rb l)(q:Str)(be:Bool)(m:(q==c0)=be):Out ((ja (n+4)).call 37 [.v (.bytes l),.v (.str q)] st) (sc (Ub (se be)) 0 () l) st:=by refine uJ (oN q l) (Ee (Wg be)) h [.R 0 (Zy (n+2) st l q)] (λi fd o r a b hA hb=> ?_) (λ_ _ _=>oj []) (by kernel_rfl);have ap:=ap hb.1;obtain ⟨w,j,d,e⟩:=OC n i st l g q be m o r hA;unfold Ub;generalize se be o r=P at e d|-;obtain ⟨f,k⟩:=P;induction f with|none=>exact .ok d (qd [.R 0 e,.L 4 (ap (.int 65533))] (.mk _ _))|some c=>exact .ok d (qd [.R 0 e,.L 3 (ap (.int c))] (.mk _ _))
def Xm(a:Bool)(o:Int):FV:=br (decide (65<=o)&&decide (o<=90)) (.int (o-65)) (br (decide (97<=o)&&decide (o<=122)) (.int (o-97+26)) (br (decide (48<=o)&&decide (o<=57)) (.int (o-48+52)) (br (o==43) (.int 62) (br (o==br a 44 47) (.int 63) .none))))
def aJ(n:Nat)(st:ia)(o:Int)(b:Bool):(ja (n+1)).call 6 [.v (.int o),.v (.bool b)] st=some (.ok (.v (Xm b o)),st):=by
 unfold Xm;induction c:(decide (65<=o)&&decide (o<=90)) with|true=>exact xa [.B 1 c]|false=>
 induction d:(decide (97<=o)&&decide (o<=122)) with|true=>exact xa [.B 1 c,.B 2 d]|false=>
 induction e:(decide (48<=o)&&decide (o<=57)) with|true=>exact xa [.B 1 c,.B 2 d,.B 2 e]|false=>
 induction f:o==43 with|true=>exact xa [.B 1 c,.B 2 d,.B 2 e,.B 4 f]|false=>
 induction b with
 |true=>induction a:o==br true 44 47 with|true=>have a:(o==44)=true:=a;exact xa [.B 1 c,.B 2 d,.B 2 e,.B 4 f,.B 4 a]|false=>have a:(o==44)=false:=a;exact xa [.B 1 c,.B 2 d,.B 2 e,.B 4 f,.B 4 a]
 |false=>induction a:o==br false 44 47 with|true=>have a:(o==47)=true:=a;exact xa [.B 1 c,.B 2 d,.B 2 e,.B 4 f,.B 4 a]|false=>have a:(o==47)=false:=a;exact xa [.B 1 c,.B 2 d,.B 2 e,.B 4 f,.B 4 a]
def BL(c:Bool)(o:Int):Xm c o= .none\/∃v,Xm c o= .int v/\0<=v/\v<=63:=by
 unfold Xm;induction d:(decide (65<=o)&&decide (o<=90)) with|true=>have:=and_eq_true_iff.mp d;have a:=of_decide_eq_true this.1;have b:=of_decide_eq_true this.2;exact .inr ⟨_,rfl,by lia,by lia⟩|false=>
 induction e:(decide (97<=o)&&decide (o<=122)) with|true=>have:=and_eq_true_iff.mp e;have a:=of_decide_eq_true this.1;have b:=of_decide_eq_true this.2;exact .inr ⟨_,rfl,by lia,by lia⟩|false=>
 induction f:(decide (48<=o)&&decide (o<=57)) with|true=>have:=and_eq_true_iff.mp f;have a:=of_decide_eq_true this.1;have b:=of_decide_eq_true this.2;exact .inr ⟨_,rfl,by lia,by lia⟩|false=>
 induction o==43 with|true=>exact .inr ⟨_,rfl,by decide,by decide⟩|false=>
 induction o==br c 44 47 with|true=>exact .inr ⟨_,rfl,by decide,by decide⟩|false=>exact .inl rfl
def Pk(a:Bool)(o:Nat):Bool:= !isNone (Xm a o)
def iw(a:Bool)(o:Nat):Int:=match Xm a o with| .int v=>v|x=>0
def WH(h:Pk a o=true):Xm a o= .int (iw a o)/\0<=iw a o/\iw a o<=63:=by
 unfold Pk at h;unfold iw;rcases BL a o with e|⟨v,e,b,c⟩;·rw [e] at h;injection h
 ·rw [e];exact ⟨rfl,b,c⟩
def cnt(a:Bool):List Nat->Nat| []=>0|o::r=>br (Pk a o) (cnt a r+1) 0
theorem uh(a:Bool):∀r,cnt a r<=r.length| []=>Nat.le_refl _|o::r=>by have:=uh a r;unfold cnt;induction Pk a o<;>simp only [br,length_cons]<;>lia
theorem OI(n N:Nat)(st:ia)(l:List Nat)(a:Bool):∀(k at':Nat) (r:List Nat),r.length<k->At l at' r->loops (pa (ja (n+1)) (.and (.cmp .Lt (.var 1) (.len (.var 0))) (.cmp .IsNot (.call 6 (.cons (.idx (.var 0) (.var 1)) (.cons (.var 2) .nil))) (.cst .none)))) (ua (ja (n+1)) N (.seq (.aug 1 .Add (.cst (.int 1))) .skip)) k [.a (.v (.bytes l)),.a (.v (.int at')),.a (.v (.bool a))] st=some (.next,[.a (.v (.bytes l)),.a (.v (.int ((at':Int)+cnt a r))),.a (.v (.bool a))],st)
 |0,x,y,h,b=>absurd h (not_lt_zero _)|k+1,at',[],x,hA=>by
  have c:=hA.end;have d:=Oc hA.big;refine fh ?_|>.trans ?_;·clear hA;exact Kh [.F 0 d,.B 1 c]
  ·rw [show (at':Int)+(cnt a []:Nat)=at' from Int.add_zero _]
 |k+1,at',o::r,h,hA=>by
  have c:=hA.lt;have d:=Oc hA.big;have g:jc (.bytes l) (at':Int)=some (.int o):=hA.idx (k:=0) (o:=o) rfl (by lia);have i:= @aJ n;unfold cnt;induction hb:Pk a o with
  |false=>
   have f:isNone (Xm a o)=true:=by unfold Pk at hb;simpa using hb
   refine fh ?_|>.trans ?_;·clear hA h;exact Kh [.F 0 d,.B 1 c,.F 1 g,.R 0 (i st (↑o) a),.B 1 (congrArg not f)]
   ·rw [show (at':Int)+((br false (cnt a r+1) 0:Nat):Int)=at' from Int.add_zero _]
  |true=>
   have f:isNone (Xm a o)=false:=by unfold Pk at hb;simpa using hb
   have e:=OI n N st l a k (at'+1) r (by rw [length_cons] at h;lia) hA.next;refine (bp (sl':= [.a (.v (.bytes l)),.a (.v (.int ((at':Int)+1))),.a (.v (.bool a))]) (st':=st) ?_ ?_).trans ?_;·clear hA h e;exact Kh [.F 0 d,.B 1 c,.F 1 g,.R 0 (i st (↑o) a),.B 1 (congrArg not f)]
   ·clear hA h e;exact bc []
   ·rw [show ((at'+1:Nat):Int)=at'+1 by lia] at e;rw [e,show (at':Int)+((br true (cnt a r+1) 0:Nat):Int)=at'+1+(cnt a r:Nat) by simp only [br];lia]
def Xy(n:Nat)(st:ia)(l:List Nat)(c:l.length<=lim)(a:Bool)(at':Nat)(J:Int)(b:J=at')(r:List Nat)(hA:At l at' r):(ja (n+2)).call 9 [.v (.bytes l),.v (.int J),.v (.bool a)] st=some (.ok (.v (.int ((at':Int)+cnt a r))),st):=by subst b;exact xa [.S 0 (OI n 2000 st l a 2000 at' r (by have:=hA.len;unfold lim at c;lia) hA)]
noncomputable abbrev U7:=List Int×Int×Int
def Ng(a:Bool)(x:U7)(o:Nat):U7:=br (decide (16<=x.2.2+6)) (x.1++ [(bitOr (x.2.1*64) (iw a o)).fdiv (2^(x.2.2+6-16).toNat)],bitAnd (bitOr (x.2.1*64) (iw a o)) (1*2^(x.2.2+6-16).toNat-1),x.2.2+6-16) (x.1,bitOr (x.2.1*64) (iw a o),x.2.2+6)
structure vV(x:U7):Prop where
 r0:0<=x.2.1
 m0:0<=x.2.2
 m1:x.2.2<=15
 r1:x.2.2<=5->x.2.1<=31
 r2:x.2.2<=11->x.2.1<=2047
 r3:x.2.1<=131071
def sR(hb:Pk d o=true)(h:vV x):vV (Ng d x o):=by
 obtain ⟨r0,m0,m1,r1,r2,r3⟩:=h;obtain ⟨f,rest,c⟩:=x;dsimp only at r0 m0 m1 r1 r2 r3;have v:=WH hb;have a:=OK (x:=rest*64) (by lia) v.2.1;unfold Ng;dsimp only;generalize bitOr (rest*64) (iw d o)=R at a;induction q:decide (16<=c+6) with
 |true=>
  have q:=of_decide_eq_true q;have e:(1:Int)<=2^(c+6-16).toNat/\(2:Int)^(c+6-16).toNat<=32:=by rcases (by lia:c=10\/c=11\/c=12\/c=13\/c=14\/c=15) with h|h|h|h|h|h<;>subst h<;>decide
  have b:=Fg (x:=R) (k:=1*2^(c+6-16).toNat-1) a.1 (by lia);generalize (2:Int)^(c+6-16).toNat=P at e b;refine ⟨b.1,?_,?_,λy=> ?_,λy=> ?_,?_⟩<;>(simp only [br];lia)
 |false=>have q:=of_decide_eq_false q;refine ⟨a.1,?_,?_,λz=> ?_,λz=> ?_,?_⟩<;>(simp only [br] at*;lia)
def VC(a:Bool)(o:Nat)(x:U7):(Ng a x o).1.length<=x.1.length+1:=by unfold Ng;induction decide (16<=x.2.2+6)<;>simp only [br,length_append,length_cons,length_nil]<;>lia
abbrev BZ(l:List Nat)(a b:Int)(c:Bool)(x:U7)(v:Slot):List Slot:= [.a (.v (.bytes l)),.a (.v (.int a)),.a (.v (.int b)),.a (.v (.bool c)),.own (x.1.map .int),.a (.v (.int x.2.1)),.a (.v (.int x.2.2)),v]
theorem eC(n:Nat)(st:ia)(l:List Nat)(a h:Int)(d:Bool):∀(s:List Nat) (x:U7) (v:Slot),(∀o∈s,Pk d o=true)->vV x->x.1.length+s.length<big->∃m,runs (ua (ja (n+1)) 2000 (.seq (.asg 5 (.bin .BitOr (.bin .LShift (.var 5) (.glob 15)) (.call 6 (.cons (.var 7) (.cons (.var 3) .nil))))) (.seq (.aug 6 .Add (.glob 15)) (.seq (.ifs (.cmp .GtE (.var 6) (.glob 16)) (.seq (.aug 6 .Sub (.glob 16)) (.seq (.app 4 (.bin .RShift (.var 5) (.var 6))) (.seq (.asg 5 (.bin .BitAnd (.var 5) (.bin .Sub (.bin .LShift (.cst (.int 1)) (.var 6)) (.cst (.int 1))))) .skip))) .skip) .skip)))) [7] (s.map λ(o:Nat)=>FV.int (o:Int)) (BZ l a h d x v) st=some (.next,BZ l a h d (s.foldl (Ng d) x) m,st)
 | [],x,v,b,c,u=>⟨v,rfl⟩|o::s,(g,rest,e),v,t,i,r=>by
  have hb:=t o (.head _);have V:=WH hb;obtain ⟨m,D⟩:=eC n st l a h d s (Ng d (g,rest,e) o) (.a (.v (.int o))) (λy C=>t y (.tail _ C)) (sR hb i) (by have:=VC d o (g,rest,e);rw [length_cons] at r;lia);refine ⟨m,(Jd (q:=some (.next,BZ l a h d (Ng d (g,rest,e) o) (.a (.v (.int o))),st)) rfl ?_).trans D⟩;have j:=aJ n st o d;rw [V.1] at j;have w:small rest=true:=Kc i.r0 (Int.lt_of_le_of_lt i.r3 (by decide));have s1:small 1=true:=(Yb _).trans rfl;have ap:∀z,tf (g.map FV.int) (.int z)=some ((g++ [z]).map FV.int):=λz=>(if_pos (by rw [length_map];dsimp only [length_cons] at r;lia)).trans (congrArg some (map_append (l₁:=g) (l₂:= [z]) (f:=FV.int)).symm);unfold Ng;dsimp only;induction q:decide (16<=e+6) with
  |true=>
   have p:0<=e+6-16:=by have:=of_decide_eq_true q;lia
   have A:=AD (k:=bitOr (rest*64) (iw d o)) p;have B:=tc p (by have:=i.m1;dsimp only at this;lia) s1;exact bc [.F 1 (tc (k':=6) (by decide) (by decide) w),.R 0 j,.B 5 q,.F 3 A,.L 0 (ap ((bitOr (rest*(64:Int)) (iw d o)).fdiv ((2:Int)^(e+(6:Int)- (16:Int)).toNat))),.F 0 B]
  |false=>exact bc [.F 1 (tc (k':=6) (by decide) (by decide) w),.R 0 j,.B 5 q]
def ki(a:Bool)(s:List Nat):U7:=s.foldl (Ng a) ([],0,0)
def ui(a:Bool)(s:List Nat):Bool:=decide ((ki a s).2.2<6)&&((ki a s).2.1==0)
theorem Qx(b:Bool):∀(s:List Nat) (x:U7),(s.foldl (Ng b) x).1.length<=x.1.length+s.length| [],a=>Nat.le_refl _|o::s,x=>by have c:=Qx b s (Ng b x o);have d:=VC b o x;rw [foldl_cons,length_cons];lia
def fH(n:Nat)(st:ia)(l:List Nat)(b:Bool)(at':Nat)(s r:List Nat)(J K:Int)(j:J=at')(m:K=at'+s.length)(q:l.length<=lim)(hA:At l at' (s++r))(p:∀o∈s,Pk b o=true):(ja (n+2)).call 10 [.v (.bytes l),.v (.int J),.v (.int K),.v (.bool b)] st=some (.ok (.v (.tup [.lst ((ki b s).1.map .int),.bool (ui b s)])),st):=by
 have c:=hA.len;rw [length_append] at c;have d:s.length<=lim:=by lia
 have g:=hA.slc (k:=s.length) (J:=K) m;rw [take_left,<-j] at g;have h:pb (.bytes s)=some (s.map λ(x:Nat)=>FV.int (x:Int)):=wy (Nat.le_trans d (by decide));obtain ⟨u,e⟩:=eC n st l J K b s ([],0,0) .u p ⟨by decide,by decide,by decide,λa=>by decide,λa=>by decide,by decide⟩ (by unfold lim at d;unfold big;simp;lia);unfold ui ki;generalize s.foldl (Ng b) ([],0,0)=x at e|-;obtain ⟨t,rest,f⟩:=x;induction i:decide (f<6) with|true=>exact xa [.F 0 g,.L 0 h,.S 0 e,.B 2 i]|false=>exact xa [.F 0 g,.L 0 h,.S 0 e,.B 2 i]
noncomputable def isTup:FV->Bool| .tup x=>true|x=>false
def Sk(l:List FV):List FV:=l.filter λx=> !isTup x
def dh(l:List FV):List FV:=l.filter isTup
noncomputable def pI(x:FV):Option (Int×FV):=match x with| .tup [.int p,w]=>some (p,w)|a=>none
def Kd(a:Int)(x:FV):FV:=match pI x with|some q=> .tup [.int (a+q.1),q.2]|none=>x
def Cv:Kd a (.tup [.int p,w])= .tup [.int (a+p),w]:=rfl
noncomputable def fl(p:Int)(w:Str):FV:= .tup [.int p,.str w]
noncomputable def Ui(c:Int):Bool:=(decide (32<=c)&&decide (c<=126))&& !(c==38)
def XI(n:Nat)(st:ia)(c:Int):(ja (n+1)).call 8 [.v (.int c)] st=some (.ok (.v (.bool (Ui c))),st):=by unfold Ui;induction a:decide (32<=c)&&decide (c<=126) with|true=>exact xa [.B 1 a]|false=>exact xa [.B 1 a]
def me(a:Bool)(k u:Int):Except Er (List FV×Nat×Int):=br (Ua u||Ib u) (.ok ([fl ((k*16).fdiv 6) xB,.none],0,k+1)) (br (a&&(Ui u||u==38)) (.ok ([.int u,fl ((k*16).fdiv 6) YH],0,k+1)) (.ok ([.int u],0,k+1)))
def ud(a:Bool):kc Int Int:=λk u r=>match r with|v::x=>br (Ua u&&Ib v) (.ok ([.int (65536+(u-55296)*1024+v-56320)],1,k+2)) (me a k u)| []=>me a k u
def G4(h:me d k u= .ok (e,j,k')):j=0/\e.length<=2:=by unfold me at h;induction q:Ua u||Ib u with|true=>rw [q] at h;(injection h with h;injection h with a h;injection h with b c;subst a b c);exact ⟨rfl,by simp⟩|false=>rw [q] at h;induction q2:d&&(Ui u||u==38) with|true=>rw [q2] at h;(injection h with h;injection h with a h;injection h with b c;subst a b c);exact ⟨rfl,by simp⟩|false=>rw [q2] at h;(injection h with h;injection h with a h;injection h with b c;subst a b c);exact ⟨rfl,by simp⟩
def F4(a:Bool):Wf (ud a):=λk u r e j k' h=>by induction r with|nil=>have:=G4 h;lia|cons v r=>simp only [ud] at h;induction q:Ua u&&Ib v with|true=>rw [q] at h;(injection h with h;injection h with b h;injection h with c d;subst b c d);simp|false=>rw [q] at h;have:=G4 h;rw [length_cons];lia
theorem Cf{step:kc j l}(H:∀s o r d,step s o r≠ .error d):∀(n:Nat) (i:Int) (s:l) (r:List j),r.length<=n->∀e,sc step i s r≠ .error e|z,c,u,[],v,e,h=>by rw [Ck] at h;injection h|0,z,c,u::v,h,t,p=>by simp at h|n+1,i,s,o::r,g,e,h=>by simp only [length_cons,Nat.add_le_add_iff_right] at g;induction q:step s o r with|error d=>exact H _ _ _ _ q|ok x=>obtain ⟨m,k,s'⟩:=x;rw [Ud q] at h;induction q2:sc step (i+k+1) s' (r.drop k) with|error f=>exact Cf H n _ _ _ (by rw [length_drop];lia) f q2|ok y=>rw [q2] at h;obtain ⟨a,b⟩:=y;injection h
def Vu:me a k u≠ .error d:=by unfold me;induction Ua u||Ib u<;>induction a&&(Ui u||u==38)<;>exactλh=>nomatch h
def TH(a:Bool):∀k u r d,ud a k u r≠ .error d:=λk u r d=>by induction r with|nil=>exact Vu|cons v r=>simp only [ud];induction Ua u&&Ib v with|true=>exactλh=>nomatch h|false=>exact Vu
def At.idxL{i k:Nat}(h:At us i r)(b:r[k]? =some u)(a:j=(i:Int)+(k:Int)):jc (.lst (us.map .int)) j=some (.int u):=by subst a;unfold jc;rw [if_neg (by lia),show ((i:Int)+(k:Int)).toNat=i+k by lia];dsimp only;rw [if_pos (by rw [length_map];exact h.big),getElem?_map,<-getElem?_drop,h.eq,b];rfl
abbrev km(l:List Nat)(a b:Int)(c:Bool)(e:List Int)(d:Bool)(C F:List FV)(i:Int)(x y:Slot):List Slot:= [.a (.v (.bytes l)),.a (.v (.int a)),.a (.v (.int b)),.a (.v (.bool c)),.a (.v (.lst (e.map .int))),.a (.v (.bool d)),.own C,.own F,.a (.v (.int i)),x,y]
def ah(a b:List FV):Sk (a++b)=Sk a++Sk b:=filter_append ..
def uT(a b:List FV):dh (a++b)=dh a++dh b:=filter_append ..
def YW{st:ia}{Q:List Slot->Prop}(a:P)(h:Nx r st Q):Nx r st λsl=>P/\Q sl:=by obtain ⟨sl,e,q⟩:=h;exact ⟨sl,e,a,q⟩
theorem Py{step:kc A j}(W:Wf step):∀(n:Nat) (i:Int) (s:j) (r:List A) (l:List FV) (s':j),r.length<=n->sc step i s r= .ok (l,s')->l.length<=2*r.length|a,b,z,[],c,u,v,h=>by rw [Ck] at h;(injection h with h;injection h with f g;subst f g);simp|0,a,b,z::c,u,v,h,t=>by simp at h|n+1,i,s,o::r,l,s',m,h=>by simp only [length_cons,Nat.add_le_add_iff_right] at m;induction q:step s o r with|error d=>rw [fg q] at h;injection h|ok x=>obtain ⟨B,k,s1⟩:=x;have w:=W _ _ _ _ _ _ q;rw [Ud q] at h;induction q2:sc step (i+k+1) s1 (r.drop k) with|error e=>rw [q2] at h;injection h|ok y=>obtain ⟨l2,s2⟩:=y;rw [q2] at h;have p:=Py W n _ _ _ _ _ (by rw [length_drop];lia) q2;(injection h with h;injection h with f g;subst f g);rw [length_drop] at p;rw [length_append,length_cons];lia
def Qz(a:Int)(x y:List FV):(dh (x++y)).map (Kd a)=(dh x).map (Kd a)++(dh y).map (Kd a):=(congrArg _ (uT x y)).trans (map_append ..)
def xO(a:Int)(h:dh y= []):(dh (x++y)).map (Kd a)=(dh x).map (Kd a):=by rw [Qz,h];exact append_nil _
noncomputable def rdQ:E:= .cmp .Lt (.var 8) (.len (.var 4))
def ir:S:= .seq (.asgs [(9,false),(10,false)] (.cons (.idx (.var 4) (.var 8)) (.cons (.bin .Add (.var 1) (.bin .FloorDiv (.bin .Mult (.var 8) (.glob 16)) (.glob 15))) .nil))) (.seq (.ifs (.and (.call 1 (.cons (.var 9) .nil)) (.and (.cmp .Lt (.bin .Add (.var 8) (.cst (.int 1))) (.len (.var 4))) (.call 2 (.cons (.idx (.var 4) (.bin .Add (.var 8) (.cst (.int 1)))) .nil)))) (.seq (.app 6 (.bin .Sub (.bin .Add (.bin .Add (.cst (.int 65536)) (.bin .LShift (.bin .Sub (.var 9) (.cst (.int 55296))) (.cst (.int 10)))) (.idx (.var 4) (.bin .Add (.var 8) (.cst (.int 1))))) (.cst (.int 56320)))) (.seq (.aug 8 .Add (.cst (.int 2))) .skip)) (.seq (.ifs (.or (.call 1 (.cons (.var 9) .nil)) (.call 2 (.cons (.var 9) .nil))) (.seq (.app 7 (.tup (.cons (.var 10) (.cons (.glob 20) .nil)))) (.seq (.app 6 (.cst .none)) .skip)) (.seq (.app 6 (.var 9)) (.seq (.ifs (.and (.var 3) (.or (.call 8 (.cons (.var 9) .nil)) (.cmp .Eq (.var 9) (.glob 9)))) (.seq (.app 7 (.tup (.cons (.var 10) (.cons (.glob 22) .nil)))) .skip) .skip) .skip))) (.seq (.aug 8 .Add (.cst (.int 1))) .skip))) .skip)
inductive RD(l:List Nat)(a b':Int)(mail ev:Bool)(us:List Int):Int->Int->List FV->List Slot->Prop
 |mk {i k j:Int} {fd C F:List FV} (x y:Slot) (hk:k=i) (hj:j=i) (hC:Sk fd=C) (hF:(dh fd).map (Kd a)=F):RD l a b' mail ev us i k fd (km l a b' mail us ev C F j x y)
def bU(n:Nat)(st:ia)(l:List Nat)(a C:Int)(b F:Bool)(f:List Int)(X:f.length<=lim)(i:Nat)(u:Int)(r:List Int)(fd:List FV)(x y:Slot)(hA:At f i (u::r))(W:fd.length<=2*i):
  match ud b i u r with| .ok (V,k,s')=>Nx (ua (ja (n+1)) 2000 ir (km l a C b f F (Sk fd) ((dh fd).map (Kd a)) i x y) st) st (RD l a C b F f ((i:Int)+k+1) s' (fd++V))| .error d=>Ex (ua (ja (n+1)) 2000 ir (km l a C b f F (Sk fd) ((dh fd).map (Kd a)) i x y) st) st ((i:Int)+d):=by
 have A:=hA.len;rw [length_cons] at A;have P:i<=lim:=Nat.le_trans (A▸le_add_right i _) X;have D:Rg (.lst (f.map .int))=some (.int (f.length:Int)):=(jS (by rw [length_map];exact hA.big)).trans (by rw [length_map]);have o:jc (.lst (f.map .int)) (i:Int)=some (.int u):=hA.idxL (k:=0) (u:=u) rfl (by lia);have m:small (i:Int)=true:=Kc (by lia) (by unfold lim at P;lia);have Vt:small 16=true:=(Yb _).trans rfl;have h:fd.length<big:=Nat.lt_of_le_of_lt (Nat.le_trans W (mul_le_mul_left 2 P)) (by decide);have g:∀z,tf (Sk fd) z=some (Sk fd++ [z]):=λz=>if_pos (Nat.lt_of_le_of_lt (length_filter_le ..) h);have q:∀z,tf ((dh fd).map (Kd a)) z=some ((dh fd).map (Kd a)++ [z]):=λz=>if_pos (by rw [length_map];exact Nat.lt_of_le_of_lt (length_filter_le ..) h);have e:= @Hj n;have p:= @Wy n;have G:= @XI n;induction c:Ua u with
 |true=>
  have j:me b i u= .ok ([fl (((i:Int)*16).fdiv 6) xB,.none],0,(i:Int)+1):=by unfold me;rw [c];rfl
  induction r with|nil=>have t:decide ((i:Int)+1<(f.length:Int))=false:=decide_eq_false (by rw [length_nil] at A;lia);rw [show ud b i u []=_ from j];unfold ir km;exact qd [.F 0 o,.F 1 (jb m Vt),.R 3 (e st u),.B 0 c,.F 1 D,.B 1 t,.R 2 (e st u),.B 0 c,.L 3 (q (.tup [.int (a+(↑i*(16:Int)).fdiv (6:Int)),.str xB])),.L 0 (g (.none))] (.mk _ _ (by lia) (by lia) (ah ..) (Qz ..))|cons v r=>have t:decide ((i:Int)+1<(f.length:Int))=true:=decide_eq_true (by rw [length_cons] at A;lia);have L:jc (.lst (f.map .int)) ((i:Int)+1)=some (.int v):=hA.idxL (k:=1) (u:=v) rfl (by lia);have B:ud b i u (v::r)=br (Ua u&&Ib v) (.ok ([.int (65536+(u-55296)*1024+v-56320)],1,(i:Int)+2)) (me b i u):=rfl;induction w:Ib v with|true=>rw [c,w] at B;rw [B];have O:=and_eq_true_iff.mp c;have su:small (u-55296)=true:=Kc (by have:=of_decide_eq_true O.1;lia) (by have:=of_decide_eq_true O.2;lia);unfold ir km;exact qd [.F 0 o,.F 1 (jb m Vt),.R 3 (e st u),.B 0 c,.F 1 D,.B 1 t,.F 2 L,.R 0 (p st v),.B 0 w,.F 1 (tc (k':=10) (by decide) (by decide) su),.F 2 L,.L 2 (g (.int (65536+(u-55296)*2^toNat 10+v-56320)))] (.mk _ _ (by lia) (by lia) (ah ..) (xO _ rfl))|false=>rw [c,w] at B;rw [show ud b i u (v::r)=_ from B.trans j];unfold ir km;exact qd [.F 0 o,.F 1 (jb m Vt),.R 3 (e st u),.B 0 c,.F 1 D,.B 1 t,.F 2 L,.R 0 (p st v),.B 0 w,.R 0 (e st u),.B 0 c,.L 3 (q (.tup [.int (a+(↑i*(16:Int)).fdiv (6:Int)),.str xB])),.L 0 (g (.none))] (.mk _ _ (by lia) (by lia) (ah ..) (Qz ..))
 |false=>rw [show ud b i u r=me b i u by unfold ud;rw [c];induction r<;>rfl];unfold me;rw [c];induction s:Ib u with|true=>unfold ir km;exact qd [.F 0 o,.F 1 (jb m Vt),.R 3 (e st u),.B 0 c,.R 1 (e st u),.B 0 c,.R 0 (p st u),.B 0 s,.L 2 (q (.tup [.int (a+(↑i*(16:Int)).fdiv (6:Int)),.str xB])),.L 0 (g (.none))] (.mk _ _ (by lia) (by lia) (ah ..) (Qz ..))|false=>induction b with|false=>unfold ir km;exact qd [.F 0 o,.F 1 (jb m Vt),.R 3 (e st u),.B 0 c,.R 1 (e st u),.B 0 c,.R 0 (p st u),.B 0 s,.L 0 (g (.int u))] (.mk _ _ (by lia) (by lia) (ah ..) (xO _ rfl))|true=>induction H:Ui u with|true=>unfold ir km;exact qd [.F 0 o,.F 1 (jb m Vt),.R 3 (e st u),.B 0 c,.R 1 (e st u),.B 0 c,.R 0 (p st u),.B 0 s,.L 0 (g (.int u)),.R 1 (G st u),.B 0 H,.L 3 (q (.tup [.int (a+(↑i*(16:Int)).fdiv (6:Int)),.str YH]))] (.mk _ _ (by lia) (by lia) (ah ..) (Qz ..))|false=>induction M:(u==38) with|true=>unfold ir km;exact qd [.F 0 o,.F 1 (jb m Vt),.R 3 (e st u),.B 0 c,.R 1 (e st u),.B 0 c,.R 0 (p st u),.B 0 s,.L 0 (g (.int u)),.R 1 (G st u),.B 0 H,.B 3 M,.L 2 (q (.tup [.int (a+(↑i*(16:Int)).fdiv (6:Int)),.str YH]))] (.mk _ _ (by lia) (by lia) (ah ..) (Qz ..))|false=>unfold ir km;exact qd [.F 0 o,.F 1 (jb m Vt),.R 3 (e st u),.B 0 c,.R 1 (e st u),.B 0 c,.R 0 (p st u),.B 0 s,.L 0 (g (.int u)),.R 1 (G st u),.B 0 H,.B 3 M] (.mk _ _ (by lia) (by lia) (ah ..) (xO _ rfl))
def run_read(n:Nat)(st:ia)(l:List Nat)(a m:Int)(f s:Bool)(g:List Int)(t:g.length<=lim):
  ∃fd x y,sc (ud f) 0 0 g= .ok (fd,(g.length:Int))/\fd.length<=2*g.length/\ua (ja (n+1)) 2000 (.whl rdQ ir) (km l a m f g s [] [] 0 .u .u) st=some (.next,km l a m f g s (Sk fd) ((dh fd).map (Kd a)) g.length x y,st):=by
 have v:Rg (.lst (g.map .int))=some (.int (g.length:Int)):=(jS (by rw [length_map];exact Nat.le_trans t (show lim<=big by decide))).trans (by rw [length_map]);have L:=Pu (l:=g) (c:=pa (ja (n+1)) rdQ) (b:=ua (ja (n+1)) 2000 ir) (st:=st) (step:=ud f) (RD l a m f s g) (F4 f)
  (λi k fd sl hA j=>by obtain ⟨x,y,rfl,rfl,rfl,rfl⟩:=j;have p:=hA.end;exact Kh [.F 0 v,.B 1 p])
  (λi k fd sl o r hA j=>by obtain ⟨x,y,rfl,rfl,rfl,rfl⟩:=j;have p:=hA.lt;exact Kh [.F 0 v,.B 1 p])
  (λi k fd sl u r hA j w=>by obtain ⟨x,y,rfl,rfl,rfl,rfl⟩:=j;have h:=bU n st l a m f s g t i u r fd x y hA w;generalize ud f i u r=z at h|-;obtain d|⟨A,k,s'⟩:=z<;>exact h) g.length 2000 0 0 [] (km l a m f g s [] [] 0 .u .u) g (Nat.le_refl _) (Nat.lt_of_le_of_lt t (by decide)) (At.zero t) (.mk _ _ rfl rfl rfl rfl) (zero_le _)
 rw [show ((0:Nat):Int)=0 from rfl] at L;induction q:sc (ud f) 0 0 g with|error e=>exact absurd q (Cf (TH f) g.length 0 0 g (Nat.le_refl _) e)|ok z=>obtain ⟨fd,k⟩:=z;rw [q] at L;obtain ⟨sl',p,j⟩:=L;rw [nil_append,Int.zero_add] at j;obtain ⟨x,y,rfl,rfl,rfl,rfl⟩:=j;exact ⟨fd,x,y,rfl,Py (F4 f) _ _ _ _ _ _ (Nat.le_refl _) q,p⟩
def dw(a:Bool)(s:List Nat):List FV:=match sc (ud a) 0 0 (ki a s).1 with| .ok (fd,x)=>fd| .error x=> []
def Co(a:Bool)(s:List Nat):List FV:=Sk (dw a s)++br (ui a s) [] [.none]
def Ki(a:Bool)(s:List Nat):List FV:=dh (dw a s)++br (ui a s) [] [fl ((s.length:Int)-1) JV]
def gw(n:Nat)(st:ia)(l:List Nat)(a:Bool)(at':Nat)(s r:List Nat)(J K:Int)(k:J=at')(m:K=at'+s.length)(t:l.length<=lim)(hA:At l at' (s++r))(u:∀o∈s,Pk a o=true):(ja (n+3)).call 11 [.v (.bytes l),.v (.int J),.v (.int K),.v (.bool a)] st=some (.ok (.v (.tup [.lst (Co a s),.lst ((Ki a s).map (Kd J))])),st):=by
 have c:=hA.len;rw [length_append] at c;have d:(ki a s).1.length<=lim:=by have:=Qx a s ([],0,0);unfold ki;rw [length_nil] at this;lia
 have b:=fH n st l a at' s r J K k m t hA u;obtain ⟨fd,x,y,q,p,e⟩:=run_read (n+1) st l J K a (ui a s) (ki a s).1 d;have i:dw a s=fd:=by unfold dw;rw [q]
 have g:∀z,tf (Sk fd) z=some (Sk fd++ [z]):=λz=>if_pos (by have:=length_filter_le (λx=> !isTup x) fd;unfold Sk;unfold lim at d;unfold big;lia);have h:∀z,tf ((dh fd).map (Kd J)) z=some ((dh fd).map (Kd J)++ [z]):=λz=>if_pos (by rw [length_map];have:=length_filter_le isTup fd;unfold dh;unfold lim at d;unfold big;lia);unfold Co Ki;rw [i,Oab];unfold yh;have j:K-1=J+((s.length:Int)-1):=by lia
 generalize (ki a s).1=v at e b;induction f:ui a s with|true=>rw [f] at e b;simp only [cO,append_nil];exact Ni [.R 0 b,.S 0 e]|false=>rw [f] at e b;simp only [bO,map_append,map_cons,map_nil,Cv,fl];rw [<-j];exact Ni [.R 0 b,.S 0 e,.L 5 (h (.tup [.int (K-1),.str JV])),.L 0 (g .none)]
noncomputable def Xh(o:Int):Bool:=(decide (0<=o)&&decide (o<128))&&(((decide (65<=o)&&decide (o<=90))||((decide (97<=o)&&decide (o<=122))||((decide (48<=o)&&decide (o<=57))|| [39,40,41,44,45,46,47,58,63,9,10,13,32].any λ(y:Nat)=>decide ((y:Int)=o))))|| [33,34,35,36,37,38,42,59,60,61,62,64,91,93,94,95,96,123,124,125].any λ(y:Nat)=>decide ((y:Int)=o))
def LW(x:Int)(l:List Nat)(a:0<=x)(b:x<256):yb .In (.int x) (.bytes l)=some (l.any λy=>decide ((y:Int)=x)):=by show (gd (decide (0<=x)&&decide (x<256)) _).or _=_;rw [decide_eq_true a,decide_eq_true b];rfl
def ZK(n:Nat)(st:ia)(o:Int)(e:0<=o)(f:o<256):(ja (n+1)).call 7 [.v (.int o),.v (.bool true)] st=some (.ok (.v (.bool (Xh o))),st):=by
 have k1:=LW o [39,40,41,44,45,46,47,58,63,9,10,13,32] e f;have k2:=LW o [33,34,35,36,37,38,42,59,60,61,62,64,91,93,94,95,96,123,124,125] e f;unfold Xh;generalize ([39,40,41,44,45,46,47,58,63,9,10,13,32].any λ(y:Nat)=>decide ((y:Int)=o))=A at k1|-;generalize ([33,34,35,36,37,38,42,59,60,61,62,64,91,93,94,95,96,123,124,125].any λ(y:Nat)=>decide ((y:Int)=o))=B at k2|-;induction a:decide (0<=o)&&decide (o<128) with|false=>exact xa [.B 1 a]|true=>
 induction b:decide (65<=o)&&decide (o<=90) with|true=>exact xa [.B 1 a,.B 3 b]|false=>
 induction c:decide (97<=o)&&decide (o<=122) with|true=>exact xa [.B 1 a,.B 3 b,.B 2 c]|false=>
 induction d:decide (48<=o)&&decide (o<=57) with|true=>exact xa [.B 1 a,.B 3 b,.B 2 c,.B 2 d]|false=>
 induction A with|true=>exact xa [.B 1 a,.B 3 b,.B 2 c,.B 2 d,.O 2 k1]|false=>exact xa [.B 1 a,.B 3 b,.B 2 c,.B 2 d,.O 2 k1,.O 4 k2]
theorem mw(a:Bool):∀(r:List Nat) (o:Nat),o∈r.take (cnt a r)->Pk a o=true
 | [],o,h=>by simp at h|x::r,o,h=>by
  unfold cnt at h;induction q:Pk a x with
  |false=>rw [q] at h;simp [br] at h|true=>
   rw [q] at h;simp only [br,take_succ_cons] at h;rcases mem_cons.mp h with rfl|h;·exact q
   ·exact mw a r o h
noncomputable def Lc:List Nat->Bool|y::x=>(y:Int)==45| []=>false
def ie(o:Nat)(r:List Nat):List FV×List FV×Nat:=br (!((o:Int)==43)) (br (Xh o) ([.int o],[],0) ([.none],[fl 0 c11],0))
  (br (cnt false r==0) (br (Lc r) ([.int 43],[],1) ([.none],[fl 0 c12],0))
   (Co false (r.take (cnt false r)),(Ki false (r.take (cnt false r))).map (Kd 1),br (Lc (r.drop (cnt false r))) (cnt false r+1) (cnt false r)))
def rU(a b:Int)(x:FV):Kd a (Kd b x)=Kd (a+b) x:=by
 induction h:pI x with
 |none=>
  have e:∀c,Kd c x=x:=λc=>by unfold Kd;rw [h]
  rw [e,e,e]
 |some q=>
  have e:∀c,Kd c x= .tup [.int (c+q.1),q.2]:=λc=>by unfold Kd;rw [h]
  rw [e,e,Cv,Int.add_assoc]
def At.closed{l r:List Nat}{j:Nat}{J:Int}(a:J=j)(h:At l j r):(decide (J<(l.length:Int))=false/\Lc r=false)\/(decide (J<(l.length:Int))=true/\∃y:Nat,jc (.bytes l) J=some (.int y)/\((y:Int)==45)=Lc r):=by subst a;induction r with|nil=>exact .inl ⟨h.end,rfl⟩|cons y r=>exact .inr ⟨h.lt,y,h.idx (k:=0) (o:=y) rfl (by lia),rfl⟩
def At.skip{l r:List Nat}{i k:Nat}(h:At l i r)(a:k<=r.length):At l (i+k) (r.drop k):=by have e:r=r.take k++r.drop k:=(take_append_drop k r).symm;rw [e] at h;have:=h.go;rw [length_take,Nat.min_eq_left a] at this;exact this
def gH(n at':Nat)(st:ia)(l:List Nat)(u:l.length<=lim)(w:Rb l)(o:Nat)(r:List Nat)(hA:At l at' (o::r)):(ja (n+4)).call 12 [.v (.bytes l),.v (.int at')] st=some (.ok (.v (.tup [.lst (ie o r).1,.lst ((ie o r).2.1.map (Kd at')),.int ((at':Int)+(ie o r).2.2+1)])),st):=by
 have b:jc (.bytes l) (at':Int)=some (.int o):=hA.idx (k:=0) (o:=o) rfl (by lia);have hb:=hA.byte w (k:=0) (o:=o) rfl;have t:=ZK (n+2) st (o:Int) (by lia) (by lia);have i:=Oc hA.big;unfold ie;induction q:((o:Int)==43) with
 |false=>induction q2:Xh (o:Int) with|true=>simp only [br,Bool.not_false,map_nil];rw [show (at':Int)+((0:Nat):Int)+1=at'+1 by lia];exact xa [.F 0 b,.B 3 (congrArg not q),.R 0 t,.B 0 q2]|false=>simp only [br,Bool.not_false,map_cons,map_nil,fl,Cv];rw [show (at':Int)+((0:Nat):Int)+1=at'+1 by lia,Int.add_zero];exact xa [.F 0 b,.B 3 (congrArg not q),.R 0 t,.B 0 q2]
 |true=>
  have f:=Xy (n+1) st l u false (at'+1) ((at':Int)+1) (by lia) r hA.next;have s:=uh false r;have g:=(hA.next.skip s).closed (J:=(at':Int)+1+(cnt false r:Nat)) (by lia);have c:=gw n st l false (at'+1) (r.take (cnt false r)) (r.drop (cnt false r)) ((at':Int)+1) ((at':Int)+1+(cnt false r:Nat)) (by lia) (by rw [length_take,Nat.min_eq_left s];lia) u (by rw [take_append_drop];exact hA.next) (mw false r);rw [show ((at'+1:Nat):Int)+((cnt false r:Nat):Int)=(at':Int)+1+(cnt false r:Nat) by lia] at f;have d:((at':Int)+1+(cnt false r:Nat)==(at':Int)+1)=(cnt false r==0):=by induction p:cnt false r with|zero=>simp|succ k=>simp;lia
  have z:(Ki false (r.take (cnt false r))).map (Kd ((at':Int)+1))=((Ki false (r.take (cnt false r))).map (Kd 1)).map (Kd at'):=by rw [map_map];congr 1;funext x;exact (rU _ _ _).symm
  rw [z] at c;have v:(cnt false r==0)=true->r.drop (cnt false r)=r:=λh=>by rw [eq_of_beq h];rfl
  generalize Co false (r.take (cnt false r))=C at c|-;generalize (Ki false (r.take (cnt false r))).map (Kd 1)=X at c|-;induction j:cnt false r==0 with
  |true=>
   rw [v j] at g;rw [j] at d;rcases g with ⟨c1,c2⟩|⟨c1,y,c2,a⟩;·rw [c2];simp only [br,Bool.not_true,map_cons,map_nil,fl,Cv];have p:=eq_of_beq j;rw [show (at':Int)+((0:Nat):Int)+1=at'+1+(cnt false r:Nat) by lia,Int.add_zero];exact xa [.F 0 b,.B 3 (congrArg not q),.R 1 f,.F 0 i,.B 1 c1,.B 3 d]
   ·induction m:Lc r with|true=>rw [m] at a;simp only [br,Bool.not_true,map_nil];have p:=eq_of_beq j;rw [show (at':Int)+((1:Nat):Int)+1=at'+1+(cnt false r:Nat)+1 by lia];exact xa [.F 0 b,.B 3 (congrArg not q),.R 1 f,.F 0 i,.B 1 c1,.F 1 c2,.B 2 a,.B 2 d]|false=>rw [m] at a;simp only [br,Bool.not_true,map_cons,map_nil,fl,Cv];have p:=eq_of_beq j;rw [show (at':Int)+((0:Nat):Int)+1=at'+1+(cnt false r:Nat) by lia,Int.add_zero];exact xa [.F 0 b,.B 3 (congrArg not q),.R 1 f,.F 0 i,.B 1 c1,.F 1 c2,.B 2 a,.B 2 d]
  |false=>
   rw [j] at d;generalize cnt false r=e at*;rcases g with ⟨c1,c2⟩|⟨c1,y,c2,a⟩;·rw [c2];simp only [br,Bool.not_true];rw [show (at':Int)+(e:Nat)+1=at'+1+(e:Nat) by lia];exact xa [.F 0 b,.B 3 (congrArg not q),.R 1 f,.F 0 i,.B 1 c1,.B 3 d,.R 2 c]
   ·induction m:Lc (r.drop e) with|true=>rw [m] at a;simp only [br,Bool.not_true];rw [show (at':Int)+((e+1:Nat):Int)+1=at'+1+(e:Nat)+1 by lia];exact xa [.F 0 b,.B 3 (congrArg not q),.R 1 f,.F 0 i,.B 1 c1,.F 1 c2,.B 2 a,.B 2 d,.R 2 c]|false=>rw [m] at a;simp only [br,Bool.not_true];rw [show (at':Int)+(e:Nat)+1=at'+1+(e:Nat) by lia];exact xa [.F 0 b,.B 3 (congrArg not q),.R 1 f,.F 0 i,.B 1 c1,.F 1 c2,.B 2 a,.B 2 d,.R 2 c]
theorem Oy{step:kc B p}{P:FV->Prop}(H:∀s o r g k s',step s o r= .ok (g,k,s')->∀x∈g,P x):∀(n:Nat) (i:Int) (s:p) (r:List B) (l:List FV) (s':p),r.length<=n->sc step i s r= .ok (l,s')->∀x∈l,P x
 |a,b,z,[],c,u,v,h=>by rw [Ck] at h;(injection h with h;injection h with j m;subst j m);intro x f;contradiction|0,a,b,z::c,u,v,h,t=>by simp at h|n+1,i,s,o::r,l,s',w,h=>by
  simp only [length_cons,Nat.add_le_add_iff_right] at w;induction q:step s o r with
  |error d=>rw [fg q] at h;injection h|ok x=>
   obtain ⟨g,k,s1⟩:=x;rw [Ud q] at h;induction q2:sc step (i+k+1) s1 (r.drop k) with
   |error e=>rw [q2] at h;injection h|ok y=>
    obtain ⟨l2,s2⟩:=y;rw [q2] at h;have A:=Oy H n _ _ _ _ _ (by rw [length_drop];lia) q2;(injection h with h;injection h with j m;subst j m);intro x f;rcases mem_append.mp f with f|f;·exact H _ _ _ _ _ _ q x f
    ·exact A x f
def zr(f:FV):Prop:=∃p w,f=fl p w/\PyData.strOk w=true
def fz(h:me e k u= .ok (g,j,k')):∀x∈g,isTup x=true->zr x:=by
 unfold me at h;have i:∀p,zr (fl p xB):=λp=>⟨p,xB,rfl,by decide+kernel⟩;have l:∀p,zr (fl p YH):=λp=>⟨p,YH,rfl,by decide+kernel⟩;intro x a f;induction q:Ua u||Ib u with
 |true=>
  rw [q] at h;(injection h with h;injection h with b h;injection h with c d;subst b c d);simp only [mem_cons,not_mem_nil,or_false] at a;rcases a with rfl|rfl;·exact i _
  ·injection f
 |false=>
  rw [q] at h;induction q2:e&&(Ui u||u==38) with
  |true=>
   rw [q2] at h;(injection h with h;injection h with b h;injection h with c d;subst b c d);simp only [mem_cons,not_mem_nil,or_false] at a;rcases a with rfl|rfl;·injection f
   ·exact l _
  |false=>rw [q2] at h;(injection h with h;injection h with b h;injection h with c d;subst b c d);simp only [mem_cons,not_mem_nil,or_false] at a;subst a;injection f
def NN(a:Bool):∀(k u:Int) (r:List Int) (b:List FV) (j:Nat) (k':Int),ud a k u r= .ok (b,j,k')->∀x∈b,isTup x=true->zr x:=λk u r b j k' h=>by induction r with|nil=>exact fz h|cons v r=>simp only [ud] at h;induction q:Ua u&&Ib v with|true=>rw [q] at h;(injection h with h;injection h with d h;injection h with e f;subst d e f);intro x c g;simp only [mem_cons,not_mem_nil,or_false] at c;subst c;injection g|false=>rw [q] at h;exact fz h
def KI(a:Bool)(s:List Nat):(dw a s).length<=2*s.length:=by unfold dw;have b:=Qx a s ([],0,0);rw [length_nil] at b;induction q:sc (ud a) 0 0 (ki a s).1 with|error e=>simp|ok z=>obtain ⟨fd,k⟩:=z;have:=Py (F4 a) _ _ _ _ _ _ (Nat.le_refl _) q;unfold ki at this;dsimp only;lia
def JI(a:Bool)(s:List Nat):(Co a s).length<=2*s.length+1:=by have b:=KI a s;have c:=length_filter_le (λx=> !isTup x) (dw a s);unfold Co Sk;rw [length_append];induction ui a s<;>simp only [br,length_cons,length_nil]<;>lia
def LI(a:Bool)(s:List Nat):(Ki a s).length<=2*s.length+1:=by have b:=KI a s;have c:=length_filter_le isTup (dw a s);unfold Ki dh;rw [length_append];induction ui a s<;>simp only [br,length_cons,length_nil]<;>lia
def BS(a:Bool)(s:List Nat):∀x∈Ki a s,zr x:=by
 intro x b;unfold Ki at b;rcases mem_append.mp b with b|b;·have b:=mem_filter.mp b;unfold dw at b;induction q:sc (ud a) 0 0 (ki a s).1 with|error e=>rw [q] at b;cases b.1|ok z=>obtain ⟨fd,k⟩:=z;rw [q] at b;exact Oy (P:=λx=>isTup x=true->zr x) (NN a) _ _ _ _ _ _ (Nat.le_refl _) q x b.1 b.2
 ·induction h:ui a s with|true=>rw [h] at b;contradiction|false=>rw [h] at b;simp only [br,mem_cons,not_mem_nil,or_false] at b;exact ⟨_,_,b,by decide+kernel⟩
def mF(h:zr x):zr (Kd a x):=by obtain ⟨p,w,rfl,b⟩:=h;exact ⟨a+p,w,rfl,b⟩
theorem zS:∀(F:List FV),(∀x∈F,zr x)->∃xs,FV.pys F=some xs/\canLayAll0 xs=true/\depthAll xs<=1/\xs.length=F.length
 | [],a=>⟨[],rfl,rfl,zero_le _,rfl⟩|x::F,h=>by
  obtain ⟨p,w,rfl,f⟩:=h x (.head _);obtain ⟨xs,c,d,i,e⟩:=zS F λy g=>h y (.tail _ g);have b:FV.py (fl p w)=some (.tuple [.int p,.str w]):=rfl;refine ⟨.tuple [.int p,.str w]::xs,by simp only [FV.pys,b,c],?_,?_,by rw [length_cons,length_cons,e]⟩;·simp only [canLayAll0,canLay0,f,d,Bool.and_self]
  ·simp only [depthAll,PyData.depth];lia
def cy(c:∀k:Str->Option Bool,onStr a k=none)(d:a.py=some x)(e:b.py=some y)(s1:shaped x=true)(s2:shaped y=true):Oh a b=some (eqv x y):=by unfold Oh PR;rw [c,d,e];show (gd (shaped x&&shaped y) _).or _=_;rw [s1,s2];rfl
def XW(h:∀x∈F,zr x):yb .NotEq (.lst F) (.lst [])=some (!F.isEmpty):=by
 obtain ⟨xs,d,e,g,b⟩:=zS F h;have c:FV.py (.lst F)=some (.list xs):=by simp only [FV.py,d]
 have a2:FV.py (.lst [])=some (.list []):=rfl;have s1:shaped (.list xs)=true:=by unfold shaped;simp only [canLay0,e,PyData.depth,Bool.true_and];exact decide_eq_true (by lia)
 have s2:shaped (.list [])=true:=by decide
 show (Oh _ _).map not=_;rw [cy (λa=>rfl) c a2 s1 s2];induction F with
 |nil=>induction xs with|nil=>rfl|cons a y=>injection b
 |cons f F=>induction xs with|nil=>injection b|cons a y=>rfl
def kY(o:Nat)(r:List Nat):∀x∈(ie o r).2.1,zr x:=by
 unfold ie;intro x a;induction q:(o:Int)==43 with
 |false=>rw [q] at a;simp only [br,Bool.not_false] at a;induction q2:Xh o with|true=>rw [q2] at a;contradiction|false=>rw [q2] at a;simp only [mem_cons,not_mem_nil,or_false] at a;exact ⟨_,_,a,by decide+kernel⟩
 |true=>
  rw [q] at a;simp only [br,Bool.not_true] at a;induction q2:cnt false r==0 with
  |true=>rw [q2] at a;induction q3:Lc r with|true=>rw [q3] at a;contradiction|false=>rw [q3] at a;simp only [mem_cons,not_mem_nil,or_false] at a;exact ⟨_,_,a,by decide+kernel⟩
  |false=>rw [q2] at a;obtain ⟨y,b,rfl⟩:=mem_map.mp a;exact mF (BS false _ y b)
def vv(o:Nat)(r:List Nat):(ie o r).2.2<=r.length/\(ie o r).1.length<=2*((ie o r).2.2+1)/\(ie o r).2.1.length<=2*r.length+1:=by
 unfold ie;have d:=uh false r;have b:=JI false (r.take (cnt false r));have c:=LI false (r.take (cnt false r));rw [length_take,Nat.min_eq_left d] at b c;have a:∀{t:List Nat},Lc t=true->1<=t.length:=λ{t} h=>by induction t<;>simp_all [Lc]
 induction (o:Int)==43 with
 |false=>induction Xh o<;>simp [br]
 |true=>
  induction q2:cnt false r==0 with
  |true=>induction q3:Lc r with|true=>have:=a q3;simp [br];lia|false=>simp [br]
  |false=>induction q3:Lc (r.drop (cnt false r)) with|true=>have:=a q3;rw [length_drop] at this;simp only [br,Bool.not_true,length_map];lia|false=>simp only [br,Bool.not_true,length_map];lia
noncomputable def plc:FV->Int| .tup [.int p,x]=>p|x=>0
def tL(x:List FV×List FV×Nat):Except Er (List FV×Nat×Unit):=match x.2.1 with| []=> .ok (x.1,x.2.2,())|f::a=> .error (plc f)
def cf:kc Nat Unit:=λx o r=>tL (ie o r)
noncomputable def AF:FV->FV| .none=> .int 65533|x=>x
def Pf:kc Nat Unit:=λx o r=> .ok ((ie o r).1.map AF,(ie o r).2.2,())
def DL:Wf cf:=λs o r e k s' h=>by have:=vv o r;unfold cf tL at h;generalize ie o r=P at h this;obtain ⟨C,F,k'⟩:=P;induction F with|nil=>(injection h with h;injection h with b h;injection h with c d;subst b c d);exact ⟨this.1,this.2.1⟩|cons x a=>injection h
def CL:Wf Pf:=λs o r d k s' h=>by have:=vv o r;(injection h with h;injection h with a h;injection h with b c;subst a b c);exact ⟨this.1,by rw [length_map];exact this.2.1⟩
noncomputable abbrev sl5(l:List Nat)(fd:List FV)(i:Int)(a b:Slot):List Slot:= [.a (.v (.bytes l)),.own fd,.a (.v (.int i)),a,b]
def OV(sl:List Slot):Kj sl []=some []:=rfl
theorem MB{g:FV->FV}{st:ia}:∀(l:List FV),(∀x∈l,f x st=some (.ok (.v (g x)),st))->foldC f l st=some (.ok (l.map g),st)| [],a=>rfl|x::l,h=>by simp only [foldC,h x (.head _),onV,bnd,MB l λy b=>h y (.tail _ b),ok,map_cons]
def dy{sl:List Slot}{st:ia}:pa O (.comp elt it a) sl st=bnd (Sd O it sl st) λl st=>match Kj sl a with|some c=>if l.length<=big then (match foldC (λx st=>pa O elt (c++ [.a (.v x)]) st) l st with|some (.ok r,st)=>ok (.v (.lst r)) st| _=>none) else none|none=>none:=rfl
def comp_map{b it:E}{a:List Nat}{st:ia}(e:Sd O it sl st=some (.ok l,st))(d:Kj sl a=some c)(f:l.length<=big)(h:∀x∈l,pa O b (c++ [.a (.v x)]) st=some (.ok (.v (g x)),st)):pa O (.comp b it a) sl st=some (.ok (.v (.lst (l.map g))),st):=by simp only [dy,e,bnd,d,f,if_true,MB l h,ok]
def KU(n:Nat)(st:ia)(l:List Nat)(g:l.length<=lim)(q:Rb l):Out ((ja (n+5)).call 13 [.v (.bytes l)] st) (sc cf 0 () l) st:=by
 refine uJ (sl5 l) DL g [] (λi fd o r a b hA hb=> ?_) (λz z z=>oj []) (by kernel_rfl);have e:=gH n i st l g q o r hA;have le:=vv o r;have d:=kY o r;have c:=hA.len;unfold cf tL;generalize ie o r=P at e le d|-;obtain ⟨C,F,k⟩:=P;dsimp only at e le d|-;have h:=XW (F:=F.map (Kd i)) (λx s=>by obtain ⟨y,t,rfl⟩:=mem_map.mp s;exact mF (d y t));induction F with
 |nil=>have j:Pg fd (.lst C)=some (fd++C):=if_pos (by lia);exact .ok rfl (qd [.R 0 e,.O 1 h,.L 2 j] (.mk _ _))|cons f F=>
  obtain ⟨p,w,rfl,_⟩:=d f (.head _);have m:jc (.lst ((fl p w::F).map (Kd i))) 0=some (.tup [.int ((i:Int)+p),.str w]):=by unfold jc;rw [if_neg (by decide)];dsimp only;rw [if_pos (by rw [length_map];unfold big;unfold lim at g;rw [length_cons] at c;lia)];rfl
  exact .er rfl (Oi [.R 0 e,.O 1 h,.F 2 m])
def qO(n:Nat)(x:FV)(st:ia):pa (ja n) (.ite (.cmp .Is (.var 0) (.cst .none)) (.glob 5) (.var 0)) ([]++ [.a (.v x)]) st=some (.ok (.v (AF x)),st):=by rcases x with _| _| _| _| _| _| _<;>exact Kh []
def UU(n:Nat)(st:ia)(l:List Nat)(h:l.length<=lim)(m:Rb l):Out ((ja (n+5)).call 14 [.v (.bytes l)] st) (sc Pf 0 () l) st:=by
 refine uJ (sl5 l) CL h [] (λi fd o r a b hA hb=> ?_) (λ_ _ _=>oj []) (by kernel_rfl);have e:=gH n i st l h m o r hA;have le:=vv o r;unfold Pf;generalize ie o r=P at e le|-;obtain ⟨C,F,k⟩:=P;dsimp only at e le|-;have j:Pg fd (.lst (C.map AF))=some (fd++C.map AF):=if_pos (by rw [length_map];lia);have g:C.length<=big:=by lia
 have f:∀a b c d,pa (ja (n+4)) (.comp (.ite (.cmp .Is (.var 0) (.cst .none)) (.glob 5) (.var 0)) (.var 3) []) [a,b,c,.a (.v (.lst C)),d] st=some (.ok (.v (.lst (C.map AF))),st):=λa b c d=>comp_map (by rw [zw rfl,iW];show lift (pb (.lst C)) st=_;rw [show pb (.lst C)=some C from if_pos g];rfl) (OV _) g λx y=>qO (n+4) x st;exact .ok rfl (qd [.R 0 e,.R 0 (f (.a (.v (.bytes l))) (.own fd) (.a (.v (.int (↑i+↑k+1)))) (.a (.v (.lst (map (Kd ↑i) F))))),.L 0 j] (.mk _ _))
def UJ(C X:List FV)(cl:Bool)(c:Nat):Except Er (List FV×Nat):=match X with|f::x=> .error (1+plc f)| []=>br cl (.ok (C,c+1)) (.error (1+(c:Int)))
def zD(C X:List FV)(s z cl:Bool)(c:Nat):Except Er (List FV×Nat):=br (z&&cl) (.ok ([.int 38],1)) (br s (.error 0) (br z (.error 0) (UJ C X cl c)))
def Sj(s:Bool)(r:List Nat):Except Er (List FV×Nat):=zD (Co true (r.take (cnt true r))) (Ki true (r.take (cnt true r))) s (cnt true r==0) (Lc (r.drop (cnt true r))) (cnt true r)
def RU(n at':Nat)(st:ia)(l:List Nat)(H:l.length<=lim)(o:Nat)(r:List Nat)(hA:At l at' (o::r))(B:FV)(s:Bool)(j:yb .Eq (.int at') B=some s):
  match Sj s r with| .ok (C,k)=>(ja (n+4)).call 15 [.v (.bytes l),.v (.int at'),.v B] st=some (.ok (.v (.tup [.lst C,.int ((at':Int)+k+1)])),st)| .error d=>∃w,(ja (n+4)).call 15 [.v (.bytes l),.v (.int at'),.v B] st=some (.error (.tup [.int ((at':Int)+d),w]),st):=by
 have i:=Oc hA.big;have e:=Xy (n+1) st l H true (at'+1) ((at':Int)+1) (by lia) r hA.next;have G:=uh true r;have t:=(hA.next.skip G).closed (J:=(at':Int)+1+(cnt true r:Nat)) (by lia);have a:=gw n st l true (at'+1) (r.take (cnt true r)) (r.drop (cnt true r)) ((at':Int)+1) ((at':Int)+1+(cnt true r:Nat)) (by lia) (by rw [length_take,Nat.min_eq_left G];lia) H (by rw [take_append_drop];exact hA.next) (mw true r);rw [show ((at'+1:Nat):Int)+((cnt true r:Nat):Int)=(at':Int)+1+(cnt true r:Nat) by lia] at e;have b:((at':Int)+1+(cnt true r:Nat)==(at':Int)+1)=(cnt true r==0):=by induction v:cnt true r with|zero=>simp|succ k=>simp;lia
 have L:=LI true (r.take (cnt true r));have D:=BS true (r.take (cnt true r));have u:∀f X,Ki true (r.take (cnt true r))=f::X->jc (.lst ((Ki true (r.take (cnt true r))).map (Kd ((at':Int)+1)))) 0=some (Kd ((at':Int)+1) f):=λf X h=>by unfold jc;rw [if_neg (by decide)];dsimp only;rw [if_pos (by rw [length_map];rw [length_take,Nat.min_eq_left G] at L;have:=hA.len;rw [length_cons] at this;unfold lim at H;unfold big;lia),h];rfl
 have q:=XW (F:=(Ki true (r.take (cnt true r))).map (Kd ((at':Int)+1))) (λx M=>by obtain ⟨y,A,rfl⟩:=mem_map.mp M;exact mF (D y A));have O:Am (some (.ok [],st))=some (.ok (.v (.lst [])),st):=rfl;rw [Pab];unfold Sj xh;generalize Co true (r.take (cnt true r))=C at a|-;generalize Ki true (r.take (cnt true r))=X at a u q D|-;have v:(cnt true r==0)=true->cnt true r=0:=eq_of_beq;generalize (cnt true r==0)=z at b v|-;generalize Lc (r.drop (cnt true r))=cl at t|-;generalize cnt true r=m at v t b e a|-;have g:(decide ((at':Int)+1+(m:Nat)<(l.length:Int))=false/\cl=false)\/(decide ((at':Int)+1+(m:Nat)<(l.length:Int))=true/\∃y:Nat,jc (.bytes l) ((at':Int)+1+(m:Nat))=some (.int y)/\((y:Int)==45)=cl):=t;unfold zD;induction z with
 |true=>
  replace v:=v rfl;induction cl with
  |true=>
   rcases g with ⟨c1,c2⟩|⟨c1,y,c2,c⟩;·injection c2
   ·simp only [br,Bool.true_and];rw [show (at':Int)+((1:Nat):Int)+1=at'+1+(m:Nat)+1 by lia];exact Ni [.R 1 e,.F 0 i,.B 1 c1,.F 1 c2,.B 2 c,.B 2 b]
  |false=>
   induction s with
   |true=>
    simp only [br,Bool.and_false];rw [Int.add_zero];rcases g with ⟨c1,c2⟩|⟨c1,y,c2,c⟩;·exact dJ [.R 1 e,.F 0 i,.B 1 c1,.B 4 b,.O 1 j]
    ·exact dJ [.R 1 e,.F 0 i,.B 1 c1,.F 1 c2,.B 6 b,.B 0 c,.O 0 j]
   |false=>
    simp only [br,Bool.and_false];rw [Int.add_zero];rcases g with ⟨c1,c2⟩|⟨c1,y,c2,c⟩;·exact dJ [.R 1 e,.F 0 i,.B 1 c1,.B 4 b,.O 1 j,.B 5 b]
    ·exact dJ [.R 1 e,.F 0 i,.B 1 c1,.F 1 c2,.B 6 b,.B 0 c,.O 0 j,.B 5 b]
 |false=>
  induction s with
  |true=>
   simp only [br,Bool.false_and];rw [Int.add_zero];rcases g with ⟨c1,c2⟩|⟨c1,y,c2,c⟩;·exact dJ [.R 1 e,.F 0 i,.B 1 c1,.B 4 b,.O 1 j]
   ·exact dJ [.R 1 e,.F 0 i,.B 1 c1,.F 1 c2,.B 6 b,.O 1 j]
  |false=>
   simp only [br,Bool.false_and];induction X with
   |cons f X=>
    obtain ⟨p,w,rfl,_⟩:=D f (.head _);have u:=u _ _ rfl;simp only [map_cons,isEmpty_cons,Bool.not_false,Cv,fl] at a q u|-;refine (show ∃w,_=some (Except.error (FV.tup [.int ((at':Int)+(1+p)),w]),st) from ⟨.str w,?_⟩);rw [<-Int.add_assoc];rcases g with ⟨c1,c2⟩|⟨c1,y,c2,c⟩;·exact Ni [.R 1 e,.F 0 i,.B 1 c1,.B 4 b,.O 1 j,.B 5 b,.R 1 a,.O 1 q,.F 2 u]
    ·exact Ni [.R 1 e,.F 0 i,.B 1 c1,.F 1 c2,.B 6 b,.O 1 j,.B 5 b,.R 1 a,.O 1 q,.F 2 u]
   |nil=>
    simp only [map_nil,isEmpty_nil,Bool.not_true] at a q|-;rcases g with ⟨c1,rfl⟩|⟨c1,y,c2,rfl⟩;·refine (show ∃w,_=some (Except.error (FV.tup [.int ((at':Int)+(1+(m:Nat))),w]),st) from ⟨.str KV,?_⟩);rw [<-Int.add_assoc];exact Ni [.R 1 e,.F 0 i,.B 1 c1,.B 3 b,.O 2 j,.B 4 b,.R 2 a,.O 1 q]
    ·induction A:(y:Int)==45 with|true=>refine (show _=some (Except.ok (AV.v (.tup [.lst C,.int ((at':Int)+((m+1:Nat):Int)+1)])),st) from ?_);rw [show (at':Int)+((m+1:Nat):Int)+1=at'+1+(m:Nat)+1 by lia];exact Ni [.R 1 e,.F 0 i,.B 1 c1,.F 1 c2,.B 2 A,.B 2 b,.O 2 j,.B 4 b,.R 2 a,.O 1 q]|false=>refine (show ∃w,_=some (Except.error (FV.tup [.int ((at':Int)+(1+(m:Nat))),w]),st) from ⟨.str KV,?_⟩);rw [<-Int.add_assoc];exact Ni [.R 1 e,.F 0 i,.B 1 c1,.F 1 c2,.B 2 A,.B 2 b,.O 2 j,.B 4 b,.R 2 a,.O 1 q]
def LN(x:Except Er (List FV×Nat)):Except Er (List FV×Nat×Bool):=match x with| .ok (C,k)=> .ok (C,k,decide ((2:Int)<(k:Int)+1))| .error d=> .error d
def Jh:kc Nat Bool:=λs o r=>br ((o:Int)==38) (LN (Sj s r)) (br (Ui o) (.ok ([.int o],0,false)) (.error 0))
def AI(h:Sj s r= .ok (C,k)):k<=r.length/\C.length<=2*(k+1):=by
 unfold Sj at h;have e:=uh true r;have d:=JI true (r.take (cnt true r));rw [length_take,Nat.min_eq_left e] at d;generalize Co true (r.take (cnt true r))=g at h d;generalize Ki true (r.take (cnt true r))=X at h;have a:Lc (r.drop (cnt true r))=true->cnt true r+1<=r.length:=λh=>by
  have:1<=(r.drop (cnt true r)).length:=by generalize r.drop (cnt true r)=t at h|-;induction t<;>simp_all [Lc]
  rw [length_drop] at this;lia
 generalize Lc (r.drop (cnt true r))=cl at h a;generalize (cnt true r==0)=z at h;generalize cnt true r=i at h d e a;unfold zD UJ at h;induction cl with
 |true=>have:=a rfl;induction z with|true=>simp only [br,Bool.true_and] at h;(injection h with h;injection h with b c;subst b c);simp;lia|false=>induction s with|true=>injection h|false=>induction X with|cons f X=>injection h|nil=>(injection h with h;injection h with b c;subst b c);exact ⟨this,by lia⟩
 |false=>
  induction z with
  |true=>induction s<;>injection h
  |false=>induction s with|true=>injection h|false=>induction X<;>injection h
def E4:Wf Jh:=λs o r e k s' h=>by
 unfold Jh at h;induction q:(o:Int)==38 with
 |true=>rw [q] at h;simp only [br] at h;induction q2:Sj s r with|error d=>rw [q2] at h;injection h|ok z=>obtain ⟨C,k'⟩:=z;rw [q2] at h;have:=AI q2;(injection h with h;injection h with a h;injection h with b c;subst a b c);exact this
 |false=>rw [q] at h;induction q2:Ui o with|true=>rw [q2] at h;(injection h with h;injection h with a h;injection h with b c;subst a b c);simp|false=>rw [q2] at h;injection h
noncomputable def BV(a:FV)(i:Int)(s:Bool):Prop:=(a= .none/\s=false)\/∃b:Int,a= .int b/\b<=i/\s=decide (b=i)
def BV.cmp(h:BV bv i s):yb .Eq (.int i) bv=some s:=by
 rcases h with ⟨rfl,rfl⟩|⟨b,rfl,_,rfl⟩;·rfl
 ·show some (i==b)=_;congr 1;by_cases e:b=i;·subst e;simp
  ·rw [decide_eq_false e];simp;exactλh=>e h.symm
noncomputable abbrev AZ(l:List Nat)(fd:List FV)(i:Int)(d:FV)(a b c:Slot):List Slot:= [.a (.v (.bytes l)),.own fd,.a (.v (.int i)),.a (.v d),a,b,c]
inductive IB(l:List Nat)(i:Int)(s:Bool)(fd:List FV):List Slot->Prop
 |mk {bv:FV} {a b c:Slot} (h:BV bv i s):IB l i s fd (AZ l fd i bv a b c)
def PU(n:Nat)(st:ia)(l:List Nat)(v:l.length<=lim)(y:Rb l):Out ((ja (n+5)).call 16 [.v (.bytes l)] st) (sc Jh 0 false l) st:=by
 refine Uo (sl:=AZ l [] 0 .none .u .u .u) false (IB l) E4 v (.mk (.inl ⟨rfl,rfl⟩)) [] (λ_ _ _ _ j=>j.rec λ_=>⟨rfl,rfl⟩) (λi s fd sl o r hA j hb=>j.rec λ{t a b c} g=> ?_) (λ_ _ _ j=>j.rec λ_=>oj []) (by kernel_rfl);have f:=hA.idx (k:=0) (j:=i) rfl (Int.add_zero _).symm;have u:= @XI (n+3) st;have ap:=ap hb.1;have e:=RU n i st l v o r hA t s g.cmp;unfold Jh;induction q:(o:Int)==38 with
 |true=>
  dsimp only [br];induction q2:Sj s r with
  |error d=>rw [q2] at e;obtain ⟨w,e⟩:=e;exact .er rfl (Oi [.F 0 f,.B 3 q,.R 0 e])
  |ok z=>obtain ⟨C,k⟩:=z;rw [q2] at e;dsimp only at e;have le:=AI q2;have ex:Pg fd (.lst C)=some (fd++C):=if_pos (by lia);have p:decide ((i:Int)+2<(i:Int)+(k:Nat)+1)=decide ((2:Int)<(k:Int)+1):=decide_eq_decide.mpr (by lia);unfold LN;induction q3:decide ((2:Int)<(k:Int)+1) with|true=>rw [q3] at p;exact .ok rfl (qd [.F 0 f,.B 3 q,.R 0 e,.B 2 p,.L 1 ex] (.mk (.inr ⟨_,rfl,Int.le_refl _,q3.trans (decide_eq_true rfl).symm⟩)))|false=>rw [q3] at p;exact .ok rfl (qd [.F 0 f,.B 3 q,.R 0 e,.B 2 p,.L 1 ex] (.mk (.inl ⟨rfl,q3⟩)))
 |false=>
  dsimp only [br];induction q2:Ui (o:Int) with
  |true=>
   have m:BV t ((i:Int)+1) false:=by
    rcases g with ⟨h,_⟩|⟨b,h,x,_⟩;·exact .inl ⟨h,rfl⟩
    ·exact .inr ⟨b,h,by lia,(decide_eq_false (by lia)).symm⟩
   exact .ok (congrArg (·+1) (Int.add_zero _)) (qd [.F 0 f,.B 3 q,.R 0 (u (↑o)),.B 0 q2,.L 0 (ap (.int ↑o))] (.mk m))
  |false=>exact .er (Int.add_zero _) (Oi [.F 0 f,.B 3 q,.R 0 (u (↑o)),.B 0 q2])
section
variable (n:Nat) (st:ia)
def tU:small 1=true:=(Yb _).trans rfl
def YG:small 43=true:=(Yb _).trans rfl
def nh:small 243=true:=(Yb _).trans rfl
def uU:small 3=true:=(Yb _).trans rfl
def fw:small 59049=true:=(Yb _).trans rfl
def FN:(ja (n+1)).call 17 [.v (.int 0)] st=some (.ok (.v (.int 63)),st):=xa []
def NC:(ja (n+1)).call 17 [.v (.int 1)] st=some (.ok (.v (.int 10512)),st):=Qh [.F 6 (jb YG nh),.F 2 (jb nh nh)]
def GN:(ja (n+1)).call 17 [.v (.int 2)] st=some (.ok (.v (.int 187659)),st):=by have m1:=YG;have a:=nh;have c:=uU;have b:small (243*243)=true:=fw;exact Qh [.F 6 (jb m1 a),.F 2 (jb a a),.F 0 (jb c b),.F 2 (jb b a)]
def Sy:(ja (n+1)).call 20 [.v (.int 1),.v (.bool true)] st=some (.ok (.v (.int 80)),st):=xa []
def Vy:(ja (n+1)).call 20 [.v (.int 2),.v (.bool true)] st=some (.ok (.v (.int 37)),st):=xa []
def fL:(ja (n+1)).call 20 [.v (.int 3),.v (.bool true)] st=some (.ok (.v (.int 34)),st):=xa []
def Ry:(ja (n+1)).call 20 [.v (.int 1),.v (.bool false)] st=some (.ok (.v (.int 208)),st):=xa []
def Uy:(ja (n+1)).call 20 [.v (.int 2),.v (.bool false)] st=some (.ok (.v (.int 251)),st):=xa []
def cL:(ja (n+1)).call 20 [.v (.int 3),.v (.bool false)] st=some (.ok (.v (.int 254)),st):=xa []
def YQ(o:Int):(ja (n+2)).call 22 [.v (.int o),.v (.int 1),.v (.bool true)] st=some (.ok (.v (.bool (decide (37<=o)&&decide (o<80)))),st):=xa [.R 0 (Sy n st)]
def XQ(o:Int):(ja (n+2)).call 22 [.v (.int o),.v (.int 1),.v (.bool false)] st=some (.ok (.v (.bool (decide (208<=o)&&decide (o<251)))),st):=by have e:=Ry n st;induction h:decide (208<=o) with|true=>exact xa [.R 0 e,.B 2 h]|false=>exact xa [.R 0 e,.B 2 h]
def bR(o:Int):(ja (n+2)).call 22 [.v (.int o),.v (.int 2),.v (.bool true)] st=some (.ok (.v (.bool (decide (34<=o)&&decide (o<37)))),st):=xa [.R 0 (Vy n st)]
def ZQ(o:Int):(ja (n+2)).call 22 [.v (.int o),.v (.int 2),.v (.bool false)] st=some (.ok (.v (.bool (decide (251<=o)&&decide (o<254)))),st):=by have e:=Uy n st;induction h:decide (251<=o) with|true=>exact xa [.R 0 e,.B 2 h]|false=>exact xa [.R 0 e,.B 2 h]
end
noncomputable def mf(k:Nat)(below:Bool)(o:Int):Bool:=match k,below with|1,true=>decide (37<=o)&&decide (o<80)|1,false=>decide (208<=o)&&decide (o<251)|x,true=>decide (34<=o)&&decide (o<37)|x,false=>decide (251<=o)&&decide (o<254)
def CM(n:Nat)(st:ia)(o:Int)(b:Bool):loops (pa (ja (n+2)) (.and (.cmp .Lt (.var 2) (.len (.glob 30))) (.not (.call 22 (.cons (.var 0) (.cons (.var 2) (.cons (.var 1) .nil))))))) (ua (ja (n+2)) 2000 (.seq (.asg 2 (.bin .Add (.var 2) (.cst (.int 1)))) .skip)) 2000 [.a (.v (.int o)),.a (.v (.bool b)),.a (.v (.int 1)),.u,.u,.u] st=
  some (.next,[.a (.v (.int o)),.a (.v (.bool b)),.a (.v (.int (br (mf 1 b o) 1 (br (mf 2 b o) 2 3)))),.u,.u,.u],st):=by
 have a:(ja (n+2)).call 22 [.v (.int o),.v (.int 1),.v (.bool b)] st=some (.ok (.v (.bool (mf 1 b o))),st):=by induction b with|true=>exact YQ n st o|false=>exact XQ n st o
 have c:(ja (n+2)).call 22 [.v (.int o),.v (.int 2),.v (.bool b)] st=some (.ok (.v (.bool (mf 2 b o))),st):=by induction b with|true=>exact bR n st o|false=>exact ZQ n st o
 induction d:mf 1 b o with
 |true=>rw [d] at a;refine fh ?_;exact Kh [.R 5 a]|false=>
  rw [d] at a;refine (bp (sl':= [.a (.v (.int o)),.a (.v (.bool b)),.a (.v (.int 2)),.u,.u,.u]) (st':=st) ?_ ?_).trans ?_;·exact Kh [.R 5 a]
  ·exact bc []
  induction e:mf 2 b o with
  |true=>rw [e] at c;refine fh ?_;exact Kh [.R 5 c]|false=>
   rw [e] at c;refine (bp (sl':= [.a (.v (.int o)),.a (.v (.bool b)),.a (.v (.int 3)),.u,.u,.u]) (st':=st) ?_ ?_).trans ?_;·exact Kh [.R 5 c]
   ·exact bc []
   refine fh ?_;exact Kh []
noncomputable def iS(k:Nat)(b:Bool)(o:Int):Int:=match k,b with|1,true=>((o-80)*243-63-1)|1,false=>((o-208)*243+63+1)|2,true=>((o-37)*59049-10512-1)|2,false=>((o-251)*59049+10512+1)|x,true=>((o-34)*14348907-187659-1)|x,false=>((o-254)*14348907+187659+1)
def KO(n:Nat)(st:ia)(o:Int)(u:0<=o)(q:o<256)(b:Bool)(k:Nat)(p:k=1\/k=2\/k=3):Jc (ua (ja (n+2)) 2000 (.seq (.asg 3 (.cst (.int 1))) (.seq (.fors [4] (.rng (.var 2)) (.seq (.asg 3 (.bin .Mult (.var 3) (.glob 31))) .skip)) (.seq (.asg 5 (.bin .Mult (.bin .Sub (.var 0) (.call 20 (.cons (.var 2) (.cons (.var 1) .nil)))) (.var 3))) (.seq (.ret (.tup (.cons (.var 2) (.cons (.ite (.var 1) (.bin .Sub (.bin .Sub (.var 5) (.call 17 (.cons (.bin .Sub (.var 2) (.cst (.int 1))) .nil))) (.cst (.int 1))) (.bin .Add (.bin .Add (.var 5) (.call 17 (.cons (.bin .Sub (.var 2) (.cst (.int 1))) .nil))) (.cst (.int 1)))) .nil)))) .skip)))) [.a (.v (.int o)),.a (.v (.bool b)),.a (.v (.int k)),.u,.u,.u] st)=some (.ok (.v (.tup [.int k,.int (iS k b o)])),st):=by
 have m1:=tU;have a:=nh;have c:small (1*243)=true:=nh;have d:small (1*243*243)=true:=fw;have e:small (1*243*243*243)=true:=(Yb _).trans rfl;have s:∀f:Int,0<=f->f<=300->small (o-f)=true:=λf r t=>by rw [Yb];unfold Qy;rw [decide_eq_true (by lia),decide_eq_true (by lia)];rfl
 have s1:=s 80 (by decide) (by decide);have s2:=s 37 (by decide) (by decide);have s3:=s 34 (by decide) (by decide);have s4:=s 208 (by decide) (by decide);have s5:=s 251 (by decide) (by decide);have s6:=s 254 (by decide) (by decide);have g:=Sy (n+1) st;have h:=Vy (n+1) st;have i:=fL (n+1) st;have j:=Ry (n+1) st;have l:=Uy (n+1) st;have m:=cL (n+1) st;have c0:=FN (n+1) st;have c1:=NC (n+1) st;have c2:=GN (n+1) st;rcases p with rfl|rfl|rfl;·induction b with|true=>exact NI [.F 2 (jb m1 a),.R 0 g,.F 1 (jb s1 c),.R 2 c0]|false=>exact NI [.F 2 (jb m1 a),.R 0 j,.F 1 (jb s4 c),.R 2 c0]
 ·induction b with|true=>exact NI [.F 2 (jb m1 a),.F 1 (jb c a),.R 0 h,.F 1 (jb s2 d),.R 2 c1]|false=>exact NI [.F 2 (jb m1 a),.F 1 (jb c a),.R 0 l,.F 1 (jb s5 d),.R 2 c1]
 ·induction b with|true=>exact NI [.F 2 (jb m1 a),.F 1 (jb c a),.F 1 (jb d a),.R 0 i,.F 1 (jb s3 e),.R 2 c2]|false=>exact NI [.F 2 (jb m1 a),.F 1 (jb c a),.F 1 (jb d a),.R 0 m,.F 1 (jb s6 e),.R 2 c2]
def j4{st st':ia}(fs:List Fact)(k:Nat)(L:R=some (.next,sl,st'))(E:Jc (ua (ja n) 2000 b sl st')=r)(h:(qs fs (jy false n args st Bi[f]?),QD k (Qg fs (jy false n args st Bi[f]?)))=(ms fs,aS R (λsl st=>mS false (ja n) 2000 b sl st Ad Rc) Rc):=by kernel_rfl):(ja (n+1)).call f args st=r:=RS fs k (by rw [L];exact E) h
def qj(o:Int):Nat×Int:=br (decide (80<=o)&&decide (o<208)) (0,o-144) (br (mf 1 (decide (o<144)) o) 1 (br (mf 2 (decide (o<144)) o) 2 3),iS (br (mf 1 (decide (o<144)) o) 1 (br (mf 2 (decide (o<144)) o) 2 3)) (decide (o<144)) o)
def cR(n:Nat)(st:ia)(o:Int)(f:0<=o)(c:o<256):(ja (n+3)).call 21 [.v (.int o)] st=some (.ok (.v (.tup [.int (qj o).1,.int (qj o).2])),st):=by
 unfold qj;have L:=CM n st o (decide (o<144));have e:br (mf 1 (decide (o<144)) o) 1 (br (mf 2 (decide (o<144)) o) 2 3)=1\/br (mf 1 (decide (o<144)) o) 1 (br (mf 2 (decide (o<144)) o) 2 3)=2\/br (mf 1 (decide (o<144)) o) 1 (br (mf 2 (decide (o<144)) o) 2 3)=3:=by induction mf 1 (decide (o<144)) o<;>induction mf 2 (decide (o<144)) o<;>simp [br]
 have E:=KO n st o f c (decide (o<144)) _ e;have d:br (mf 1 (decide (o<144)) o) (1:Int) (br (mf 2 (decide (o<144)) o) 2 3)=((br (mf 1 (decide (o<144)) o) 1 (br (mf 2 (decide (o<144)) o) 2 3):Nat):Int):=by induction mf 1 (decide (o<144)) o<;>induction mf 2 (decide (o<144)) o<;>rfl
 rw [d] at L;induction a:decide (80<=o) with
 |true=>have a:decide (144-64<=o)=true:=a;induction b:decide (o<208) with|true=>have b:decide (o<144+64)=true:=b;exact xa [.B 4 a,.B 4 b]|false=>have b:decide (o<144+64)=false:=b;exact j4 [.B 4 a,.B 4 b] 4 L E
 |false=>have a:decide (144-64<=o)=false:=a;exact j4 [.B 4 a] 4 L E
def JO(o:Int):(qj o).1<=3:=by unfold qj;induction decide (80<=o)&&decide (o<208)<;>induction mf 1 (decide (o<144)) o<;>induction mf 2 (decide (o<144)) o<;>simp [br]
def yk(c:Int):Int:=br (decide (12352<=c)&&decide (c<=12447)) 12400 (br (decide (19968<=c)&&decide (c<=40869)) 30481 (br (decide (44032<=c)&&decide (c<=55203)) 49617 (c.fdiv 128*128+64)))
def CN(n:Nat)(st:ia)(c:Int)(d:0<=c)(f:c<=1114111):(ja (n+2)).call 18 [.v (.int c)] st=some (.ok (.v (.int (yk c))),st):=by
 have c1:=NC n st;have s1:small (c.fdiv 128)=true:=by have e:c.fdiv 128=c/128:=fdiv_eq_ediv_of_nonneg c (by decide);rw [e];exact Kc (by lia) (by lia)
 have s2:small 128=true:=(Yb _).trans rfl;have a:=uv (k:=c) (k':=128) (by decide) (by decide);have b:=jb s1 s2;unfold yk;induction q1:decide (12352<=c)&&decide (c<=12447) with|true=>exact xa [.B 2 q1]|false=>
 induction q2:decide (19968<=c)&&decide (c<=40869) with|true=>exact xa [.B 2 q1,.B 3 q2,.R 2 c1]|false=>
 induction q3:decide (44032<=c)&&decide (c<=55203) with|true=>exact xa [.B 2 q1,.B 3 q2,.B 3 q3]|false=>exact xa [.B 2 q1,.B 3 q2,.B 3 q3,.F 2 a,.F 1 b]
def Mw(o:Int):FV:=br (decide (32<o)) (.int (o-13)) (br (decide (1<=o)&&decide (o<=6)) (.int (o-1)) (br (decide (16<=o)&&decide (o<=25)) (.int (o-16+6)) (br (decide (28<=o)&&decide (o<=31)) (.int (o-28+16)) .none)))
def SU(n:Nat)(st:ia)(o:Int):(ja (n+1)).call 19 [.v (.int o)] st=some (.ok (.v (Mw o)),st):=by
 unfold Mw;induction q1:decide (32<o) with|true=>exact xa [.B 2 q1]|false=>
 induction q2:decide (1<=o)&&decide (o<=6) with|true=>exact xa [.B 2 q1,.B 2 q2]|false=>
 induction q3:decide (16<=o)&&decide (o<=25) with|true=>exact xa [.B 2 q1,.B 2 q2,.B 2 q3]|false=>
 induction q4:decide (28<=o)&&decide (o<=31) with|true=>exact xa [.B 2 q1,.B 2 q2,.B 2 q3,.B 2 q4]|false=>exact xa [.B 2 q1,.B 2 q2,.B 2 q3,.B 2 q4]
noncomputable def rd(p l d a t:Int):List (Nat×AV):= [(1,.v (.int p)),(2,.v (.int l)),(3,.v (.int d)),(4,.v (.int a)),(5,.v (.int t))]
abbrev Mh(i:Nat)(st:ia)(p l d a t:Int):ia:=st.set i (.inst 0 (rd p l d a t))
section
variable {i:Nat} {st:ia} (hi:i<st.length)
include hi
theorem eN(h:(sd 0 k&&decide (fs.length<90))=true):Hb (.a (.o i)::sl) (st.set i (.inst 0 fs)) k v=some (st.set i (.inst 0 (qg fs k v))):=by unfold Hb;rw [getElem?_cons_zero];dsimp only;rw [getElem?_set_self hi];dsimp only;rw [h,set_set];rfl
variable (sl:List Slot) (p l d a t x:Int)
theorem Cc:(Mh i st p l d a t)[i]? =some (.inst 0 (rd p l d a t)):=getElem?_set_self hi
theorem qY:Hb (.a (.o i)::sl) (Mh i st p l d a t) 1 (.v (.int x))=some (Mh i st x l d a t):=eN hi rfl
theorem BG:Hb (.a (.o i)::sl) (Mh i st p l d a t) 2 (.v (.int x))=some (Mh i st p x d a t):=eN hi rfl
theorem CG:Hb (.a (.o i)::sl) (Mh i st p l d a t) 3 (.v (.int x))=some (Mh i st p l x a t):=eN hi rfl
theorem rs4:Hb (.a (.o i)::sl) (Mh i st p l d a t) 4 (.v (.int x))=some (Mh i st p l d x t):=eN hi rfl
theorem rs5:Hb (.a (.o i)::sl) (Mh i st p l d a t) 5 (.v (.int x))=some (Mh i st p l d a x):=eN hi rfl
end
section
variable (n i:Nat) (st:ia) (hi:i<st.length)
include hi
theorem bJ(p l d a t:Int)(h:(decide (p+d<=32)|| !isScalar (p+d))=true):(ja (n+3)).meth 0 8 [.o i] (st.set i (.inst 0 (rd p l d a t)))=some (.error (.tup [.int a,.str c9]),st.set i (.inst 0 (rd p l d a t))):=by have b:= @bf n;induction q:decide (p+d<=32) with|true=>exact Rh [.P 0 (Cc hi p l d a t),.P 0 (Cc hi p l d a t),.B 3 q,.P 2 (Cc hi p l d a t)]|false=>rw [q] at h;exact Rh [.P 0 (Cc hi p l d a t),.P 0 (Cc hi p l d a t),.B 3 q,.R 1 (b (Mh i st p l d a t) (p+d)),.B 0 h,.P 1 (Cc hi p l d a t)]
theorem cJ(p l d a t:Int)(h:(decide (p+d<=32)|| !isScalar (p+d))=false):(ja (n+3)).meth 0 8 [.o i] (st.set i (.inst 0 (rd p l d a t)))=some (.ok (.v (.int (p+d))),st.set i (.inst 0 (rd (yk (p+d)) l d a t))):=by
 have f:= @bf n;have b:isScalar (p+d)=true:=by induction q:isScalar (p+d) with|true=>rfl|false=>rw [q] at h;simp at h
 have c:0<=p+d/\p+d<=1114111:=by have q:=b;unfold isScalar at q;have q:=(and_eq_true_iff.mp q).1;exact ⟨of_decide_eq_true (and_eq_true_iff.mp q).1,of_decide_eq_true (and_eq_true_iff.mp q).2⟩
 have e:=λst'=>CN n st' (p+d) c.1 c.2;exact Rh [.P 0 (Cc hi p l d a t),.P 0 (Cc hi p l d a t),.B 3 ((or_eq_false_iff.mp h).1),.R 1 (f (List.set st i (.inst 0 (rd p l d a t))) (p+d)),.B 0 ((or_eq_false_iff.mp h).2),.R 1 (e (List.set st i (.inst 0 (rd p l d a t)))),.M 0 (qY hi [.a (.v (.int (p+d)))] p l d a t (yk (p+d)))]
end
noncomputable abbrev Ar:=Int×Option (Nat×Int×Int)
def rm(p d a:Int):Except Er (List FV×Nat×Ar):=br (decide (p+d<=32)|| !isScalar (p+d)) (.error (-a)) (.ok ([.int (p+d)],0,(yk (p+d),none)))
def OW(p:Int):Nat×Int->Except Er (List FV×Nat×Ar)|(0,d)=>rm p d 0|(l+1,d)=> .ok ([],0,(p,some (l,d,1)))
def k4(p:Int)(l:Nat)(d a v:Int):Except Er (List FV×Nat×Ar):=match l with|0=>rm p (d+v) a|l+1=> .ok ([],0,(p,some (l,d+v*243^(l+1),a+1)))
def Wb:kc Nat Ar:=λs o x=>match s with|(p,none)=>br (decide ((o:Int)<=32)) (.ok ([.int o],0,(br ((o:Int)==32) p 64,none))) (br ((o:Int)==255) (.ok ([],0,(64,none))) (OW p (qj o)))|(p,some (l,d,a))=>match Mw o with| .int v=>k4 p l d a v|x=> .error (-a)
def Tv(T:Int)(s:Ar)(fs:List (Nat×AV)):Prop:=match s with|(p,none)=>∃d a,fs=rd p 0 d a T|(p,some (l,d,b))=>l<=2/\fs=rd p (l+1) d (T-b) T
def XJ(o:Int)(g:o<256):Mw o= .none\/∃v,Mw o= .int v/\0<=v/\v<256:=by
 unfold Mw;induction c:decide (32<o) with|true=>have a:=of_decide_eq_true c;exact .inr ⟨_,rfl,by lia,by lia⟩|false=>
 induction d:(decide (1<=o)&&decide (o<=6)) with|true=>have:=and_eq_true_iff.mp d;have a:=of_decide_eq_true this.1;have b:=of_decide_eq_true this.2;exact .inr ⟨_,rfl,by lia,by lia⟩|false=>
 induction e:(decide (16<=o)&&decide (o<=25)) with|true=>have:=and_eq_true_iff.mp e;have a:=of_decide_eq_true this.1;have b:=of_decide_eq_true this.2;exact .inr ⟨_,rfl,by lia,by lia⟩|false=>
 induction f:(decide (28<=o)&&decide (o<=31)) with|true=>have:=and_eq_true_iff.mp f;have a:=of_decide_eq_true this.1;have b:=of_decide_eq_true this.2;exact .inr ⟨_,rfl,by lia,by lia⟩|false=>exact .inl rfl
noncomputable def one:List FV->FV| [x]=>x|a=> .none
section
variable {n i:Nat} {st:ia} (hi:i<st.length)
include hi
theorem iB(o p d a T:Int)(h:(ja (n+4)).meth 0 6 [.o i,.v (.int o)] (Mh i st p 0 d T (T+1))=some (x,st')):(ja (n+5)).meth 0 10 [.o i,.v (.int o)] (Mh i st p 0 d a T)=some (x,st'):=by induction x<;>exact Rh [.P 0 (Cc hi p 0 d a T),.P 3 (Cc hi p 0 d a T),.M 0 (rs4 hi [.a (.v (.int o))] p 0 d a T T),.P 0 (Cc hi p 0 d T T),.M 1 (rs5 hi [.a (.v (.int o))] p 0 d T T (T+1)),.P 0 (Cc hi p 0 d T (T+1)),.P 3 (Cc hi p 0 d T (T+1)),.R 0 h]
theorem uG(l:Nat)(o p d a T:Int)(h:(ja (n+4)).meth 0 7 [.o i,.v (.int o)] (Mh i st p (l+1) d a (T+1))=some (x,st')):(ja (n+5)).meth 0 10 [.o i,.v (.int o)] (Mh i st p (l+1) d a T)=some (x,st'):=by induction x<;>exact Rh [.P 0 (Cc hi p (l+1) d a T),.P 3 (Cc hi p (l+1) d a T),.M 1 (rs5 hi [.a (.v (.int o))] p (l+1) d a T (T+1)),.P 0 (Cc hi p (l+1) d a (T+1)),.P 3 (Cc hi p (l+1) d a (T+1)),.R 0 h]
end
def oW{r:Res AV}{st:ia}{T b:Int}(w:FV)(fs:List (Nat×AV))(c:b=T)(h:r=some (.error (.tup [.int T,w]),st.set i (.inst 0 fs))):∃w a,r=some (.error (.tup [.int b,w]),st.set i (.inst 0 a)):=⟨w,fs,c▸h⟩
def TU(n i:Nat)(st:ia)(c:i<st.length)(T:Int)(s:Ar)(fs:List (Nat×AV))(y:Tv T s fs)(o:Nat)(C:o<256)(r:List Nat):
  match Wb s o r with| .ok (m,x,s')=>∃g,Tv (T+1) s' g/\(ja (n+5)).meth 0 10 [.o i,.v (.int o)] (st.set i (.inst 0 fs))=some (.ok (.v (one m)),st.set i (.inst 0 g))| .error d=>∃w g,(ja (n+5)).meth 0 10 [.o i,.v (.int o)] (st.set i (.inst 0 fs))=some (.error (.tup [.int (T+d),w]),st.set i (.inst 0 g)):=by
 obtain ⟨p,k⟩:=s;induction k with
 |none=>
  obtain ⟨d,a,rfl⟩:=y;unfold Wb;induction q1:decide ((o:Int)<=32) with
  |true=>induction q2:(o:Int)==32 with|true=>exact ⟨rd p 0 d T (T+1),⟨_,_,rfl⟩,iB c o p d a T ((pv (n+3) _ _).trans (Ni [.B 2 q1,.B 4 (congrArg not q2)]))⟩|false=>exact ⟨rd 64 0 d T (T+1),⟨_,_,rfl⟩,iB c o p d a T ((pv (n+3) _ _).trans (Ni [.B 2 q1,.B 4 (congrArg not q2),.M 1 (qY c [.a (.v (.int o))] p 0 d T (T+1) 64)]))⟩
  |false=>
   induction q2:(o:Int)==255 with
   |true=>exact ⟨rd 64 0 d T (T+1),⟨_,_,rfl⟩,iB c o p d a T ((pv (n+3) _ _).trans (Ni [.B 2 q1,.B 3 q2,.M 2 (qY c [.a (.v (.int o))] p 0 d T (T+1) 64)]))⟩|false=>
    have h:=JO (o:Int);have q:=cR n (Mh i st p 0 d T (T+1)) (o:Int) (by lia) (by lia);show match OW p (qj o) with| .ok (m,x,s')=>_| .error d=>_
    generalize qj (o:Int)=L at q h|-;obtain ⟨l,f⟩:=L;induction l with
    |zero=>
     show match rm p f 0 with| .ok (m,x,s')=>_| .error d=>_
     unfold rm;induction q3:decide (p+f<=32)|| !isScalar (p+f) with|true=>exact oW (.str c9) (rd p 0 f T (T+1)) (Int.add_zero T) (iB c o p d a T ((pv (n+3) _ _).trans (Ni [.B 2 q1,.B 3 q2,.R 1 q,.M 0 (BG c [.a (.v (.int o))] p 0 d T (T+1) 0),.M 0 (CG c [.a (.v (.int o))] p 0 d T (T+1) f),.P 0 (Cc c p 0 f T (T+1)),.P 3 (Cc c p 0 f T (T+1)),.R 0 (bJ n i st c p 0 f T (T+1) q3)])))|false=>exact ⟨rd (yk (p+f)) 0 f T (T+1),⟨_,_,rfl⟩,iB c o p d a T ((pv (n+3) _ _).trans (Ni [.B 2 q1,.B 3 q2,.R 1 q,.M 0 (BG c [.a (.v (.int o))] p 0 d T (T+1) 0),.M 0 (CG c [.a (.v (.int o))] p 0 d T (T+1) f),.P 0 (Cc c p 0 f T (T+1)),.P 3 (Cc c p 0 f T (T+1)),.R 0 (cJ n i st c p 0 f T (T+1) q3)]))⟩
    |succ l=>exact ⟨rd p (l+1) f T (T+1),⟨le_of_succ_le_succ h,by rw [Int.add_sub_cancel]⟩,iB c o p d a T ((pv (n+3) _ _).trans (Ni [.B 2 q1,.B 3 q2,.R 1 q,.M 0 (BG c [.a (.v (.int o))] p 0 d T (T+1) (l+1)),.M 0 (CG c [.a (.v (.int o))] p (l+1) d T (T+1) f),.P 0 (Cc c p (l+1) f T (T+1))]))⟩
 |some B=>
  obtain ⟨l,d,b⟩:=B;obtain ⟨h,rfl⟩:=y;have j:=SU (n+2) (Mh i st p (l+1) d (T-b) (T+1)) (o:Int);unfold Wb;rcases XJ (o:Int) (by lia) with e|⟨v,e,t,A⟩;·rw [e] at j;rw [e];exact oW (.str c8) (rd p (l+1) d (T-b) (T+1)) (show T+ -b=T-b from rfl) (uG c l o p d (T-b) T ((Cy (n+3) _ _).trans (Ni [.R 0 j,.P 3 (Cc c p (l+1) d (T-b) (T+1))])))
  ·rw [e] at j;rw [e];have z:small v=true:=Kc t (by lia);have u:small (v*243)=true:=Kc (by lia) (by lia);have s3:small 243=true:=(Yb _).trans rfl;have r0:Dg 0 0=some []:=rfl;have r1:Dg 0 1=some [.int 0]:=rfl;have r2:Dg 0 2=some [.int 0,.int 1]:=rfl;rcases (by lia:l=0\/l=1\/l=2) with rfl|rfl|rfl
   ·show match rm p (d+v) b with| .ok (m,x,s')=>_| .error d=>_
    unfold rm;induction q3:decide (p+(d+v)<=32)|| !isScalar (p+(d+v)) with|true=>exact oW (.str c9) (rd p 0 (d+v) (T-b) (T+1)) (show T+ -b=T-b from rfl) (uG c 0 o p d (T-b) T ((Cy (n+3) _ _).trans (Ni [.R 0 j,.P 3 (Cc c p 1 d (T-b) (T+1)),.M 1 (BG c [.a (.v (.int o)),.a (.v (.int v)),.u] p 1 d (T-b) (T+1) 0),.P 0 (Cc c p 0 d (T-b) (T+1)),.L 0 r0,.P 1 (Cc c p 0 d (T-b) (T+1)),.M 1 (CG c [.a (.v (.int o)),.a (.v (.int v)),.u] p 0 d (T-b) (T+1) (d+v)),.P 0 (Cc c p 0 (d+v) (T-b) (T+1)),.P 3 (Cc c p 0 (d+v) (T-b) (T+1)),.R 0 (bJ n i st c p 0 (d+v) (T-b) (T+1) q3)])))|false=>exact ⟨rd (yk (p+(d+v))) 0 (d+v) (T-b) (T+1),⟨_,_,rfl⟩,uG c 0 o p d (T-b) T ((Cy (n+3) _ _).trans (Ni [.R 0 j,.P 3 (Cc c p 1 d (T-b) (T+1)),.M 1 (BG c [.a (.v (.int o)),.a (.v (.int v)),.u] p 1 d (T-b) (T+1) 0),.P 0 (Cc c p 0 d (T-b) (T+1)),.L 0 r0,.P 1 (Cc c p 0 d (T-b) (T+1)),.M 1 (CG c [.a (.v (.int o)),.a (.v (.int v)),.u] p 0 d (T-b) (T+1) (d+v)),.P 0 (Cc c p 0 (d+v) (T-b) (T+1)),.P 3 (Cc c p 0 (d+v) (T-b) (T+1)),.R 0 (cJ n i st c p 0 (d+v) (T-b) (T+1) q3)]))⟩
   ·refine ⟨rd p 1 (d+v*243) (T-b) (T+1),⟨by decide,by rw [show T+1- (b+1)=T-b by lia];rfl⟩,uG c 1 o p d (T-b) T ((Cy (n+3) _ _).trans ?_)⟩;exact rtC [.R 0 j,.P 3 (Cc c p 2 d (T-b) (T+1)),.M 1 (BG c [.a (.v (.int o)),.a (.v (.int v)),.u] p 2 d (T-b) (T+1) 1),.P 0 (Cc c p 1 d (T-b) (T+1)),.L 0 r1,.F 1 (jb z s3),.P 0 (Cc c p 1 d (T-b) (T+1)),.M 1 (CG c [.a (.v (.int o)),.a (.v (.int (v*243))),.a (.v (.int 0))] p 1 d (T-b) (T+1) (d+v*243)),.P 0 (Cc c p 1 (d+v*243) (T-b) (T+1))]
   ·refine ⟨rd p 2 (d+v*243*243) (T-b) (T+1),⟨by decide,by rw [show T+1- (b+1)=T-b by lia,show v*243^(1+1)=v*243*243 by lia];rfl⟩,uG c 2 o p d (T-b) T ((Cy (n+3) _ _).trans ?_)⟩;exact rtC [.R 0 j,.P 3 (Cc c p 3 d (T-b) (T+1)),.M 1 (BG c [.a (.v (.int o)),.a (.v (.int v)),.u] p 3 d (T-b) (T+1) 2),.P 0 (Cc c p 2 d (T-b) (T+1)),.L 0 r2,.F 1 (jb z s3),.F 1 (jb u s3),.P 0 (Cc c p 2 d (T-b) (T+1)),.M 1 (CG c [.a (.v (.int o)),.a (.v (.int (v*243*243))),.a (.v (.int 1))] p 2 d (T-b) (T+1) (d+v*243*243)),.P 0 (Cc c p 2 (d+v*243*243) (T-b) (T+1))]
def iz(h:rm p d back= .ok (a,k,s')):k=0/\∃x,a= [.int x]:=by unfold rm at h;induction q:decide (p+d<=32)|| !isScalar (p+d) with|true=>rw [q] at h;injection h|false=>rw [q] at h;(injection h with h;injection h with b h;injection h with c e;subst b c e);exact ⟨rfl,_,rfl⟩
def Vm(h:Wb s o r= .ok (g,k,s')):k=0/\(g= []\/∃x,g= [.int x]):=by
 obtain ⟨p,e⟩:=s;induction e with
 |none=>simp only [Wb] at h;induction q:decide ((o:Int)<=32) with|true=>rw [q] at h;(injection h with h;injection h with a h;injection h with b c;subst a b c);exact ⟨rfl,.inr ⟨_,rfl⟩⟩|false=>rw [q] at h;induction q2:(o:Int)==255 with|true=>rw [q2] at h;(injection h with h;injection h with a h;injection h with b c;subst a b c);exact ⟨rfl,.inl rfl⟩|false=>rw [q2] at h;simp only [br] at h;generalize qj (o:Int)=L at h;obtain ⟨l,d⟩:=L;induction l with|zero=>have:=iz h;exact ⟨this.1,.inr this.2⟩|succ l=>(injection h with h;injection h with a h;injection h with b c;subst a b c);exact ⟨rfl,.inl rfl⟩
 |some i=>
  obtain ⟨l,d,f⟩:=i;simp only [Wb] at h;generalize Mw (o:Int)=N at h;cases N<;>first|(injection h;done)|skip
  induction l with|zero=>have:=iz h;exact ⟨this.1,.inr this.2⟩|succ l=>(injection h with h;injection h with a h;injection h with b c;subst a b c);exact ⟨rfl,.inl rfl⟩
def yR:Wf Wb:=λs o r a k s' h=>by obtain ⟨rfl,h|⟨x,h⟩⟩:=Vm h<;>subst h<;>simp
abbrev JC(j:Nat)(L:FV)(c:Bool)(fd:List FV)(a b:Slot):List Slot:= [.a (.o j),.a (.v L),.a (.v (.bool c)),.own fd,a,b]
def xD:S:=(.seq (.asg 5 (.meth (.attr (.var 0) 9) 10 (.cons (.var 4) .nil))) (.seq (.ifs (.cmp .IsNot (.var 5) (.cst .none)) (.seq (.app 3 (.var 5)) .skip) .skip) .skip))
theorem DG(n i j:Nat)(st:ia)(M:i<st.length)(D:∀X,(st.set i X)[j]? =some (.inst 1 [(9,.o i)]))(L:FV)(f:Bool):∀(l:List Nat) (T:Int) (s:Ar) (fs:List (Nat×AV)) (fd:List FV) (A p:Slot),Rb l->Tv T s fs->fd.length+l.length<big->match sc Wb T s l with| .ok (B,s')=>∃O h g,Tv (T+l.length) s' g/\runs (ua (ja (n+5)) 2000 xD) [4] (l.map λ(x:Nat)=>FV.int (x:Int)) (JC j L f fd A p) (st.set i (.inst 0 fs))=some (.next,JC j L f (fd++B) O h,st.set i (.inst 0 g))| .error e=>∃w sl g,runs (ua (ja (n+5)) 2000 xD) [4] (l.map λ(x:Nat)=>FV.int (x:Int)) (JC j L f fd A p) (st.set i (.inst 0 fs))=some (.exc (.tup [.int e,w]),sl,st.set i (.inst 0 g))
 | [],T,s,fs,fd,A,p,z,F,c=>by rw [Ck];exact ⟨A,p,fs,by rw [length_nil,show T+((0:Nat):Int)=T from Int.add_zero T];exact F,by rw [append_nil];rfl⟩|o::l,T,s,fs,fd,A,p,V,F,W=>by
  have P:=TU n i st M T s fs F o (V o (.head _)) l;have t:∀X,(st.set i X)[i]? =some X:=λX=>by rw [getElem?_set_self M]
  have ap:∀x,tf fd x=some (fd++ [x]):=ap (by rw [length_cons] at W;lia);induction q:Wb s o l with
  |error d=>rw [q] at P;obtain ⟨w,g,e⟩:=P;rw [fg q];exact ⟨w,JC j L f fd (.a (.v (.int o))) p,g,Jd (q:=some (.exc (.tup [.int (T+d),w]),JC j L f fd (.a (.v (.int o))) p,st.set i (.inst 0 g))) rfl (bc [.P 0 (D (.inst 0 fs)),.P 0 (t (.inst 0 fs)),.R 0 e])⟩
  |ok x=>
   obtain ⟨B,k,s'⟩:=x;obtain ⟨rfl,v⟩:=Vm q;rw [q] at P;obtain ⟨g,G,e⟩:=P;have u:=λh=>DG n i j st M D L f l (T+1) s' g (fd++B) (.a (.v (.int o))) h (λy hy=>V y (.tail _ hy)) G (by rw [length_append];rw [length_cons] at W;rcases v with rfl|⟨x,rfl⟩<;>simp<;>lia);rw [Ud q,show T+((0:Nat):Int)+1=T+1 by lia,drop_zero];have m:∃h,ua (ja (n+5)) 2000 xD (JC j L f fd (.a (.v (.int o))) p) (st.set i (.inst 0 fs))=some (.next,JC j L f (fd++B) (.a (.v (.int o))) h,st.set i (.inst 0 g)):=by
    unfold xD;rcases v with rfl|⟨x,rfl⟩;·refine ⟨.a (.v .none),?_⟩;rw [append_nil];exact bc [.P 0 (D (.inst 0 fs)),.P 0 (t (.inst 0 fs)),.R 0 e]
    ·refine ⟨.a (.v (.int x)),?_⟩;exact bc [.P 0 (D (.inst 0 fs)),.P 0 (t (.inst 0 fs)),.R 0 e,.L 3 (ap (one [.int x]))]
   obtain ⟨h,m⟩:=m;have u:=u h;induction q2:sc Wb (T+1) s' l with
   |error C=>rw [q2] at u;obtain ⟨w,sl,r,C⟩:=u;exact ⟨w,sl,r,(Jd rfl m).trans C⟩
   |ok y=>obtain ⟨l2,s2⟩:=y;rw [q2] at u;obtain ⟨a,b,r,H,C⟩:=u;refine ⟨a,b,r,?_,(Jd rfl m).trans (C.trans (by rw [append_assoc]))⟩;rw [length_cons,show T+((l.length+1:Nat):Int)=T+1+(l.length:Nat) by lia];exact H
def Cd{st:ia}(h:i<st.length)(a:sd c m=true)(b:fs.length<90):Hb (.a (.o i)::sl) (st.set i (.inst c fs)) m x=some (st.set i (.inst c (qg fs m x))):=by unfold Hb;rw [getElem?_cons_zero];dsimp only;rw [getElem?_set_self h];dsimp only;rw [a,decide_eq_true b,set_set];rfl
def WQ(n i:Nat)(st:ia)(e:i<st.length):(ja (n+1)).meth 0 999 [.o i] (st.set i (.inst 0 []))=some (.ok (.v .none),st.set i (.inst 0 (rd 64 0 0 0 0))):=by have s1:∀sl x,Hb (.a (.o i)::sl) (st.set i (.inst 0 [])) 1 x=some (st.set i (.inst 0 [(1,x)])):=λsl x=>Cd e rfl (by decide);have s2:∀sl x a,Hb (.a (.o i)::sl) (st.set i (.inst 0 [(1,a)])) 2 x=some (st.set i (.inst 0 [(1,a),(2,x)])):=λsl x a=>Cd e rfl (by simp);have s3:∀sl x a b,Hb (.a (.o i)::sl) (st.set i (.inst 0 [(1,a),(2,b)])) 3 x=some (st.set i (.inst 0 [(1,a),(2,b),(3,x)])):=λsl x a b=>Cd e rfl (by simp);have s4:∀sl x a b c,Hb (.a (.o i)::sl) (st.set i (.inst 0 [(1,a),(2,b),(3,c)])) 4 x=some (st.set i (.inst 0 [(1,a),(2,b),(3,c),(4,x)])):=λsl x a b c=>Cd e rfl (by simp);have s5:∀sl x a b c d,Hb (.a (.o i)::sl) (st.set i (.inst 0 [(1,a),(2,b),(3,c),(4,d)])) 5 x=some (st.set i (.inst 0 [(1,a),(2,b),(3,c),(4,d),(5,x)])):=λsl x a b c d=>Cd e rfl (by simp);unfold rd;exact Rh [.M 1 (s1 ([]) (.v (.int 64))),.M 0 (s2 ([]) (.v (.int 0)) (.v (.int 64))),.M 0 (s3 ([]) (.v (.int 0)) (.v (.int 64)) (.v (.int 0))),.M 0 (s4 ([]) (.v (.int 0)) (.v (.int 64)) (.v (.int 0)) (.v (.int 0))),.M 0 (s5 ([]) (.v (.int 0)) (.v (.int 64)) (.v (.int 0)) (.v (.int 0)) (.v (.int 0)))]
def sq(st:ia)(a b c:PO):(st++ [a,b]).set (st.length+1) c=st++ [a,c]:=by rw [set_append_right _ _ (by lia),show st.length+1-st.length=1 by lia];rfl
def QI(st:ia)(a b c:PO):(st++ [a,b]).set st.length c=st++ [c,b]:=by rw [set_append_right _ _ (by lia),Nat.sub_self];rfl
def Gj(st:ia)(a c:PO):(st++ [a]).set st.length c=st++ [c]:=by rw [set_append_right _ _ (by lia),Nat.sub_self];rfl
def Sz(st:ia)(a:PO):(st++ [a])[st.length]? =some a:=by rw [getElem?_append_right (Nat.le_refl _),Nat.sub_self];rfl
def Rz(st:ia)(a b:PO):(st++ [a,b])[st.length]? =some a:=by rw [getElem?_append_right (Nat.le_refl _),Nat.sub_self];rfl
def bH(n:Nat)(st:ia):(ja (n+2)).meth 1 999 [.o st.length] (st++ [.inst 1 []])=some (.ok (.v .none),st++ [.inst 1 [(9,.o (st.length+1))],.inst 0 (rd 64 0 0 0 0)]):=by
 have e:=WQ n (st.length+1) (st++ [.inst 1 [],.inst 0 []]) (by simp);rw [sq,sq] at e;have b:(st++ [PO.inst 1 []]).length=st.length+1:=by simp
 have a:st++ [PO.inst 1 []]++ [PO.inst 0 []]=st++ [.inst 1 [],.inst 0 []]:=by simp
 have s1:∀sl x,Hb (.a (.o st.length)::sl) (st++ [.inst 1 [],.inst 0 (rd 64 0 0 0 0)]) 9 x=some (st++ [.inst 1 [(9,x)],.inst 0 (rd 64 0 0 0 0)]):=λsl x=>by have:=Cd (st:=st++ [.inst 1 [],.inst 0 (rd 64 0 0 0 0)]) (i:=st.length) (c:=1) (m:=9) (fs:= []) (sl:=sl) (x:=x) (by simp) rfl (by decide);rw [QI,QI] at this;exact this
 rw [<-a] at e;rw [<-b] at e|-;exact Rh [.R 0 e,.M 0 (s1 ([]) (.o (List.length (st++ [.inst 1 []]))))]
def Yh(s:Ar):Option Int:=match s.2 with|none=>none|some (x,a,b)=>some b
def AN(n i:Nat)(st:ia)(e:i<st.length)(T:Int)(s:Ar)(fs:List (Nat×AV))(f:Tv T s fs):match Yh s with|none=>(ja (n+1)).meth 0 11 [.o i] (st.set i (.inst 0 fs))=some (.ok (.v .none),st.set i (.inst 0 fs))|some b=>∃w,(ja (n+1)).meth 0 11 [.o i] (st.set i (.inst 0 fs))=some (.error (.tup [.int (T-b),w]),st.set i (.inst 0 fs)):=by
 obtain ⟨p,c⟩:=s;induction c with
 |none=>obtain ⟨d,a,rfl⟩:=f;simp only [Yh];exact Rh [.P 0 (Cc e p 0 d a T)]
 |some h=>obtain ⟨l,d,b⟩:=h;obtain ⟨g,rfl⟩:=f;simp only [Yh];have z:decide (0<(l:Int)+1)=true:=decide_eq_true (by lia);refine ⟨.str c10,?_⟩;exact Rh [.P 0 (Cc e p (↑l+1) d (T-b) T),.B 1 z,.P 1 (Cc e p (↑l+1) d (T-b) T)]
def Mx(n i j:Nat)(st:ia)(h:i<st.length)(k:∀X,(st.set i X)[j]? =some (.inst 1 [(9,.o i)]))(b:Bool)(l:List Nat)(T:Int)(s:Ar)(fs:List (Nat×AV))(p:Rb l)(r:Tv T s fs)(o:l.length<=lim):
  match sc Wb T s l with| .ok (m,s')=>(match br b (Yh s') none with|none=>∃a,Tv (T+l.length) s' a/\(ja (n+6)).meth 1 0 [.o j,.v (.bytes l),.v (.bool b)] (st.set i (.inst 0 fs))=some (.ok (.v (.lst m)),st.set i (.inst 0 a))|some c=>∃w a,(ja (n+6)).meth 1 0 [.o j,.v (.bytes l),.v (.bool b)] (st.set i (.inst 0 fs))=some (.error (.tup [.int (T+l.length-c),w]),st.set i (.inst 0 a)))| .error e=>∃w a,(ja (n+6)).meth 1 0 [.o j,.v (.bytes l),.v (.bool b)] (st.set i (.inst 0 fs))=some (.error (.tup [.int e,w]),st.set i (.inst 0 a)):=by
 have P:=DG n i j st h k (.bytes l) b l T s fs [] .u .u p r (by unfold lim at o;unfold big;simp;lia);have g:pb (.bytes l)=some (l.map λ(x:Nat)=>FV.int (x:Int)):=wy (Nat.le_trans o (by decide));have t:sd 1 9=true:=rfl;have u:zy [(9,AV.o i)] 9=some (.o i):=rfl;have v:Nb 0 11=true:=rfl;have f:∀X,(st.set i X)[i]? =some X:=λX=>by rw [getElem?_set_self h]
 unfold JC at P;induction q:sc Wb T s l with
 |error e=>rw [q] at P;obtain ⟨w,sl,a,P⟩:=P;refine ⟨w,a,?_⟩;exact Rh [.L 0 g,.S 0 P]
 |ok x=>obtain ⟨m,s'⟩:=x;rw [q] at P;obtain ⟨y,z,a,d,P⟩:=P;have F:=AN (n+4) i st h _ s' a d;dsimp only;rw [nil_append] at P;induction b with|false=>refine ⟨a,d,?_⟩;exact Rh [.L 0 g,.S 0 P]|true=>simp only [br];induction q2:Yh s' with|none=>rw [q2] at F;refine ⟨a,d,?_⟩;exact Rh [.L 0 g,.S 0 P,.P 1 (k (.inst 0 a)),.P 0 (f (.inst 0 a)),.R 0 F]|some c=>rw [q2] at F;obtain ⟨w,F⟩:=F;refine ⟨w,a,?_⟩;exact Rh [.L 0 g,.S 0 P,.P 1 (k (.inst 0 a)),.P 0 (f (.inst 0 a)),.R 0 F]
def Ge(r:Res AV)(x:Except Er (List FV))(st:ia):Prop:=match x with| .ok l=>∃ex,r=some (.ok (.v (.lst l)),st++ex)| .error e=>∃w ex,r=some (.error (.tup [.int e,w]),st++ex)
def Qe(l:List Nat):Except Er (List FV):=match sc Wb 0 (64,none) l with| .error e=> .error e| .ok (b,s')=>match Yh s' with|none=> .ok b|some a=> .error ((l.length:Int)-a)
def JU(n:Nat)(st:ia)(l:List Nat)(f:l.length<=lim)(d:Rb l):Ge ((ja (n+7)).call 23 [.v (.bytes l)] st) (Qe l) st:=by
 have I:=bH (n+4) st;have P:=Mx n (st.length+1) st.length (st++ [.inst 1 [(9,.o (st.length+1))],.inst 0 (rd 64 0 0 0 0)]) (by simp) (λX=>by rw [sq,Rz]) true l 0 (64,none) (rd 64 0 0 0 0) d ⟨0,0,rfl⟩ f;simp only [sq] at P;have im:Nb 1 999=true:=rfl;have g:Nb 1 0=true:=rfl;have b:=Rz st (.inst 1 [(9,.o (st.length+1))]) (.inst 0 (rd 64 0 0 0 0));unfold Qe;induction q:sc Wb 0 (64,none) l with
 |error e=>rw [q] at P;obtain ⟨w,a,P⟩:=P;refine ⟨w,[.inst 1 [(9,.o (st.length+1))],.inst 0 a],?_⟩;exact xa [.R 0 I,.P 0 b,.R 0 P]
 |ok x=>
  obtain ⟨h,s'⟩:=x;rw [q] at P;simp only [br] at P|-;induction q2:Yh s' with
  |none=>rw [q2] at P;obtain ⟨a,_,P⟩:=P;refine ⟨[.inst 1 [(9,.o (st.length+1))],.inst 0 a],?_⟩;exact xa [.R 0 I,.P 0 b,.R 0 P]
  |some c=>rw [q2] at P;obtain ⟨w,a,P⟩:=P;rw [Int.zero_add] at P;refine ⟨w,[.inst 1 [(9,.o (st.length+1))],.inst 0 a],?_⟩;exact xa [.R 0 I,.P 0 b,.R 0 P]
def vk(P:Int)(step:kc a b):kc a b:=λs o r=>match step s o r with| .ok x=> .ok x| .error d=> .error (P+d)
def H4{step:kc b c}(P:Int)(W:Wf step):Wf (vk P step):=λs o r a k s' h=>by unfold vk at h;induction q:step s o r with|error d=>rw [q] at h;injection h|ok x=>rw [q] at h;(injection h with h;subst h);exact W _ _ _ _ _ _ q
theorem nN{step:kc g j}(a:Int):∀(n:Nat) (i:Int) (s:j) (r:List g),r.length<=n->sc (vk a step) i s r=sh a (sc step i s r)
 |y,b,z,[],c=>rfl|0,y,b,z::c,h=>by simp at h|n+1,i,s,o::r,h=>by
  simp only [length_cons,Nat.add_le_add_iff_right] at h;induction q:step s o r with
  |error d=>
   have e:vk a step s o r= .error (a+d):=by unfold vk;rw [q]
   rw [fg q,fg e];simp only [sh];rw [show i+(a+d)=a+(i+d) by lia]
  |ok x=>
   obtain ⟨f,k,s'⟩:=x;have e:vk a step s o r= .ok (f,k,s'):=by unfold vk;rw [q]
   rw [Ud q,Ud e,nN a n _ s' (r.drop k) (by rw [length_drop];lia),aN]
def u8(b:Bool)(P:Int):List (Nat×AV):= [(13,.v (.bool b)),(16,.v (.bytes [])),(1,.v (.int P))]
def cz(b:Bool)(P:Int):kc Nat Unit:=br b (vk P Ce) Wc
def wfG(b:Bool)(P:Int):Wf (cz b P):=by induction b with|true=>exact H4 P US|false=>exact rH
noncomputable abbrev slW(i:Nat)(l:List Nat)(d:Bool)(fd:List FV)(k:Int)(a b c:Slot):List Slot:= [.a (.o i),.a (.v (.bytes l)),.a (.v (.bool d)),.a (.v (.bytes l)),.own fd,.a (.v (.int k)),a,b,c]
def Ox(n:Nat)(st:ia)(b:Bool):(ja (n+1)).meth 3 999 [.o st.length,.v (.bool b)] (st++ [.inst 3 []])=some (.ok (.v .none),st++ [.inst 3 (u8 b 0)]):=by
 have d:∀{m:Nat} {fs:List (Nat×AV)} {sl:List Slot} {x:AV},sd 3 m=true->fs.length<90->Hb (.a (.o st.length)::sl) (st++ [.inst 3 fs]) m x=some (st++ [.inst 3 (qg fs m x)]):=λ{m fs sl x} e f=>by have:=Cd (st:=st++ [.inst 3 fs]) (i:=st.length) (c:=3) (m:=m) (fs:=fs) (sl:=sl) (x:=x) (by simp) e f;rw [Gj,Gj] at this;exact this
 have s1:∀sl x,Hb (.a (.o st.length)::sl) (st++ [.inst 3 []]) 13 x=some (st++ [.inst 3 [(13,x)]]):=λsl x=>d rfl (by decide);have s2:∀sl x a,Hb (.a (.o st.length)::sl) (st++ [.inst 3 [(13,a)]]) 16 x=some (st++ [.inst 3 [(13,a),(16,x)]]):=λsl x a=>d rfl (by simp);have s3:∀sl x a b,Hb (.a (.o st.length)::sl) (st++ [.inst 3 [(13,a),(16,b)]]) 1 x=some (st++ [.inst 3 [(13,a),(16,b),(1,x)]]):=λsl x a b=>d rfl (by simp);unfold u8;exact Rh [.M 0 (s1 ([.a (.v (.bool b))]) (.v (.bool b))),.M 0 (s2 ([.a (.v (.bool b))]) (.v (.bytes [])) (.v (.bool b))),.M 0 (s3 ([.a (.v (.bool b))]) (.v (.int 0)) (.v (.bool b)) (.v (.bytes [])))]
def aH(n i:Nat)(st:ia)(z:i<st.length)(b:Bool)(P:Int)(a:Bool)(l:List Nat)(A:l.length<=lim)(H:a=true\/∀(k:Nat) (o:Nat) (r:List Nat),At l k (o::r)->((Xa o r).2.2==Rk)=false):
  pz ((ja (n+3)).meth 3 0 [.o i,.v (.bytes l),.v (.bool a)] (st.set i (.inst 3 (u8 b P)))) (sc (cz b P) 0 () l) (st.set i (.inst 3 (u8 b P))) (st.set i (.inst 3 (u8 b (br a 0 (P+l.length))))):=by
 have d:∀X,(st.set i X)[i]? =some X:=λX=>by rw [getElem?_set_self z]
 have s1:∀sl,Hb (.a (.o i)::sl) (st.set i (.inst 3 (u8 b P))) 16 (.v (.bytes []))=some (st.set i (.inst 3 (u8 b P))):=λsl=>Cd z rfl (show 3<90 by decide);have s2:∀sl x,Hb (.a (.o i)::sl) (st.set i (.inst 3 (u8 b P))) 1 (.v (.int x))=some (st.set i (.inst 3 (u8 b x))):=λsl x=>Cd z rfl (show 3<90 by decide);have C:Ia .Add (.bytes []) (.bytes l)=some (.bytes l):=oG (by unfold lim at A;unfold big;simp;lia);refine eE () (λk y fd sl=>EL (slW i l a fd k) sl) (wfG b P) A (.mk .u .u .u) [.P 0 (d (.inst 3 (u8 b P))),.F 0 C] (λ_ _ _ _ j h=>j.rec λ_ _ _=>lS h rfl rfl) (λk s fd sl o r hA j hb=>j.rec λp q t=> ?_) (λs fd sl j=>j.rec λp q t=> ?_) (by kernel_rfl)
 ·have e:=om n k (st.set i (.inst 3 (u8 b P))) l o r hA;have le:=(lh o r).1;have u:((Xa o r).2.2==Rk&& !a)=false:=by
   rcases H with h|h;·rw [h];simp
   ·rw [h k o r hA];rfl
  have ap:=ap hb.1;have f:cz b P s o r=br b (vk P Ce () o r) (Wc () o r):=by induction b<;>rfl
  rw [f];unfold vk Ce Wc;generalize Xa o r=Q at e le u|-;obtain ⟨m,v,w⟩:=Q;induction g:w==Rk with
  |true=>
   rw [show ((m,v,w):P3).2.2=w from rfl,g] at u;induction a with|false=>injection u|true=>
   induction v with
   |some c=>induction b<;>exact .ok (im le) (qd [.R 0 e,.B 2 g,.L 10 (ap (oi (m,some c,w).snd.fst))] (.mk _ _ _))
   |none=>induction b with|true=>exact .er (j:=P+k) (by lia) (Oi [.R 0 e,.B 2 g,.P 6 (d (.inst 3 (u8 true P))),.P 1 (d (.inst 3 (u8 true P)))])|false=>exact .ok (im le) (qd [.R 0 e,.B 2 g,.P 6 (d (.inst 3 (u8 false P))),.L 5 (ap (.int 65533))] (.mk _ _ _))
  |false=>
   induction v with
   |some c=>induction b<;>exact .ok (im le) (qd [.R 0 e,.B 2 g,.L 9 (ap (oi (m,some c,w).snd.fst))] (.mk _ _ _))
   |none=>induction b with|true=>exact .er (j:=P+k) (by lia) (Oi [.R 0 e,.B 2 g,.P 5 (d (.inst 3 (u8 true P))),.P 1 (d (.inst 3 (u8 true P)))])|false=>exact .ok (im le) (qd [.R 0 e,.B 2 g,.P 5 (d (.inst 3 (u8 false P))),.L 5 (ap (.int 65533))] (.mk _ _ _))
 ·have B:Va (.bytes l) (some (l.length:Int)) none=some (.bytes []):=UI (Nat.le_trans A (by decide));induction a with|true=>exact oj [.M 1 (s1 ([.a (.v (.bytes l)),.a (.v (.bool true)),.a (.v (.bytes l)),.own fd,.a (.v (.int ↑l.length)),p,q,t])),.M 1 (s2 ([.a (.v (.bytes l)),.a (.v (.bool true)),.a (.v (.bytes l)),.own fd,.a (.v (.int ↑l.length)),p,q,t]) (0))]|false=>exact oj [.F 1 B,.M 0 (s1 ([.a (.v (.bytes l)),.a (.v (.bool false)),.a (.v (.bytes l)),.own fd,.a (.v (.int ↑l.length)),p,q,t])),.P 1 (d (.inst 3 (u8 b P))),.M 1 (s2 ([.a (.v (.bytes l)),.a (.v (.bool false)),.a (.v (.bytes l)),.own fd,.a (.v (.int ↑l.length)),p,q,t]) (P+↑l.length))]
def Ac(q:Str)(P:Int):List (Nat×AV):= [(12,.v (.str q)),(13,.v (.bool false)),(2,.v (.bytes [])),(14,.v (.int P))]
def cH(n:Nat)(st:ia)(q:Str):(ja (n+1)).meth 2 999 [.o st.length,.v (.str q),.v (.bool false)] (st++ [.inst 2 []])=some (.ok (.v .none),st++ [.inst 2 (Ac q 0)]):=by
 have d:∀{m:Nat} {fs:List (Nat×AV)} {sl:List Slot} {x:AV},sd 2 m=true->fs.length<90->Hb (.a (.o st.length)::sl) (st++ [.inst 2 fs]) m x=some (st++ [.inst 2 (qg fs m x)]):=λ{m fs sl x} e f=>by have:=Cd (st:=st++ [.inst 2 fs]) (i:=st.length) (c:=2) (m:=m) (fs:=fs) (sl:=sl) (x:=x) (by simp) e f;rw [Gj,Gj] at this;exact this
 have s1:∀sl x,Hb (.a (.o st.length)::sl) (st++ [.inst 2 []]) 12 x=some (st++ [.inst 2 [(12,x)]]):=λsl x=>d rfl (by decide);have s2:∀sl x a,Hb (.a (.o st.length)::sl) (st++ [.inst 2 [(12,a)]]) 13 x=some (st++ [.inst 2 [(12,a),(13,x)]]):=λsl x a=>d rfl (by simp);have s3:∀sl x a b,Hb (.a (.o st.length)::sl) (st++ [.inst 2 [(12,a),(13,b)]]) 2 x=some (st++ [.inst 2 [(12,a),(13,b),(2,x)]]):=λsl x a b=>d rfl (by simp);have s4:∀sl x a b c,Hb (.a (.o st.length)::sl) (st++ [.inst 2 [(12,a),(13,b),(2,c)]]) 14 x=some (st++ [.inst 2 [(12,a),(13,b),(2,c),(14,x)]]):=λsl x a b c=>d rfl (by simp);unfold Ac;exact Rh [.M 0 (s1 ([.a (.v (.str q)),.a (.v (.bool false))]) (.v (.str q))),.M 0 (s2 ([.a (.v (.str q)),.a (.v (.bool false))]) (.v (.bool false)) (.v (.str q))),.M 0 (s3 ([.a (.v (.str q)),.a (.v (.bool false))]) (.v (.bytes [])) (.v (.str q)) (.v (.bool false))),.M 0 (s4 ([.a (.v (.str q)),.a (.v (.bool false))]) (.v (.int 0)) (.v (.str q)) (.v (.bool false)) (.v (.bytes [])))]
def nA(be:Bool)(o:Nat):List Nat->Bool| []=>true|x::r=>decide ((r.length:Int)+2<4)&&Ua (ic be o x)
def NU(n i:Nat)(st:ia)(l:List Nat)(f:Rb l)(q:Str)(be:Bool)(g:(q==c0)=be)(k o:Nat)(r:List Nat)(hA:At l k (o::r)):(ja (n+2)).meth 2 15 [.o i,.v (.bytes l),.v (.int k),.v (.str q)] st=some (.ok (.v (.bool (nA be o r))),st):=by
 have c:=Oc hA.big;have a:=hA.len
 match r,hA,a with| [],hA,a=>have b:decide ((l.length:Int)- (k:Int)<2)=true:=decide_eq_true (by simp at a;lia);exact Rh [.F 0 c,.B 2 b]|x::r,hA,a=>have b:decide ((l.length:Int)- (k:Int)<2)=false:=decide_eq_false (by simp at a;lia);have d:decide ((l.length:Int)- (k:Int)<4)=decide ((r.length:Int)+2<4):=decide_eq_decide.mpr (by simp at a;lia);have h:=Uu n k (k:Int) rfl st l f q be g o x r hA;have e:= @Hj n st;refine (?_:_=(some (.ok (.v (.bool (decide ((r.length:Int)+2<4)&&Ua (ic be o x)))),st):Res AV));generalize decide ((r.length:Int)+2<4)=u at d|-;induction u with|true=>exact Rh [.F 0 c,.B 2 b,.B 2 d,.R 1 h,.R 0 (e (ic be o x))]|false=>exact Rh [.F 0 c,.B 2 b,.B 2 d]
noncomputable abbrev slY(i:Nat)(l:List Nat)(d:Bool)(q:Str)(fd:List FV)(k:Int)(a b c:Slot):List Slot:= [.a (.o i),.a (.v (.bytes l)),.a (.v (.bool d)),.a (.v (.bytes l)),.own fd,.a (.v (.int k)),.a (.v (.str q)),a,b,c]
noncomputable def CC:List Nat:= [65,233,8364,128512,1114111,65279,0,65533]
noncomputable def T8:List (Nat×List Nat):= [(65,[65]),(233,[195,169]),(8364,[226,130,172]),(128512,[240,159,152,128]),(1114111,[244,143,191,191]),(65279,[239,187,191]),(0,[0]),(65533,[239,191,189])]
noncomputable def T16:List (Nat×List Nat):= [(65,[65]),(233,[233]),(8364,[8364]),(128512,[55357,56832]),(1114111,[56319,57343]),(65279,[65279]),(0,[0]),(65533,[65533]),(10,[10])]
def e8(c:Nat):List Nat:=(T8.lookup c).getD []
def Xf(c:Nat):List Nat:=(T16.lookup c).getD []
noncomputable def Aa(l:List Nat):List FV:=l.map λ(x:Nat)=>FV.int (x:Int)
section
variable (n:Nat) (st:ia)
def E5:(ja (n+1)).call 38 [.v (.int 65)] st=some (.ok (.v (.lst [.int 65])),st):=by have e:∀a b c d:FV,Ia .Add (.lst [a,b]) (.lst [c,d])=some (.lst [a,b,c,d]):=λx x x x=>rfl;exact xa []
def PX:(ja (n+1)).call 38 [.v (.int 233)] st=some (.ok (.v (.lst [.int 195,.int 169])),st):=by have e:∀a b c d:FV,Ia .Add (.lst [a,b]) (.lst [c,d])=some (.lst [a,b,c,d]):=λx x x x=>rfl;exact xa []
def WT:(ja (n+1)).call 38 [.v (.int 8364)] st=some (.ok (.v (.lst [.int 226,.int 130,.int 172])),st):=by have e:∀a b c d:FV,Ia .Add (.lst [a,b]) (.lst [c,d])=some (.lst [a,b,c,d]):=λx x x x=>rfl;exact xa []
def QM:(ja (n+1)).call 38 [.v (.int 128512)] st=some (.ok (.v (.lst [.int 240,.int 159,.int 152,.int 128])),st):=by have e:∀a b c d:FV,Ia .Add (.lst [a,b]) (.lst [c,d])=some (.lst [a,b,c,d]):=λx x x x=>rfl;exact xa [.F 25 (e (.int (bitOr (240:Int) (fdiv (128512:Int) ((2:Int)^toNat (18:Int))))) (.int (bitOr (128:Int) (bitAnd (fdiv (128512:Int) ((2:Int)^toNat (12:Int))) (63:Int)))) (.int (bitOr (128:Int) (bitAnd (fdiv (128512:Int) ((2:Int)^toNat (6:Int))) (63:Int)))) (.int (bitOr (128:Int) (bitAnd (128512:Int) (63:Int)))))]
def LK:(ja (n+1)).call 38 [.v (.int 1114111)] st=some (.ok (.v (.lst [.int 244,.int 143,.int 191,.int 191])),st):=by have e:∀a b c d:FV,Ia .Add (.lst [a,b]) (.lst [c,d])=some (.lst [a,b,c,d]):=λx x x x=>rfl;exact xa [.F 25 (e (.int (bitOr (240:Int) (fdiv (1114111:Int) ((2:Int)^toNat (18:Int))))) (.int (bitOr (128:Int) (bitAnd (fdiv (1114111:Int) ((2:Int)^toNat (12:Int))) (63:Int)))) (.int (bitOr (128:Int) (bitAnd (fdiv (1114111:Int) ((2:Int)^toNat (6:Int))) (63:Int)))) (.int (bitOr (128:Int) (bitAnd (1114111:Int) (63:Int)))))]
def LP:(ja (n+1)).call 38 [.v (.int 65279)] st=some (.ok (.v (.lst [.int 239,.int 187,.int 191])),st):=by have e:∀a b c d:FV,Ia .Add (.lst [a,b]) (.lst [c,d])=some (.lst [a,b,c,d]):=λx x x x=>rfl;exact xa []
def Rac:(ja (n+1)).call 38 [.v (.int 0)] st=some (.ok (.v (.lst [.int 0])),st):=by have e:∀a b c d:FV,Ia .Add (.lst [a,b]) (.lst [c,d])=some (.lst [a,b,c,d]):=λx x x x=>rfl;exact xa []
def MP:(ja (n+1)).call 38 [.v (.int 65533)] st=some (.ok (.v (.lst [.int 239,.int 191,.int 189])),st):=by have e:∀a b c d:FV,Ia .Add (.lst [a,b]) (.lst [c,d])=some (.lst [a,b,c,d]):=λx x x x=>rfl;exact xa []
def T5(c:Nat)(h:c∈CC):(ja (n+1)).call 38 [.v (.int c)] st=some (.ok (.v (.lst (Aa (e8 c)))),st):=by
 simp only [CC,mem_cons,not_mem_nil,or_false] at h;rcases h with rfl|rfl|rfl|rfl|rfl|rfl|rfl|rfl;·exact E5 n st
 ·exact PX n st
 ·exact WT n st
 ·exact QM n st
 ·exact LK n st
 ·exact LP n st
 ·exact Rac n st
 ·exact MP n st
def KW(c:Nat)(h:c∈10::CC):isScalar c=true:=by simp only [CC,mem_cons,not_mem_nil,or_false] at h;rcases h with rfl|rfl|rfl|rfl|rfl|rfl|rfl|rfl|rfl<;>rfl
end
theorem nE(n:Nat)(st:ia)(L:FV):∀(t:List Nat) (fd:List FV) (d:Slot),(∀c∈t,c∈CC)->fd.length+4*t.length<=big->∃a,runs (ua (ja (n+2)) 2000 (.seq (.ifs (.not (.call 4 (.cons (.var 2) .nil))) (.seq .bad .skip) .skip) (.seq (.ext 1 (.call 38 (.cons (.var 2) .nil))) .skip))) [2] (Aa t) [.a (.v L),.own fd,d] st=some (.next,[.a (.v L),.own (fd++Aa (t.flatMap e8)),a],st)
 | [],fd,d,y,b=>⟨d,by simp [Aa];rfl⟩|c::t,fd,d,h,e=>by
  have f:=bf n st (c:Int);rw [KW c (.tail _ (h c (.head _)))] at f;have g:=T5 (n+1) st c (h c (.head _));have k:(e8 c).length<=4:=by have:=h c (.head _);simp only [CC,mem_cons,not_mem_nil,or_false] at this;rcases this with rfl|rfl|rfl|rfl|rfl|rfl|rfl|rfl<;>decide
  have ex:Pg fd (.lst (Aa (e8 c)))=some (fd++Aa (e8 c)):=if_pos (by unfold Aa;rw [length_map];rw [length_cons] at e;lia);obtain ⟨a,j⟩:=nE n st L t (fd++Aa (e8 c)) (.a (.v (.int c))) (λx i=>h x (.tail _ i)) (by unfold Aa;rw [length_append,length_map];rw [length_cons] at e;lia);rw [flatMap_cons,show Aa (e8 c++t.flatMap e8)=Aa (e8 c)++Aa (t.flatMap e8) from map_append,<-append_assoc];exact ⟨a,(Jd (sl1:= [.a (.v L),.own fd,.a (.v (.int c))]) (q:=some (.next,[.a (.v L),.own (fd++Aa (e8 c)),.a (.v (.int c))],st)) rfl (bc [.R 0 f,.R 2 g,.L 0 ex])).trans j⟩
def Qk(d:Rb l)(e:l.length<=big):Jj (.lst (Aa l))=some (.bytes l):=by
 have a:∀l:List Nat,Fd (Aa l)=some (l.map λ(x:Nat)=>(x:Int)):=λl=>by induction l with|nil=>rfl|cons x l h=>show Ug (Fd (Aa l)) (λm=>some ((x:Int)::m))=_;rw [h];rfl
 have b:(l.map λ(x:Nat)=>(x:Int)).all (λn=>decide (0<=n)&&decide (n<256))=true:=by rw [all_eq_true];intro x f;obtain ⟨y,g,rfl⟩:=mem_map.mp f;have:=d y g;rw [decide_eq_true (by lia),decide_eq_true (by lia)];rfl
 have c:(l.map λ(x:Nat)=>(x:Int)).map toNat=l:=by
  rw [map_map];conv=>rhs;rw [<-map_id l]
  congr 1
 unfold Jj;dsimp only;rw [a];dsimp only;rw [b,length_map,decide_eq_true e,c];rfl
def Cx{f:Nat->List Nat}{t:List Nat}(h:∀c∈t,Rb (f c)):Rb (t.flatMap f):=λx a=>by obtain ⟨c,b,a⟩:=mem_flatMap.mp a;exact h c b x a
theorem ng{f:Nat->List Nat}{k:Nat}:∀{t:List Nat},(∀c∈t,(f c).length<=k)->(t.flatMap f).length<=k*t.length| [],a=>by simp|c::t,h=>by have:=ng λx b=>h x (.tail c b);have:=h c (.head _);rw [flatMap_cons,length_append,length_cons,Nat.mul_add];lia
def xJ(c:Nat)(h:c∈CC):Rb (e8 c)/\(e8 c).length<=4:=by simp only [CC,mem_cons,not_mem_nil,or_false] at h;rcases h with rfl|rfl|rfl|rfl|rfl|rfl|rfl|rfl<;>exact ⟨by intro x a;revert x;decide,by decide⟩
def Di(h:t.length<=big):pb (.lst (Aa t))=some (Aa t):=if_pos (by unfold Aa;rw [length_map];exact h)
def WI(n:Nat)(st:ia)(t:List Nat)(h:∀c∈t,c∈CC)(b:t.length<=lim):(ja (n+3)).call 39 [.v (.lst (Aa t))] st=some (.ok (.v (.bytes (t.flatMap e8))),st):=by obtain ⟨v,R⟩:=nE n st (.lst (Aa t)) t [] .u h (by unfold lim at b;unfold big;simp;lia);have d:=Di (t:=t) (Nat.le_trans b (by decide));have hb:=Qk (Cx λc a=>(xJ c (h c a)).1) (Nat.le_trans (ng (k:=4) λc a=>(xJ c (h c a)).2) (by unfold lim at b;unfold big;lia));rw [nil_append] at R;exact xa [.L 0 d,.S 0 R,.F 0 hb]
def Ij:List Nat:=10::CC
theorem yB(n:Nat)(st:ia)(L:FV):∀(t:List Nat) (v:Slot),(∀c∈t,c∈Ij)->∃a,runs (ua (ja (n+2)) 2000 (.seq (.ifs (.not (.call 4 (.cons (.var 1) .nil))) (.seq .bad .skip) .skip) .skip)) [1] (Aa t) [.a (.v L),v] st=some (.next,[.a (.v L),a],st)| [],v,y=>⟨v,rfl⟩|c::t,v,h=>by have b:=bf n st (c:Int);rw [KW c (h c (.head _))] at b;obtain ⟨a,e⟩:=yB n st L t (.a (.v (.int c))) (λx d=>h x (.tail _ d));exact ⟨a,(Jd (sl1:= [.a (.v L),.a (.v (.int c))]) (q:=some (.next,[.a (.v L),.a (.v (.int c))],st)) rfl (bc [.R 0 b])).trans e⟩
def ZG(n:Nat)(st:ia)(t:List Nat)(h:∀c∈t,c∈Ij)(b:t.length<=lim):(ja (n+3)).call 5 [.v (.lst (Aa t))] st=some (.ok (.v .none),st):=by obtain ⟨v,R⟩:=yB n st (.lst (Aa t)) t .u h;have a:=Di (t:=t) (Nat.le_trans b (by decide));exact xa [.L 0 a,.S 0 R]
def TN(n:Nat)(st:ia)(L:FV)(fd:List FV)(c:Nat)(h:c∈Ij)(a:Slot)(e:fd.length+2<=big):∃d,ua (ja n) 2000 (.seq (.ifs (.cmp .Lt (.var 2) (.glob 7)) (.seq (.app 1 (.var 2)) .skip) (.seq (.asg 3 (.bin .Sub (.var 2) (.glob 7))) (.seq (.app 1 (.bin .Add (.glob 1) (.bin .RShift (.var 3) (.glob 41)))) (.seq (.app 1 (.bin .Add (.glob 3) (.bin .BitAnd (.var 3) (.glob 42)))) .skip)))) .skip) [.a (.v L),.own fd,.a (.v (.int c)),a] st=some (.next,[.a (.v L),.own (fd++Aa (Xf c)),.a (.v (.int c)),d],st):=by
 have ap:∀x,tf fd x=some (fd++ [x]):=λx=>if_pos (by lia);have b:∀x y,tf (fd++ [x]) y=some (fd++ [x,y]):=λx y=>(if_pos (by rw [length_append,length_cons,length_nil];lia)).trans (congrArg some (append_assoc fd [x] [y]));simp only [Ij,CC,mem_cons,not_mem_nil,or_false] at h;rcases h with rfl|rfl|rfl|rfl|rfl|rfl|rfl|rfl|rfl;·exact ⟨a,bc [.L 4 (ap (.int 10))]⟩
 ·exact ⟨a,bc [.L 4 (ap (.int 65))]⟩
 ·exact ⟨a,bc [.L 4 (ap (.int 233))]⟩
 ·exact ⟨a,bc [.L 4 (ap (.int 8364))]⟩
 ·exact ⟨.a (.v (.int 62976)),bc [.L 10 (ap (.int 55357)),.L 4 (b (.int 55357) (.int 56832))]⟩
 ·exact ⟨.a (.v (.int 1048575)),bc [.L 10 (ap (.int 56319)),.L 4 (b (.int 56319) (.int 57343))]⟩
 ·exact ⟨a,bc [.L 4 (ap (.int 65279))]⟩
 ·exact ⟨a,bc [.L 4 (ap (.int 0))]⟩
 ·exact ⟨a,bc [.L 4 (ap (.int 65533))]⟩
def oH(c:Nat)(h:c∈Ij):(Xf c).length<=2/\∀u∈Xf c,u<65536:=by simp only [Ij,CC,mem_cons,not_mem_nil,or_false] at h;rcases h with rfl|rfl|rfl|rfl|rfl|rfl|rfl|rfl|rfl<;>exact ⟨by decide,by intro x a;revert x;decide⟩
theorem pH(n:Nat)(st:ia)(L:FV):∀(t:List Nat) (fd:List FV) (f d:Slot),(∀c∈t,c∈Ij)->fd.length+2*t.length<=big->∃a e,runs (ua (ja n) 2000 (.seq (.ifs (.cmp .Lt (.var 2) (.glob 7)) (.seq (.app 1 (.var 2)) .skip) (.seq (.asg 3 (.bin .Sub (.var 2) (.glob 7))) (.seq (.app 1 (.bin .Add (.glob 1) (.bin .RShift (.var 3) (.glob 41)))) (.seq (.app 1 (.bin .Add (.glob 3) (.bin .BitAnd (.var 3) (.glob 42)))) .skip)))) .skip)) [2] (Aa t) [.a (.v L),.own fd,f,d] st=some (.next,[.a (.v L),.own (fd++Aa (t.flatMap Xf)),a,e],st)| [],fd,f,d,y,b=>⟨f,d,by simp [Aa];rfl⟩|c::t,fd,f,d,h,g=>by obtain ⟨w,B⟩:=TN n st L fd c (h c (.head _)) d (by rw [length_cons] at g;lia);have k:=(oH c (h c (.head _))).1;obtain ⟨a,e,j⟩:=pH n st L t (fd++Aa (Xf c)) (.a (.v (.int c))) w (λx i=>h x (.tail _ i)) (by unfold Aa;rw [length_append,length_map];rw [length_cons] at g;lia);refine ⟨a,e,?_⟩;rw [flatMap_cons,show Aa (Xf c++t.flatMap Xf)=Aa (Xf c)++Aa (t.flatMap Xf) from map_append,<-append_assoc,<-j];rw [show Aa (c::t)=FV.int c::Aa t from rfl];rw [AG,show bindL [2] (FV.int c) [.a (.v L),.own fd,f,d]=some [.a (.v L),.own fd,.a (.v (.int c)),d] from rfl,C5,B,aQ]
def lR(n:Nat)(st:ia)(t:List Nat)(h:∀c∈t,c∈Ij)(a:t.length<=lim):(ja (n+4)).call 24 [.v (.lst (Aa t))] st=some (.ok (.v (.lst (Aa (t.flatMap Xf)))),st):=by have d:=ZG n st t h a;obtain ⟨v,w,R⟩:=pH (n+3) st (.lst (Aa t)) t [] .u .u h (by unfold lim at a;unfold big;simp;lia);have b:=Di (t:=t) (Nat.le_trans a (by decide));rw [nil_append] at R;exact xa [.R 0 d,.L 0 b,.S 0 R]
def Bh(be:Bool)(u:Nat):List Nat:=br be [u/256,u % 256] [u % 256,u/256]
def PZ(n:Nat)(st:ia)(u:Nat)(q:Str)(be:Bool)(c:(q==c0)=be):(ja (n+1)).call 26 [.v (.int u),.v (.str q)] st=some (.ok (.v (.lst (Aa (Bh be u)))),st):=by
 have d:((u:Int)).fdiv 256=((u/256:Nat):Int):=by rw [fdiv_eq_ediv_of_nonneg _ (by decide)];rfl
 have e:bitAnd (u:Int) 255=((u % 256:Nat):Int):=by rw [bitAnd_m8];rfl
 have a:Ia .RShift (.int u) (.int 8)=some (.int (u/256:Nat)):=d▸AD (by decide);have b:Ia .BitAnd (.int u) (.int 255)=some (.int (u % 256:Nat)):=e▸MK;induction be with|true=>exact xa [.B 2 c,.F 1 a,.F 0 b]|false=>exact xa [.B 2 c,.F 1 b,.F 0 a]
theorem EB(n:Nat)(st:ia)(L:FV)(q:Str)(be:Bool)(d:(q==c0)=be):∀(t:List Nat) (fd:List FV) (v:Slot),fd.length+2*t.length<=big->∃a,runs (ua (ja (n+1)) 2000 (.seq (.ext 3 (.call 26 (.cons (.var 4) (.cons (.var 1) .nil)))) .skip)) [4] (Aa t) [.a (.v L),.a (.v (.str q)),.a (.v (.bool false)),.own fd,v] st=some (.next,[.a (.v L),.a (.v (.str q)),.a (.v (.bool false)),.own (fd++Aa (t.flatMap (Bh be))),a],st)
 | [],fd,v,x=>⟨v,by simp [Aa];rfl⟩|c::t,fd,v,b=>by
  have e:=PZ n st c q be d;have g:(Bh be c).length=2:=by induction be<;>rfl
  have ex:Pg fd (.lst (Aa (Bh be c)))=some (fd++Aa (Bh be c)):=if_pos (by unfold Aa;rw [length_map];rw [length_cons] at b;lia);obtain ⟨a,f⟩:=EB n st L q be d t (fd++Aa (Bh be c)) (.a (.v (.int c))) (by unfold Aa;rw [length_append,length_map];rw [length_cons] at b;lia);rw [flatMap_cons,show Aa (Bh be c++t.flatMap (Bh be))=Aa (Bh be c)++Aa (t.flatMap (Bh be)) from map_append,<-append_assoc];exact ⟨a,(Jd (sl1:= [.a (.v L),.a (.v (.str q)),.a (.v (.bool false)),.own fd,.a (.v (.int c))]) (q:=some (.next,[.a (.v L),.a (.v (.str q)),.a (.v (.bool false)),.own (fd++Aa (Bh be c)),.a (.v (.int c))],st)) rfl (bc [.R 0 e,.L 0 ex])).trans f⟩
def Nh(be:Bool)(t:List Nat):List Nat:=(t.flatMap Xf).flatMap (Bh be)
def Az{be:Bool}{t:List Nat}(h:∀c∈t,c∈Ij):Rb (Nh be t):=Cx λu a=>by obtain ⟨c,d,a⟩:=mem_flatMap.mp a;have:=(oH c (h c d)).2 u a;intro x b;unfold Bh at b;induction be<;>(simp only [br,mem_cons,not_mem_nil,or_false] at b;rcases b with rfl|rfl<;>lia)
def Gk(n:Nat)(st:ia)(t:List Nat)(q:Str)(be:Bool)(f:(q==c0)=be)(h:∀c∈t,c∈Ij)(a:t.length<=lim):(ja (n+5)).call 28 [.v (.lst (Aa t)),.v (.str q)] st=some (.ok (.v (.bytes (Nh be t))),st):=by
 have g:=lR n st t h a;have l1:(t.flatMap Xf).length<=2*t.length:=ng λc e=>(oH c (h c e)).1;have l2:(Nh be t).length<=2*(t.flatMap Xf).length:=ng λu x=>by induction be<;>exact Nat.le_refl _
 obtain ⟨v,R⟩:=EB (n+3) st (.lst (Aa t)) q be f (t.flatMap Xf) [] .u (by unfold lim at a;unfold big;simp only [length_nil];lia);have b:=Di (t:=t.flatMap Xf) (by unfold lim at a;unfold big;lia);have hb:=Qk (Az (be:=be) h) (by unfold lim at a;unfold big;lia);have d:Ia .Add (.lst []) (.lst (Aa (t.flatMap Xf)))=some (.lst (Aa (t.flatMap Xf))):=xo (by unfold Aa;rw [length_map,length_nil];unfold lim at a;unfold big;lia);have i:Am (some (.ok [],st))=some (.ok (.v (.lst [])),st):=rfl;rw [nil_append] at R;unfold Nh at hb|-;exact xa [.R 2 g,.F 0 d,.L 0 b,.S 0 R,.F 0 hb]
def de(be:Bool)(c:Nat):List Nat:=br be [0,c/65536,c/256 % 256,c % 256] [c % 256,c/256 % 256,c/65536,0]
theorem GB(n:Nat)(st:ia)(L:FV)(q:Str)(be:Bool)(b:(q==c0)=be):∀(t:List Nat) (fd:List FV) (v w:Slot),fd.length+4*t.length<=big->∃d w',runs (ua (ja n) 2000 (.seq (.asg 5 (.lst (.cons (.cst (.int 0)) (.cons (.bin .RShift (.var 4) (.cst (.int 16))) (.cons (.bin .BitAnd (.bin .RShift (.var 4) (.cst (.int 8))) (.cst (.int 255))) (.cons (.bin .BitAnd (.var 4) (.cst (.int 255))) .nil)))))) (.seq (.ext 3 (.ite (.cmp .Eq (.var 1) (.glob 40)) (.var 5) (.rev (.var 5)))) .skip))) [4] (Aa t) [.a (.v L),.a (.v (.str q)),.a (.v (.bool false)),.own fd,v,w] st=some (.next,[.a (.v L),.a (.v (.str q)),.a (.v (.bool false)),.own (fd++Aa (t.flatMap (de be))),d,w'],st)
 | [],fd,v,w,x=>⟨v,w,by simp [Aa];rfl⟩|c::t,fd,v,w,i=>by
  have k:((c:Int)).fdiv 65536=((c/65536:Nat):Int):=by rw [fdiv_eq_ediv_of_nonneg _ (by decide)];rfl
  have j:((c:Int)).fdiv 256=((c/256:Nat):Int):=by rw [fdiv_eq_ediv_of_nonneg _ (by decide)];rfl
  have m:bitAnd (c:Int) 255=((c % 256:Nat):Int):=by rw [bitAnd_m8];rfl
  have o:bitAnd ((c/256:Nat):Int) 255=((c/256 % 256:Nat):Int):=by rw [bitAnd_m8];rfl
  have p:(de be c).length=4:=by induction be<;>rfl
  have ex:∀l:List FV,l.length=4->Pg fd (.lst l)=some (fd++l):=λl r=>if_pos (by rw [length_cons] at i;lia);have a:Pg fd (.lst (Aa (de be c)))=some (fd++Aa (de be c)):=ex _ (by unfold Aa;rw [length_map,p]);obtain ⟨d,w',s⟩:=GB n st L q be b t (fd++Aa (de be c)) (.a (.v (.int c))) (.a (.v (.lst [.int 0,.int (c/65536:Nat),.int (c/256 % 256:Nat),.int (c % 256:Nat)]))) (by unfold Aa;rw [length_append,length_map];rw [length_cons] at i;lia);have f:Ia .RShift (.int c) (.int 16)=some (.int (c/65536:Nat)):=k▸AD (by decide);have e:Ia .RShift (.int c) (.int 8)=some (.int (c/256:Nat)):=j▸AD (by decide);have g:Ia .BitAnd (.int c) (.int 255)=some (.int (c % 256:Nat)):=m▸MK;have h:Ia .BitAnd (.int (c/256:Nat)) (.int 255)=some (.int (c/256 % 256:Nat)):=o▸MK;rw [flatMap_cons,show Aa (de be c++t.flatMap (de be))=Aa (de be c)++Aa (t.flatMap (de be)) from map_append,<-append_assoc];refine ⟨d,w',(Jd (sl1:= [.a (.v L),.a (.v (.str q)),.a (.v (.bool false)),.own fd,.a (.v (.int c)),w]) (q:=some (.next,[.a (.v L),.a (.v (.str q)),.a (.v (.bool false)),.own (fd++Aa (de be c)),.a (.v (.int c)),.a (.v (.lst [.int 0,.int (c/65536:Nat),.int (c/256 % 256:Nat),.int (c % 256:Nat)]))],st)) rfl ?_).trans s⟩;induction be with|true=>have a:Pg fd (.lst [.int 0,.int (c/65536:Nat),.int (c/256 % 256:Nat),.int (c % 256:Nat)])=some (fd++Aa (de true c)):=a;exact bc [.F 0 f,.F 0 e,.F 0 h,.F 0 g,.B 3 b,.L 1 a]|false=>have a:Pg fd (.lst [.int (c % 256:Nat),.int (c/256 % 256:Nat),.int (c/65536:Nat),.int 0])=some (fd++Aa (de false c)):=a;exact bc [.F 0 f,.F 0 e,.F 0 h,.F 0 g,.B 3 b,.L 2 a]
def ZS(c:Nat)(h:c∈Ij):c<1114112:=by simp only [Ij,CC,mem_cons,not_mem_nil,or_false] at h;rcases h with rfl|rfl|rfl|rfl|rfl|rfl|rfl|rfl|rfl<;>decide
def Ai(be:Bool)(t:List Nat):List Nat:=t.flatMap (de be)
def Bz{be:Bool}{t:List Nat}(h:∀c∈t,c∈Ij):Rb (Ai be t):=Cx λc b=>by have:=ZS c (h c b);intro x a;unfold de at a;induction be<;>(simp only [br,mem_cons,not_mem_nil,or_false] at a;rcases a with rfl|rfl|rfl|rfl<;>lia)
def Lx(n:Nat)(st:ia)(t:List Nat)(q:Str)(be:Bool)(g:(q==c0)=be)(h:∀c∈t,c∈Ij)(a:t.length<=lim):(ja (n+4)).call 33 [.v (.lst (Aa t)),.v (.str q)] st=some (.ok (.v (.bytes (Ai be t))),st):=by
 have f:=ZG n st t h a;have l2:(Ai be t).length<=4*t.length:=ng λu x=>by induction be<;>exact Nat.le_refl _
 obtain ⟨v,w,R⟩:=GB (n+3) st (.lst (Aa t)) q be g t [] .u .u (by unfold lim at a;unfold big;simp only [length_nil];lia);have b:=Di (t:=t) (by unfold lim at a;unfold big;lia);have d:nv (.lst (Aa t))=some (.lst (Aa t)):=by unfold nv;rw [b]
 have hb:=Qk (Bz (be:=be) h) (by unfold lim at a;unfold big;lia);have e:Ia .Add (.lst []) (.lst (Aa t))=some (.lst (Aa t)):=xo (by unfold Aa;rw [length_map,length_nil];unfold lim at a;unfold big;lia);have i:Am (some (.ok [],st))=some (.ok (.v (.lst [])),st):=rfl;rw [nil_append] at R;unfold Ai at hb|-;exact xa [.R 0 f,.F 2 d,.F 0 e,.L 0 b,.S 0 R,.F 0 hb]
noncomputable def trail(x:Nat):Bool:=decide (128<=(x:Int))&&decide ((x:Int)<=191)
def rq(a b:P3):Prop:=a.1=b.1/\a.2.1=b.2.1
def Yg(e:rq a b)(f:rq c d):rq (br u a c) (br u b d):=by induction u<;>assumption
def Zl(a:P3):rq a a:=⟨rfl,rfl⟩
theorem qm(i:trail x=false)(t:List Nat)(d:Nat):∀(m h:Nat) (code g f:Int) (r:List Nat),128<=g->f<=191->rq (Xc d m h code g f (r++x::t)) (Xc d m h code g f r)
 |0,y,z,u,v,k,p,s=>⟨rfl,rfl⟩|m+1,h,code,g,f,[],j,l=>by
  have e:(decide (g<=(x:Int))&&decide ((x:Int)<=f))=false:=by induction q:(decide (g<=(x:Int))&&decide ((x:Int)<=f)) with|false=>rfl|true=>have a:=and_eq_true_iff.mp q;have b:=of_decide_eq_true a.1;have c:=of_decide_eq_true a.2;unfold trail at i;rw [decide_eq_true (by lia),decide_eq_true (by lia)] at i;injection i
  rw [nil_append];rw [Lo,e];exact ⟨rfl,rfl⟩
 |m+1,h,code,g,f,o::r,j,l=>by rw [cons_append,Lo,Lo];exact Yg (qm i t d m (h+1) _ 128 191 r (by lia) (by lia)) (Zl _)
def kq(c:trail x=false)(t:List Nat)(o:Nat)(r:List Nat):rq (Xa o (r++x::t)) (Xa o r):=by
 unfold Xa;have d:(128:Int)<=br ((o:Int)==224) 160 128:=by induction (o:Int)==224<;>decide
 have a:br ((o:Int)==237) (159:Int) 191<=191:=by induction (o:Int)==237<;>decide
 have e:(128:Int)<=br ((o:Int)==240) 144 128:=by induction (o:Int)==240<;>decide
 have b:br ((o:Int)==244) (143:Int) 191<=191:=by induction (o:Int)==244<;>decide
 exact Yg (Zl _) (Yg (qm c t 2 1 1 _ _ _ r (by decide) (by decide)) (Yg (qm c t 3 2 1 _ _ _ r d a) (Yg (qm c t 4 3 1 _ _ _ r e b) (Zl _))))
def sm(c:trail x=false)(t:List Nat)(o:Nat)(r:List Nat):rq (Sb o (r++x::t)) (Sb o r):=by
 have h:=kq c t o r;have d:(decide (160<=(x:Int))&&decide ((x:Int)<=191))=false:=by induction q:(decide (160<=(x:Int))&&decide ((x:Int)<=191)) with|false=>rfl|true=>have a:=and_eq_true_iff.mp q;have b:=of_decide_eq_true a.1;unfold trail at c;rw [decide_eq_true (by lia),a.2] at c;injection c
 unfold trail at c;induction r with
 |nil=>unfold Sb;generalize Xa o ([]++x::t)=P at h|-;induction t with|nil=>exact h|cons y t=>simp only [nil_append,jz,Cq,d,Bool.and_false,br];exact h
 |cons a r=>induction r with
 |nil=>unfold Sb;generalize Xa o ([a]++x::t)=P at h|-;simp only [cons_append,nil_append,jz,Cq,c];induction ((o:Int)==237)&&(decide (160<=(a:Int))&&decide ((a:Int)<=191))<;>exact h
 |cons b r=>unfold Sb;generalize Xa o (a::b::r++x::t)=P at h|-;simp only [cons_append,jz,Cq];exact Yg (Yg (Zl _) h) h
def tm(t:List Nat):Sb 10 t=(1,some 10,c3):=by
 have e:Xa 10 t=(1,some 10,c3):=rfl;unfold Sb
 match t with| []=>exact e| [a]=>exact e|x::y::t=>rw [e];rfl
def Kw(t:List Nat)(r:List Nat):xf (r++10::t)=xf r:=by induction r with|nil=>rw [nil_append];simp only [xf,tm];rfl|cons o r=>have h:=(sm (x:=10) rfl t o r).2;rw [cons_append];simp only [xf,h]
def yw{r t:List Nat}(h:2<=r.length):(r++t).drop 2=r.drop 2++t:=drop_append_of_le_length h
def KN(a:trail x=false)(t:List Nat)(s:Unit)(o:Nat)(r:List Nat):Ce s o (r++x::t)=Ce s o r:=by have h:=kq a t o r;unfold Ce;generalize Xa o (r++x::t)=P at h|-;generalize Xa o r=Q at h|-;obtain ⟨m,c,w⟩:=P;obtain ⟨m',b,w'⟩:=Q;obtain ⟨rfl,rfl⟩:=h;induction c<;>rfl
def dz(a:trail x=false)(t:List Nat)(s:Unit)(o:Nat)(r:List Nat):Wc s o (r++x::t)=Wc s o r:=by have h:=kq a t o r;unfold Wc;rw [h.1,h.2]
def pL(t:List Nat)(s:Unit)(o:Nat)(r:List Nat):Kf s o (r++10::t)=Kf s o r:=by have h:=sm (x:=10) rfl t o r;have n:=vj o r;unfold Kf;generalize Sb o (r++10::t)=P at h|-;generalize Sb o r=Q at h n|-;obtain ⟨m,c,w⟩:=P;obtain ⟨m',b,w'⟩:=Q;obtain ⟨rfl,rfl⟩:=h;induction c with|none=>rfl|some c=>dsimp only at n|-;induction a:Ua c with|false=>rfl|true=>have d:55296<=c:=of_decide_eq_true (and_eq_true_iff.mp a).1;rw [yw (n c rfl (by lia)),Kw]
def rL(t:List Nat)(s:Unit)(o:Nat)(r:List Nat):Mf s o (r++10::t)=Mf s o r:=by have h:=sm (x:=10) rfl t o r;have n:=vj o r;unfold Mf;generalize Sb o (r++10::t)=P at h|-;generalize Sb o r=Q at h n|-;obtain ⟨m,c,w⟩:=P;obtain ⟨m',b,w'⟩:=Q;obtain ⟨rfl,rfl⟩:=h;induction c with|none=>rfl|some c=>dsimp only at n|-;induction a:Ua c with|false=>rfl|true=>have d:55296<=c:=of_decide_eq_true (and_eq_true_iff.mp a).1;rw [yw (n c rfl (by lia)),Kw]
def oR(o:Nat)(r t:List Nat):((o::(r++10::t)).take 2== [192,128])=((o::r).take 2== [192,128]):=by induction r with|nil=>show ([o,10]== [192,128])=([o]== [192,128]);rw [show ([o]== [192,128])=false from by simp];simp|cons a r=>rfl
def qL(t:List Nat)(s:Unit)(o:Nat)(r:List Nat):Lf s o (r++10::t)=Lf s o r:=by
 unfold Lf Ji;rw [oR];induction (o::r).take 2== [192,128] with|true=>rfl|false=>
 induction (o:Int)==0 with|true=>rfl|false=>
 have h:=sm (x:=10) rfl t o r;have n:=vj o r;simp only [br];generalize Sb o (r++10::t)=P at h|-;generalize Sb o r=Q at h n|-;obtain ⟨m,c,w⟩:=P;obtain ⟨m',b,w'⟩:=Q;obtain ⟨rfl,rfl⟩:=h;induction c with|none=>rfl|some c=>dsimp only at n|-;induction a:Ua c with|false=>rfl|true=>have d:55296<=c:=of_decide_eq_true (and_eq_true_iff.mp a).1;rw [yw (n c rfl (by lia)),Kw]
theorem lB{a g:Type}{step:kc a g}(W:Wf step)(ok:List a->Prop){t:List a}(H:∀s o r,ok (o::r)->step s o (r++t)=step s o r)(D:∀s o r f k s',ok (o::r)->step s o r= .ok (f,k,s')->ok (r.drop k)):
  ∀(n:Nat) (i:Int) (s:g) (r:List a),ok r->r.length<=n->sc step i s (r++t)=join (sc step i s r) λs'=>sc step (i+r.length) s' t
 |y,i,s,[],b,z=>by rw [Ck];rw [nil_append,length_nil,show i+((0:Nat):Int)=i from Int.add_zero i];exact (II _).symm|0,y,b,z::c,u,h=>by simp at h|n+1,i,s,o::r,e,h=>by simp only [length_cons,Nat.add_le_add_iff_right] at h;induction q:step s o r with|error d=>rw [cons_append,fg (H s o r e▸q),fg q];rfl|ok x=>obtain ⟨f,k,s'⟩:=x;have j:=(W _ _ _ _ _ _ q).1;rw [cons_append,Ud ((H s o r e).trans q),Ud q,drop_append_of_le_length j,lB W ok H D n _ s' (r.drop k) (D _ _ _ _ _ _ e q) (by rw [length_drop];lia),tG];congr 1;funext s'';congr 1;rw [length_drop,length_cons];lia
def YN(be:Bool):List Nat->Prop|y::z::x=>Ib (ic be y z)=false| []=>True|x=>False
noncomputable def xc(r:List Nat):Prop:=r.length % 2=0
noncomputable def dg(r:List Nat):Prop:=r.length % 4=0
def Ct(b:YN be t)(o:Nat)(r:List Nat)(h:xc (o::r)):Vc be o (r++t)=Vc be o r:=by
 unfold xc at h;rw [length_cons] at h;induction r with
 |nil=>simp at h|cons x r=>
  rw [length_cons] at h;simp only [cons_append,Vc,Bo];have e:Kg be (ic be o x) (r++t)=Kg be (ic be o x) r:=by
   induction r with
   |nil=>match t,b with| [],a=>rfl|y::z::t,b=>simp only [nil_append,Kg];unfold YN at b;rw [b];rfl
   |cons y r=>induction r with|nil=>simp at h|cons z r=>rfl
  rw [e]
def sj(h:xc (o::r)):xc (r.drop (Vc be o r).2):=by
 unfold xc at h|-;rw [length_cons] at h;induction r with
 |nil=>simp at h|cons x r=>
  rw [length_cons] at h;simp only [Vc,Bo];rw [length_drop,length_cons];induction Ib (ic be o x) with|true=>simp only [br];lia|false=>
  induction Ua (ic be o x) with|false=>simp only [br];lia|true=>match r with| []=>simp only [br,Kg];lia| [a]=>simp only [br,Kg];lia|y::z::r=>simp only [br,Kg];induction Ib (ic be y z)<;>(simp only [length_cons] at h|-;lia)
def Dt(be:Bool)(t:List Nat)(o:Nat)(r:List Nat)(h:dg (o::r)):se be o (r++t)=se be o r:=by
 unfold dg at h;rw [length_cons] at h
 match r,h with| [],h=>simp at h| [a],h=>simp at h| [a,b],h=>simp at h|x::y::z::r,a=>rfl
def lq(h:dg (o::r)):dg (r.drop (se be o r).2):=by
 unfold dg at h|-;rw [length_cons] at h
 match r,h with| [],h=>simp at h| [a],h=>simp at h| [a,b],h=>simp at h|x::y::z::r,h=>simp only [se,length_drop,length_cons] at h|-;lia
def gz(h:raw o (r++t)=raw o r):strict raw s o (r++t)=strict raw s o r:=by unfold strict;rw [h]
def rj(h:raw o (r++t)=raw o r):Ub raw s o (r++t)=Ub raw s o r:=by unfold Ub;rw [h]
def kH(h:strict a s o r= .ok (f,k,s')):k=(a o r).2:=by unfold strict at h;generalize a o r=P at h|-;obtain ⟨c,k'⟩:=P;induction c with|none=>injection h|some c=>(injection h with h;injection h with b h;injection h with d e;subst b d e);rfl
def dp(h:Ub raw s o r= .ok (d,k,s')):k=(raw o r).2:=by (injection h with h;injection h with a h;injection h with b c;subst a b c);rfl
theorem uz(a:Pk mail x=false)(t:List Nat):∀r,cnt mail (r++x::t)=cnt mail r| []=>by rw [nil_append];simp only [cnt,a];rfl|o::r=>by rw [cons_append];simp only [cnt,uz a t r]
def lH{r t:List Nat}(h:k<=r.length):(r++t).take k=r.take k:=take_append_of_le_length h
def Yo{x:Nat}(b:((x:Int)==45)=false)(r t:List Nat):Lc (r++x::t)=Lc r:=by induction r with|nil=>exact b|cons a y=>rfl
def yG(t:List Nat)(o:Nat)(r:List Nat):ie o (r++10::t)=ie o r:=by unfold ie;rw [uz (x:=10) rfl,lH (uh false r),drop_append_of_le_length (uh false r),Yo (x:=10) rfl,Yo (x:=10) rfl]
def RO(t:List Nat)(s:Bool)(r:List Nat):Sj s (r++47::t)=Sj s r:=by unfold Sj;rw [uz (x:=47) rfl,lH (uh true r),drop_append_of_le_length (uh true r),Yo (x:=47) rfl]
def MN(t:List Nat)(s:Bool)(o:Nat)(r:List Nat):Jh s o (r++47::t)=Jh s o r:=by unfold Jh;rw [RO]
def UH(t:List Nat)(s:Unit)(o:Nat)(r:List Nat):cf s o (r++10::t)=cf s o r:=by unfold cf;rw [yG]
def FH(t:List Nat)(s:Unit)(o:Nat)(r:List Nat):Pf s o (r++10::t)=Pf s o r:=by unfold Pf;rw [yG]
def bz(t:List Nat)(s:Ar)(o:Nat)(r:List Nat):Wb s o (r++t)=Wb s o r:=rfl
def at8(t:List Nat):Ce () 10 t= .ok ([.int 10],0,()):=rfl
def Lab(t:List Nat):Wc () 10 t= .ok ([.int 10],0,()):=rfl
def Iab(t:List Nat):Kf () 10 t= .ok ([.int 10],0,()):=by unfold Kf;rw [tm];rfl
def Mab(t:List Nat):Mf () 10 t= .ok ([.int 10],0,()):=by unfold Mf;rw [tm];rfl
def Jab(t:List Nat):Lf () 10 t= .ok ([.int 10],0,()):=by
 unfold Lf Ji;rw [tm];have e:((10::t).take 2== [192,128])=false:=by induction t<;>simp
 rw [e];rfl
def at7(t:List Nat):cf () 10 t= .ok ([.int 10],0,()):=rfl
def Kab(t:List Nat):Pf () 10 t= .ok ([.int 10],0,()):=rfl
def atB(s:Bool)(t:List Nat):Jh s 47 t= .ok ([.int 47],0,false):=rfl
def zV(p:Int)(t:List Nat):Wb (p,none) 10 t= .ok ([.int 10],0,(64,none)):=rfl
def HR(p:Int)(l:Nat)(d a:Int)(t:List Nat):Wb (p,some (l,d,a)) 10 t= .error (-a):=rfl
def yc(be:Bool):List Nat:=br be [0,10] [10,0]
def ug(be:Bool):List Nat:=br be [0,0,0,10] [10,0,0,0]
def mB(be:Bool):Nh be [10]=yc be:=by induction be<;>rfl
def qU(be:Bool):Ai be [10]=ug be:=by induction be<;>rfl
def xV(be:Bool)(t:List Nat):Vc be (br be 0 10) (br be 10 0::t)=(some 10,1):=by induction be<;>rfl
def yV(be:Bool)(t:List Nat):se be (br be 0 10) (0::0::br be 10 0::t)=(some 10,3):=by induction be<;>rfl
def res:Except Er (List FV×a)->Except Er (List FV)| .ok (l,x)=> .ok l| .error e=> .error e
def Ic(a:Except Er (List FV))(n v:Int)(b:Except Er (List FV)):Except Er (List FV):=match a with| .error e=> .error e| .ok c=>match b with| .error e=> .error (n+e)| .ok d=> .ok (c++ .int v::d)
def Si{step:kc Nat g}(s0:g)(c:List Nat)(v:Int)(ok:List Nat->Prop)(W:Wf step)(H:∀t s o r,ok (o::r)->step s o (r++(c++t))=step s o r)(D:∀s o r d k s',ok (o::r)->step s o r= .ok (d,k,s')->ok (r.drop k)) (S:∀s i t,sc step i s (c++t)=pre [.int v] (sc step (i+c.length) s0 t)) (a b:List Nat) (f:ok a):
  res (sc step 0 s0 (a++(c++b)))=Ic (res (sc step 0 s0 a)) ((a.length:Int)+c.length) v (res (sc step 0 s0 b)):=by
 rw [lB W ok (H b) D a.length 0 s0 a f (Nat.le_refl _)];induction sc step 0 s0 a with|error e=>rfl|ok x=>obtain ⟨h,s'⟩:=x;simp only [join];rw [S,show (0:Int)+(a.length:Int)+(c.length:Int)=((a.length:Int)+c.length)+0 by lia,Av _ b.length 0 s0 b (Nat.le_refl _)];induction sc step 0 s0 b with|error e=>rfl|ok y=>obtain ⟨j,s2⟩:=y;rfl
def Mk{step:kc Nat a}(h:∀s t,step s g t= .ok ([.int v],0,s0))(s:a)(i:Int)(t:List Nat):sc step i s ([g]++t)=pre [.int v] (sc step (i+ [g].length) s0 t):=by rw [cons_append,nil_append,Ud (h s t),drop_zero];congr 2;simp
noncomputable def all(_:List Nat):Prop:=True
def D8(l:List Nat):=res (sc Ce 0 () l)
def DC(l:List Nat):=res (sc Kf 0 () l)
def DM(l:List Nat):=res (sc Lf 0 () l)
def DW(l:List Nat):=res (sc Mf 0 () l)
def D7(l:List Nat):=res (sc cf 0 () l)
def DB(l:List Nat):=res (sc Jh 0 false l)
def JD(be:Bool)(l:List Nat):=res (sc (strict (Vc be)) 0 () l)
def KD(be:Bool)(l:List Nat):=res (sc (strict (se be)) 0 () l)
def R8(l:List Nat):=res (sc Wc 0 () l)
def R7(l:List Nat):=res (sc Pf 0 () l)
def xe(be:Bool)(l:List Nat):=res (sc (Ub (Vc be)) 0 () l)
def pn(be:Bool)(l:List Nat):=res (sc (Ub (se be)) 0 () l)
section
variable (a b:List Nat) (be:Bool)
def SV:D8 (a++([10]++b))=Ic (D8 a) ((a.length:Int)+1) 10 (D8 b):=Si () [10] 10 all US (λt s o r y=>KN (x:=10) rfl t s o r) (λy y y y y y y y=>trivial) (Mk λy t=>at8 t) a b trivial
def Vab:DC (a++([10]++b))=Ic (DC a) ((a.length:Int)+1) 10 (DC b):=Si () [10] 10 all zR (λt s o r x=>pL t s o r) (λx x x x x x x x=>trivial) (Mk λx t=>Iab t) a b trivial
def Wab:DM (a++([10]++b))=Ic (DM a) ((a.length:Int)+1) 10 (DM b):=Si () [10] 10 all AR (λt s o r x=>qL t s o r) (λx x x x x x x x=>trivial) (Mk λx t=>Jab t) a b trivial
def Xab:DW (a++([10]++b))=Ic (DW a) ((a.length:Int)+1) 10 (DW b):=Si () [10] 10 all BR (λt s o r x=>rL t s o r) (λx x x x x x x x=>trivial) (Mk λx t=>Mab t) a b trivial
def Sab:D7 (a++([10]++b))=Ic (D7 a) ((a.length:Int)+1) 10 (D7 b):=Si () [10] 10 all DL (λt s o r x=>UH t s o r) (λx x x x x x x x=>trivial) (Mk λx t=>at7 t) a b trivial
def Uab:DB (a++([47]++b))=Ic (DB a) ((a.length:Int)+1) 47 (DB b):=Si false [47] 47 all E4 (λt s o r x=>MN t s o r) (λx x x x x x x x=>trivial) (Mk λs t=>atB s t) a b trivial
def V4:R8 (a++([10]++b))=Ic (R8 a) ((a.length:Int)+1) 10 (R8 b):=Si () [10] 10 all rH (λt s o r y=>dz (x:=10) rfl t s o r) (λy y y y y y y y=>trivial) (Mk λy t=>Lab t) a b trivial
def U4:R7 (a++([10]++b))=Ic (R7 a) ((a.length:Int)+1) 10 (R7 b):=Si () [10] 10 all CL (λt s o r x=>FH t s o r) (λx x x x x x x x=>trivial) (Mk λx t=>Kab t) a b trivial
def S16(step:kc Nat Unit)(h:∀s t,step s (br be 0 10) (br be 10 0::t)= .ok ([.int 10],1,()))(s:Unit)(i:Int)(t:List Nat):sc step i s (yc be++t)=pre [.int 10] (sc step (i+(yc be).length) () t):=by rw [show yc be++t=br be 0 10::br be 10 0::t by induction be<;>rfl,show ((yc be).length:Int)=2 by induction be<;>rfl,Ud (h s t)];congr 2;simp;lia
def S32(step:kc Nat Unit)(h:∀s t,step s (br be 0 10) (0::0::br be 10 0::t)= .ok ([.int 10],3,()))(s:Unit)(i:Int)(t:List Nat):sc step i s (ug be++t)=pre [.int 10] (sc step (i+(ug be).length) () t):=by rw [show ug be++t=br be 0 10::0::0::br be 10 0::t by induction be<;>rfl,show ((ug be).length:Int)=4 by induction be<;>rfl,Ud (h s t)];congr 2;simp;lia
def RI(t:List Nat):YN be (yc be++t):=by induction be<;>rfl
def P4(c:xc a):JD be (a++(yc be++b))=Ic (JD be a) ((a.length:Int)+(yc be).length) 10 (JD be b):=Si () (yc be) 10 xc (ph (zf be)) (λt s o r h=>gz (Ct (RI be t) o r h)) (λx x x x x x d h=>kH h▸sj d) (S16 be _ λs t=>by unfold strict;rw [xV]) a b c
def Q4(c:dg a):KD be (a++(ug be++b))=Ic (KD be a) ((a.length:Int)+(ug be).length) 10 (KD be b):=Si () (ug be) 10 dg (ph (Wg be)) (λt s o r h=>gz (Dt be _ o r h)) (λx x x x x x d h=>kH h▸lq d) (S32 be _ λs t=>by unfold strict;rw [yV]) a b c
def TV(c:xc a):xe be (a++(yc be++b))=Ic (xe be a) ((a.length:Int)+(yc be).length) 10 (xe be b):=Si () (yc be) 10 xc (Ee (zf be)) (λt s o r h=>rj (Ct (RI be t) o r h)) (λx x x x x x d h=>dp h▸sj d) (S16 be _ λs t=>by unfold Ub;rw [xV];rfl) a b c
def VV(c:dg a):pn be (a++(ug be++b))=Ic (pn be a) ((a.length:Int)+(ug be).length) 10 (pn be b):=Si () (ug be) 10 dg (Ee (Wg be)) (λt s o r h=>rj (Dt be _ o r h)) (λx x x x x x d h=>dp h▸lq d) (S32 be _ λs t=>by unfold Ub;rw [yV];rfl) a b c
def R4:Qe (a++([10]++b))=Ic (Qe a) ((a.length:Int)+1) 10 (Qe b):=by
 unfold Qe;rw [VG yR (λs o r=>bz _ s o r) a.length 0 (64,none) a (Nat.le_refl _)];induction sc Wb 0 (64,none) a with
 |error e=>rfl|ok x=>
  obtain ⟨h,p,f⟩:=x;simp only [join];induction f with
  |some g=>obtain ⟨l,d,c⟩:=g;rw [cons_append,fg (HR p l d c _)];simp only [pre,Yh,Ic];refine congrArg Except.error (?_:(_:Int)=_);show (_:Int)=_;lia
  |none=>rw [cons_append,nil_append,Ud (zV p b),drop_zero,show (0:Int)+(a.length:Int)+((0:Nat):Int)+1=((a.length:Int)+1)+0 by lia,Av _ b.length 0 _ b (Nat.le_refl _)];simp only [Yh];induction sc Wb 0 (64,none) b with|error e=>rfl|ok y=>obtain ⟨i,s2⟩:=y;simp only [sh,pre,Yh];induction s2.2 with|none=>rfl|some g=>obtain ⟨l,d,c⟩:=g;simp only [Ic];refine congrArg Except.error (?_:(_:Int)=_);rw [length_append,length_cons];show (_:Int)=_;lia
end
def kh{st:ia}(h:Out r x st):Ge r (res x) st:=by
 induction x with
 |error e=>obtain ⟨w,h⟩:=h;exact ⟨w,[],by rw [append_nil];exact h⟩
 |ok y=>obtain ⟨l,s⟩:=y;exact ⟨[],by rw [append_nil];exact h⟩
def DD(be:Bool)(l:List Nat):Nat->Except Er (List FV)|0=>D8 l|1=>DC l|2=>DM l|3=>DW l|4=>D7 l|5=>Qe l|6=>DB l|7=>JD be l|x=>KD be l
section
variable (n:Nat) (st:ia) (l:List Nat) (hl:l.length<=lim) (hB:Rb l) (q:Str) (be:Bool) (hq:(q==c0)=be)
include hl hB hq
theorem FZ:Ge ((ja (n+8)).call 53 [.v (.bytes l),.v (.int 0),.v (.str q)] st) (D8 l) st:=by
 have h:Ge _ (D8 l) st:=kh (LU (n+4) st l hl);induction x:D8 l with
 |error e=>rw [x] at h;obtain ⟨w,ex,h⟩:=h;refine ⟨w,ex,?_⟩;exact xa [.R 3 h]
 |ok y=>rw [x] at h;obtain ⟨ex,h⟩:=h;refine ⟨ex,?_⟩;exact xa [.R 3 h]
theorem GZ:Ge ((ja (n+8)).call 53 [.v (.bytes l),.v (.int 1),.v (.str q)] st) (DC l) st:=by
 have h:Ge _ (DC l) st:=kh (TQ (n+2) st l hl);induction x:DC l with
 |error e=>rw [x] at h;obtain ⟨w,ex,h⟩:=h;refine ⟨w,ex,?_⟩;exact xa [.R 6 h]
 |ok y=>rw [x] at h;obtain ⟨ex,h⟩:=h;refine ⟨ex,?_⟩;exact xa [.R 6 h]
theorem HZ:Ge ((ja (n+8)).call 53 [.v (.bytes l),.v (.int 2),.v (.str q)] st) (DM l) st:=by
 have h:Ge _ (DM l) st:=kh (QU (n+2) st l hl);induction x:DM l with
 |error e=>rw [x] at h;obtain ⟨w,ex,h⟩:=h;refine ⟨w,ex,?_⟩;exact xa [.R 9 h]
 |ok y=>rw [x] at h;obtain ⟨ex,h⟩:=h;refine ⟨ex,?_⟩;exact xa [.R 9 h]
theorem IZ:Ge ((ja (n+8)).call 53 [.v (.bytes l),.v (.int 3),.v (.str q)] st) (DW l) st:=by
 have h:Ge _ (DW l) st:=kh (VU (n+2) st l hl);induction x:DW l with
 |error e=>rw [x] at h;obtain ⟨w,ex,h⟩:=h;refine ⟨w,ex,?_⟩;exact xa [.R 12 h]
 |ok y=>rw [x] at h;obtain ⟨ex,h⟩:=h;refine ⟨ex,?_⟩;exact xa [.R 12 h]
theorem JZ:Ge ((ja (n+8)).call 53 [.v (.bytes l),.v (.int 4),.v (.str q)] st) (D7 l) st:=by
 have h:Ge _ (D7 l) st:=kh (KU (n+2) st l hl hB);induction x:D7 l with
 |error e=>rw [x] at h;obtain ⟨w,ex,h⟩:=h;refine ⟨w,ex,?_⟩;exact xa [.R 15 h]
 |ok y=>rw [x] at h;obtain ⟨ex,h⟩:=h;refine ⟨ex,?_⟩;exact xa [.R 15 h]
theorem KZ:Ge ((ja (n+8)).call 53 [.v (.bytes l),.v (.int 5),.v (.str q)] st) (Qe l) st:=by
 have h:Ge _ (Qe l) st:=JU n st l hl hB;induction x:Qe l with
 |error e=>rw [x] at h;obtain ⟨w,ex,h⟩:=h;refine ⟨w,ex,?_⟩;exact xa [.R 18 h]
 |ok y=>rw [x] at h;obtain ⟨ex,h⟩:=h;refine ⟨ex,?_⟩;exact xa [.R 18 h]
theorem LZ:Ge ((ja (n+8)).call 53 [.v (.bytes l),.v (.int 6),.v (.str q)] st) (DB l) st:=by
 have h:Ge _ (DB l) st:=kh (PU (n+2) st l hl hB);induction x:DB l with
 |error e=>rw [x] at h;obtain ⟨w,ex,h⟩:=h;refine ⟨w,ex,?_⟩;exact xa [.R 21 h]
 |ok y=>rw [x] at h;obtain ⟨ex,h⟩:=h;refine ⟨ex,?_⟩;exact xa [.R 21 h]
theorem MZ:Ge ((ja (n+8)).call 53 [.v (.bytes l),.v (.int 7),.v (.str q)] st) (JD be l) st:=by
 have h:Ge _ (JD be l) st:=kh (UQ (n+4) st l hl hB q be hq);induction x:JD be l with
 |error e=>rw [x] at h;obtain ⟨w,ex,h⟩:=h;refine ⟨w,ex,?_⟩;exact xa [.R 24 h]
 |ok y=>rw [x] at h;obtain ⟨ex,h⟩:=h;refine ⟨ex,?_⟩;exact xa [.R 24 h]
theorem NZ:Ge ((ja (n+8)).call 53 [.v (.bytes l),.v (.int 8),.v (.str q)] st) (KD be l) st:=by
 have h:Ge _ (KD be l) st:=kh (VQ (n+3) st l hl hB q be hq);induction x:KD be l with
 |error e=>rw [x] at h;obtain ⟨w,ex,h⟩:=h;refine ⟨w,ex,?_⟩;exact xa [.R 24 h]
 |ok y=>rw [x] at h;obtain ⟨ex,h⟩:=h;refine ⟨ex,?_⟩;exact xa [.R 24 h]
theorem S5(w:Nat)(a:w<9):Ge ((ja (n+8)).call 53 [.v (.bytes l),.v (.int w),.v (.str q)] st) (DD be l w) st:=by match w,a with|0,x=>exact FZ n st l hl hB q be hq|1,x=>exact GZ n st l hl hB q be hq|2,x=>exact HZ n st l hl hB q be hq|3,x=>exact IZ n st l hl hB q be hq|4,x=>exact JZ n st l hl hB q be hq|5,x=>exact KZ n st l hl hB q be hq|6,x=>exact LZ n st l hl hB q be hq|7,x=>exact MZ n st l hl hB q be hq|8,x=>exact NZ n st l hl hB q be hq
end
def te:Except Er (List FV)->FV| .ok l=> .tup [.lst l,.none]| .error e=> .tup [.lst [],.int e]
def GO(sl:List Slot)(r:Res AV):Bb:=match r with|some (.ok x,st)=>some (.ret x,sl,st)|some (.error (.tup [t,a]),st)=>some (.ret (.v (.tup [.lst [],t])),sl,st)|a=>none
def Cz{O:wb}{N i:Nat}{e:E}{sl:List Slot}{st:ia}:ua O N (.tryr i e) sl st=GO sl (pa O e sl st):=rfl
def lA{x:AV}{sl:List Slot}{st:ia}:GO sl (some (.ok x,st))=some (.ret x,sl,st):=rfl
def kA{t w:FV}{sl:List Slot}{st:ia}:GO sl (some (.error (.tup [t,w]),st))=some (.ret (.v (.tup [.lst [],t])),sl,st):=rfl
def Cg(n:Nat)(st:ia)(l:List Nat)(b:l.length<=lim)(a:Rb l)(q:Str)(be:Bool)(c:(q==c0)=be)(w:Nat)(d:w<9):∃ex,(ja (n+9)).call 54 [.v (.bytes l),.v (.int w),.v (.str q)] st=some (.ok (.v (te (DD be l w))),st++ex):=by
 have h:=S5 n st l b a q be c w d;have t1:= @Cz;have t2:= @lA;have t3:= @kA;generalize DD be l w=x at h|-;induction x with
 |error e=>obtain ⟨w,ex,h⟩:=h;refine ⟨ex,?_⟩;unfold te;exact xa [.R 0 h]
 |ok y=>obtain ⟨ex,h⟩:=h;refine ⟨ex,?_⟩;unfold te;exact xa [.R 0 h]
def RL:Except Er (List FV)->List FV| .ok l=>l| .error x=> []
def RR(be:Bool)(l:List Nat):Nat->Except Er (List FV)|0=>R8 l|4=>R7 l|7=>xe be l|x=>pn be l
def pg{step:kc Nat c}{st:ia}(h:Out r (sc step 0 s l) st)(H:∀s o r d,step s o r≠ .error d):r=some (.ok (.v (.lst (RL (res (sc step 0 s l))))),st):=by induction q:sc step 0 s l with|error e=>exact absurd q (Cf H l.length 0 s l (Nat.le_refl _) e)|ok x=>obtain ⟨a,b⟩:=x;rw [q] at h;exact h
def ff:∀s o r d,Wc s o r≠ .error d:=λx x x x h=>nomatch h
def SN:∀s o r d,Pf s o r≠ .error d:=λx x x x h=>nomatch h
def Hc:∀s o r d,Ub raw s o r≠ .error d:=λx x x x h=>nomatch h
def iq{step:kc Nat c}(H:∀s o r d,step s o r≠ .error d):res (sc step 0 s l)= .ok (RL (res (sc step 0 s l))):=by induction q:sc step 0 s l with|error e=>exact absurd q (Cf H l.length 0 s l (Nat.le_refl _) e)|ok x=>obtain ⟨a,b⟩:=x;rfl
section
variable (n:Nat) (st:ia) (l:List Nat) (hl:l.length<=lim) (hB:Rb l) (q:Str) (be:Bool) (hq:(q==c0)=be)
include hl hB hq
theorem dR:(ja (n+6)).call 55 [.v (.bytes l),.v (.int 0),.v (.str q)] st=some (.ok (.v (.lst (RL (RR be l 0)))),st):=by have h:=pg (YI (n+2) st l hl) ff;unfold RR;exact xa [.R 3 h]
theorem fR:(ja (n+6)).call 55 [.v (.bytes l),.v (.int 4),.v (.str q)] st=some (.ok (.v (.lst (RL (RR be l 4)))),st):=by have h:=pg (UU n st l hl hB) SN;unfold RR;exact xa [.R 6 h]
theorem gR:(ja (n+6)).call 55 [.v (.bytes l),.v (.int 7),.v (.str q)] st=some (.ok (.v (.lst (RL (RR be l 7)))),st):=by have h:=pg (dH (n+2) st l hl hB q be hq) Hc;unfold RR;exact xa [.R 9 h]
theorem jR:(ja (n+6)).call 55 [.v (.bytes l),.v (.int 8),.v (.str q)] st=some (.ok (.v (.lst (RL (RR be l 8)))),st):=by have h:=pg (eH (n+1) st l hl hB q be hq) Hc;unfold RR;exact xa [.R 9 h]
end
def sf(h:a.length+b.length<=big):Ia .Add (.bytes a) (.bytes b)=some (.bytes (a++b)):=oG h
def PC(n:Nat)(st:ia)(a b s:List Nat)(h:a.length+s.length+b.length<=lim):(ja (n+1)).call 57 [.v (.lst [.bytes a,.bytes b]),.v (.bytes s)] st=some (.ok (.v (.bytes (a++s++b))),st):=by have h:a.length+s.length+b.length<=big:=Nat.le_trans h (by decide);have d:jc (.lst [.bytes a,.bytes b]) 0=some (.bytes a):=rfl;have e:Va (.lst [.bytes a,.bytes b]) (some 1) none=some (.lst [.bytes b]):=rfl;have f:pb (.lst [.bytes b])=some [.bytes b]:=rfl;have c:=sf (a:=a) (b:=s) (by lia);have a2:=sf (a:=a++s) (b:=b) (by rw [length_append];lia);exact Qh [.F 0 d,.F 0 e,.L 0 f,.F 0 c,.F 0 a2]
def QC(n:Nat)(st:ia)(a b c s:List Nat)(h:a.length+s.length+b.length+s.length+c.length<=lim):(ja (n+1)).call 57 [.v (.lst [.bytes a,.bytes b,.bytes c]),.v (.bytes s)] st=some (.ok (.v (.bytes (a++s++b++s++c))),st):=by have h:a.length+s.length+b.length+s.length+c.length<=big:=Nat.le_trans h (by decide);have g:jc (.lst [.bytes a,.bytes b,.bytes c]) 0=some (.bytes a):=rfl;have i:Va (.lst [.bytes a,.bytes b,.bytes c]) (some 1) none=some (.lst [.bytes b,.bytes c]):=rfl;have j:pb (.lst [.bytes b,.bytes c])=some [.bytes b,.bytes c]:=rfl;have d:=sf (a:=a) (b:=s) (by lia);have a2:=sf (a:=a++s) (b:=b) (by rw [length_append];lia);have e:=sf (a:=a++s++b) (b:=s) (by rw [length_append,length_append];lia);have f:=sf (a:=a++s++b++s) (b:=c) (by rw [length_append,length_append,length_append];lia);simp only [append_assoc] at d a2 e f|-;exact Qh [.F 0 g,.F 0 i,.L 0 j,.F 0 d,.F 0 a2,.F 0 e,.F 0 f]
noncomputable def cg(x:FV):Prop:=x= .none\/∃k,x= .int k
theorem ED:∀(F:List FV),(∀x∈F,cg x)->∃xs,FV.pys F=some xs/\canLayAll0 xs=true/\depthAll xs=0
 | [],a=>⟨[],rfl,rfl,rfl⟩|x::F,h=>by
  obtain ⟨xs,b,c,d⟩:=ED F λy e=>h y (.tail _ e);rcases h x (.head _) with rfl|⟨k,rfl⟩;·exact ⟨.none::xs,by simp only [FV.pys,FV.py,b],by simp only [canLayAll0,canLay0,c,Bool.and_self],by simp only [depthAll,PyData.depth,d];rfl⟩
  ·exact ⟨.int k::xs,by simp only [FV.pys,FV.py,b],by simp only [canLayAll0,canLay0,c,Bool.and_self],by simp only [depthAll,PyData.depth,d];rfl⟩
def Ru(a:d.canLay0=true)(b:d.depth<=64):shaped d=true:=by unfold shaped;rw [a,decide_eq_true b];rfl
def xn(h:∀x∈F,cg x):yb .Eq (.lst F) (.lst F)=some true:=by
 obtain ⟨xs,d,c,e⟩:=ED F h;have b:FV.py (.lst F)=some (.list xs):=by simp only [FV.py,d]
 have s1:shaped (.list xs)=true:=Ru (by simp only [canLay0,c]) (by simp only [PyData.depth,e];decide);refine (cy (λa=>rfl) b b s1 s1).trans ?_;rw [eqv_refl _ (by simp only [canLay0,c])]
def iv(h:∀x∈F,cg x):yb .Eq (.tup [.lst F,.none]) (.tup [.lst F,.none])=some true:=by
 obtain ⟨xs,c,d,e⟩:=ED F h;have b:FV.py (.tup [.lst F,.none])=some (.tuple [.list xs,.none]):=by simp only [FV.py,FV.pys,c]
 have c1:(tuple [.list xs,.none]).canLay0=true:=by simp only [canLay0,canLayAll0,d,Bool.and_self]
 have s1:shaped (.tuple [.list xs,.none])=true:=Ru c1 (by simp only [PyData.depth,depthAll,e];decide);refine (cy (λa=>rfl) b b s1 s1).trans ?_;rw [eqv_refl _ c1]
def Vo(e:Int):yb .Eq (.tup [.lst [],.int e]) (.tup [.lst [],.int e])=some true:=by have a:FV.py (.tup [.lst [],.int e])=some (.tuple [.list [],.int e]):=rfl;have c1:(tuple [.list [],.int e]).canLay0=true:=rfl;have s1:shaped (.tuple [.list [],.int e])=true:=rfl;refine (cy (λx=>rfl) a a s1 s1).trans ?_;rw [eqv_refl _ c1]
def zh(x:Except Er (List FV)):Prop:=match x with| .ok l=>(∀y∈l,cg y)/\l.length<=2*lim| .error a=>True
def wd(w:Nat):Int:=br ((w:Int)==6) 47 10
def lL(n:Nat)(st:ia)(a b s:List Nat)(w:Nat)(H:w<9)(q:Str)(be:Bool)(G:(q==c0)=be)(V:a.length+s.length+b.length<=lim)(P:Rb a)(hs:Rb s)(hb:Rb b)(C:DD be (a++s++b) w=Ic (DD be a w) ((a.length:Int)+s.length) (wd w) (DD be b w)) (ga:zh (DD be a w)) (D:zh (DD be b w)):
  ∃ex,(ja (n+10)).call 58 [.v (.lst [.bytes a,.bytes b]),.v (.bytes s),.v (.int w),.v (.str q)] st=some (.ok (.v (.bool true)),st++ex):=by
 have hW:Rb (a++s++b):=λx c=>by
  rcases mem_append.mp c with c|c
  ·rcases mem_append.mp c with c|c;·exact P x c
   ·exact hs x c
  ·exact hb x c
 have T:=λst'=>Cg n st' (a++s++b) (by rw [length_append,length_append];exact V) hW q be G w H;have B:=λst'=>PC (n+8) st' a b s V;obtain ⟨f,g⟩:=Cg n st a (by lia) P q be G w H;obtain ⟨m,j⟩:=Cg n (st++f) b (by lia) hb q be G w H;obtain ⟨y1,o⟩:=T (st++f);obtain ⟨y2,d⟩:=T (st++f++m);have v:Dz (.lst [.bytes a,.bytes b])=some [.tup [.int 0,.bytes a],.tup [.int 1,.bytes b]]:=rfl;have O:=Oc (l:=a) (Nat.le_trans (by lia) (show lim<=big by decide));have W:=Oc (l:=b) (Nat.le_trans (by lia) (show lim<=big by decide));have u:=Oc (l:=s) (Nat.le_trans (by lia) (show lim<=big by decide));have ni:∀k:Int,isNone (.int k)=false:=λy=>rfl;have kn:Am (some (.ok [],st++f))=some (.ok (.v (.lst [])),st++f):=rfl;have kn0:∀st',Am (some (.ok [],st'))=some (.ok (.v (.lst [])),st'):=λy=>rfl;rw [<-Int.zero_add ((a.length:Nat):Int)] at C;rw [C] at o d;induction X:DD be a w with
 |error e=>rw [X] at g o;simp only [Ic,te] at g o;have h:=Vo (0+e);rw [<-Int.zero_add e] at o;refine ⟨f++y1,?_⟩;rw [<-append_assoc];exact Qh [.L 1 v,.R 0 g,.R 3 (B (st++f)),.R 0 o,.O 3 h]|ok i=>
  rw [X] at g d ga;have L:Ia .Add (.lst []) (.lst [])=some (.lst []):=rfl;have M:Ia .Add (.lst []) (.lst i)=some (.lst i):=xo (by have:=ga.2;unfold lim at this;unfold big;simp;lia);have r:Ia .Add (.lst i) (.lst [.int (wd w)])=some (.lst (i++ [.int (wd w)])):=xo (by have:=ga.2;unfold lim at this;unfold big;simp;lia);induction qb:DD be b w with
  |error e=>rw [qb] at j d;simp only [Ic,te] at g j d;have h:=Vo (0+(a.length:Int)+s.length+e);have z:(0:Int)+(a.length:Int)=a.length:=Int.zero_add _;refine ⟨f++m++y2,?_⟩;rw [<-append_assoc,<-append_assoc];exact Qh [.L 1 v,.R 0 g,.F 7 L,.F 0 M,.F 0 O,.F 1 u,.R 1 j,.R 3 (B (st++f++m)),.R 0 d,.O 3 h]|ok p=>
   rw [qb] at j d D;simp only [Ic,te] at g j d;have t:Ia .Add (.lst (i++ [.int (wd w)])) (.lst p)=some (.lst (i++ .int (wd w)::p)):=by rw [show i++FV.int (wd w)::p=i++ [.int (wd w)]++p by simp];exact xo (by have:=ga.2;have:=D.2;unfold lim at*;unfold big;simp;lia)
   have h:=iv (F:=i++ .int (wd w)::p) (λx c=>by
    rcases mem_append.mp c with c|c;·exact ga.1 x c
    ·rcases mem_cons.mp c with rfl|c;·exact .inr ⟨_,rfl⟩
     ·exact D.1 x c)
   have z:(0:Int)+(a.length:Int)=a.length:=Int.zero_add _;refine ⟨f++m++y2,?_⟩;rw [<-append_assoc,<-append_assoc];unfold wd at r t h d;induction A:((w:Int)==6) with|true=>rw [A] at r t h d;exact Qh [.L 1 v,.R 0 g,.F 7 L,.F 0 M,.F 0 O,.F 1 u,.R 1 j,.B 8 A,.F 1 r,.F 0 t,.F 0 W,.F 1 u,.R 1 (B (st++f++m)),.R 0 d,.O 1 h]|false=>rw [A] at r t h d;exact Qh [.L 1 v,.R 0 g,.F 7 L,.F 0 M,.F 0 O,.F 1 u,.R 1 j,.B 8 A,.F 2 r,.F 0 t,.F 0 W,.F 1 u,.R 1 (B (st++f++m)),.R 0 d,.O 1 h]
def Nc(c:Rb a)(hb:Rb b):Rb (a++b):=λx d=>(mem_append.mp d).elim (c x) (hb x)
def zd(h:a.length+b.length<=big):Ia .Add (.lst a) (.lst b)=some (.lst (a++b)):=xo h
def Bj(d:∀x∈b,cg x)(hb:∀x∈c,cg x):∀x∈b++ .int v::c,cg x:=λx a=>by
 rcases mem_append.mp a with a|a;·exact d x a
 ·rcases mem_cons.mp a with rfl|a;·exact .inr ⟨_,rfl⟩
  ·exact hb x a
def mL(n:Nat)(st:ia)(a b c s:List Nat)(w:Nat)(hw:w<9)(q:Str)(be:Bool)(X:(q==c0)=be)(hl:a.length+s.length+b.length+s.length+c.length<=lim)(ha:Rb a)(hs:Rb s)(hb:Rb b)(hc:Rb c)(C:DD be (a++s++b++s++c) w=Ic (DD be a w) ((a.length:Int)+s.length) (wd w) (Ic (DD be b w) ((b.length:Int)+s.length) (wd w) (DD be c w))) (ga:zh (DD be a w)) (O:zh (DD be b w)) (gc:zh (DD be c w)):
  ∃ex,(ja (n+10)).call 58 [.v (.lst [.bytes a,.bytes b,.bytes c]),.v (.bytes s),.v (.int w),.v (.str q)] st=some (.ok (.v (.bool true)),st++ex):=by
 have hW:Rb (a++s++b++s++c):=Nc (Nc (Nc (Nc ha hs) hb) hs) hc;have T:=λst'=>Cg n st' (a++s++b++s++c) (by rw [length_append,length_append,length_append,length_append];exact hl) hW q be X w hw;have G:=λst'=>QC (n+8) st' a b c s hl;obtain ⟨g,h⟩:=Cg n st a (by lia) ha q be X w hw;obtain ⟨p,r⟩:=Cg n (st++g) b (by lia) hb q be X w hw;obtain ⟨A,y⟩:=Cg n (st++g++p) c (by lia) hc q be X w hw;obtain ⟨y1,H⟩:=T (st++g);obtain ⟨y2,L⟩:=T (st++g++p);obtain ⟨y3,f⟩:=T (st++g++p++A);have B:Dz (.lst [.bytes a,.bytes b,.bytes c])=some [.tup [.int 0,.bytes a],.tup [.int 1,.bytes b],.tup [.int 2,.bytes c]]:=rfl;have W:=Oc (l:=a) (Nat.le_trans (by lia) (show lim<=big by decide));have lb:=Oc (l:=b) (Nat.le_trans (by lia) (show lim<=big by decide));have lc:=Oc (l:=c) (Nat.le_trans (by lia) (show lim<=big by decide));have o:=Oc (l:=s) (Nat.le_trans (by lia) (show lim<=big by decide));have ni:∀k:Int,isNone (.int k)=false:=λx=>rfl;have kn0:∀st',Am (some (.ok [],st'))=some (.ok (.v (.lst [])),st'):=λx=>rfl;have z:(0:Int)+(a.length:Int)=a.length:=Int.zero_add _;rw [<-Int.zero_add ((a.length:Nat):Int)] at C;rw [C] at H L f;induction qa:DD be a w with
 |error e=>rw [qa] at h H;simp only [Ic,te] at h H;have i:=Vo (0+e);rw [<-Int.zero_add e] at H;refine ⟨g++y1,?_⟩;rw [<-append_assoc];exact Qh [.L 1 B,.R 0 h,.R 3 (G (st++g)),.R 0 H,.O 3 i]|ok d=>
  rw [qa] at h L f ga;have P:Ia .Add (.lst []) (.lst [])=some (.lst []):=rfl;have V:Ia .Add (.lst []) (.lst d)=some (.lst d):=zd (a:= []) (b:=d) (by have:=ga.2;unfold lim at this;unfold big;simp;lia);have t:Ia .Add (.lst d) (.lst [.int (wd w)])=some (.lst (d++ [.int (wd w)])):=zd (by have:=ga.2;unfold lim at this;unfold big;simp;lia);induction qb:DD be b w with
  |error e=>rw [qb] at r L;simp only [Ic,te] at h r L;have i:=Vo (0+(a.length:Int)+s.length+e);refine ⟨g++p++y2,?_⟩;rw [<-append_assoc,<-append_assoc];exact Qh [.L 1 B,.R 0 h,.F 7 P,.F 0 V,.F 0 W,.F 1 o,.R 1 r,.R 3 (G (st++g++p)),.R 0 L,.O 3 i]|ok j=>
   rw [qb] at r f O;have u:Ia .Add (.lst (d++ [.int (wd w)])) (.lst j)=some (.lst (d++ .int (wd w)::j)):=by rw [show d++FV.int (wd w)::j=d++ [.int (wd w)]++j by simp];exact zd (by have:=ga.2;have:=O.2;unfold lim at*;unfold big;simp;lia)
   have v:Ia .Add (.lst (d++ .int (wd w)::j)) (.lst [.int (wd w)])=some (.lst (d++ .int (wd w)::j++ [.int (wd w)])):=zd (by have:=ga.2;have:=O.2;unfold lim at*;unfold big;simp;lia);induction qc:DD be c w with
   |error e=>rw [qc] at y f;simp only [Ic,te] at h r y f;rw [show 0+(a.length:Int)+s.length+((b.length:Int)+s.length+e)=0+(a.length:Int)+s.length+b.length+s.length+e by lia] at f;have i:=Vo (0+(a.length:Int)+s.length+b.length+s.length+e);refine ⟨g++p++A++y3,?_⟩;rw [<-append_assoc,<-append_assoc,<-append_assoc];unfold wd at t u v;induction m:((w:Int)==6) with|true=>rw [m] at t u v;exact Qh [.L 1 B,.R 0 h,.F 7 P,.F 0 V,.F 0 W,.F 1 o,.R 1 r,.B 8 m,.F 1 t,.F 0 u,.F 0 lb,.F 1 o,.R 1 y,.R 3 (G (st++g++p++A)),.R 0 f,.O 3 i]|false=>rw [m] at t u v;exact Qh [.L 1 B,.R 0 h,.F 7 P,.F 0 V,.F 0 W,.F 1 o,.R 1 r,.B 8 m,.F 2 t,.F 0 u,.F 0 lb,.F 1 o,.R 1 y,.R 3 (G (st++g++p++A)),.R 0 f,.O 3 i]
   |ok M=>
    rw [qc] at y f gc;simp only [Ic,te] at h r y f;have D:Ia .Add (.lst (d++ .int (wd w)::j++ [.int (wd w)])) (.lst M)=some (.lst (d++ .int (wd w)::(j++ .int (wd w)::M))):=by rw [show d++FV.int (wd w)::(j++FV.int (wd w)::M)=d++ .int (wd w)::j++ [.int (wd w)]++M by simp];exact zd (by have:=ga.2;have:=O.2;have:=gc.2;unfold lim at*;unfold big;simp;lia)
    have i:=iv (F:=d++ .int (wd w)::(j++ .int (wd w)::M)) (Bj ga.1 (Bj O.1 gc.1));refine ⟨g++p++A++y3,?_⟩;rw [<-append_assoc,<-append_assoc,<-append_assoc];simp only [append_assoc,cons_append,nil_append] at v D;unfold wd at t u v D i f;induction m:((w:Int)==6) with|true=>rw [m] at t u v D i f;exact Qh [.L 1 B,.R 0 h,.F 7 P,.F 0 V,.F 0 W,.F 1 o,.R 1 r,.B 8 m,.F 1 t,.F 0 u,.F 0 lb,.F 1 o,.R 1 y,.B 8 m,.F 1 v,.F 0 D,.F 0 lc,.F 1 o,.R 1 (G (st++g++p++A)),.R 0 f,.O 1 i]|false=>rw [m] at t u v D i f;exact Qh [.L 1 B,.R 0 h,.F 7 P,.F 0 V,.F 0 W,.F 1 o,.R 1 r,.B 8 m,.F 2 t,.F 0 u,.F 0 lb,.F 1 o,.R 1 y,.B 8 m,.F 2 v,.F 0 D,.F 0 lc,.F 1 o,.R 1 (G (st++g++p++A)),.R 0 f,.O 1 i]
def ti(l:List FV):Prop:=(∀y∈l,cg y)/\l.length<=2*lim
def iL(n:Nat)(st:ia)(a b s:List Nat)(w:Int)(q:Str)(c d:List FV)(m:a.length+s.length+b.length<=lim)(ga:ti c)(e:ti d)(g:∀st',(ja (n+6)).call 55 [.v (.bytes a),.v (.int w),.v (.str q)] st'=some (.ok (.v (.lst c)),st')) (h:∀st',(ja (n+6)).call 55 [.v (.bytes b),.v (.int w),.v (.str q)] st'=some (.ok (.v (.lst d)),st'))(f:∀st',(ja (n+6)).call 55 [.v (.bytes (a++s++b)),.v (.int w),.v (.str q)] st'=some (.ok (.v (.lst (c++ .int 10::d))),st')):(ja (n+7)).call 59 [.v (.lst [.bytes a,.bytes b]),.v (.bytes s),.v (.int w),.v (.str q)] st=some (.ok (.v (.bool true)),st):=by
 have r:=λst'=>PC (n+5) st' a b s m;have i:jc (.lst [.bytes a,.bytes b]) 0=some (.bytes a):=rfl;have j:Va (.lst [.bytes a,.bytes b]) (some 1) none=some (.lst [.bytes b]):=rfl;have k:pb (.lst [.bytes b])=some [.bytes b]:=rfl;have o:Ia .Add (.lst c) (.lst [.int 10])=some (.lst (c++ [.int 10])):=zd (by have:=ga.2;unfold lim at this;unfold big;simp;lia);have p:Ia .Add (.lst (c++ [.int 10])) (.lst d)=some (.lst (c++ .int 10::d)):=by rw [show c++FV.int 10::d=c++ [.int 10]++d by simp];exact zd (by have:=ga.2;have:=e.2;unfold lim at*;unfold big;simp;lia)
 have l:=xn (F:=c++ .int 10::d) (Bj ga.1 e.1);exact Qh [.F 0 i,.R 0 (g st),.F 0 j,.L 0 k,.F 2 o,.R 0 (h st),.F 0 p,.R 0 (r st),.R 0 (f st),.O 0 l]
def jL(n:Nat)(st:ia)(a b c s:List Nat)(w:Int)(q:Str)(d e f:List FV)(v:a.length+s.length+b.length+s.length+c.length<=lim)(ga:ti d)(g:ti e)(h:ti f)(l:∀st',(ja (n+6)).call 55 [.v (.bytes a),.v (.int w),.v (.str q)] st'=some (.ok (.v (.lst d)),st')) (m:∀st',(ja (n+6)).call 55 [.v (.bytes b),.v (.int w),.v (.str q)] st'=some (.ok (.v (.lst e)),st')) (o:∀st',(ja (n+6)).call 55 [.v (.bytes c),.v (.int w),.v (.str q)] st'=some (.ok (.v (.lst f)),st'))(k:∀st',(ja (n+6)).call 55 [.v (.bytes (a++s++b++s++c)),.v (.int w),.v (.str q)] st'=some (.ok (.v (.lst (d++ .int 10::(e++ .int 10::f)))),st')):(ja (n+7)).call 59 [.v (.lst [.bytes a,.bytes b,.bytes c]),.v (.bytes s),.v (.int w),.v (.str q)] st=some (.ok (.v (.bool true)),st):=by
 have z:=λst'=>QC (n+5) st' a b c s v;have p:jc (.lst [.bytes a,.bytes b,.bytes c]) 0=some (.bytes a):=rfl;have r:Va (.lst [.bytes a,.bytes b,.bytes c]) (some 1) none=some (.lst [.bytes b,.bytes c]):=rfl;have t:pb (.lst [.bytes b,.bytes c])=some [.bytes b,.bytes c]:=rfl;have x:Ia .Add (.lst d) (.lst [.int 10])=some (.lst (d++ [.int 10])):=zd (by have:=ga.2;unfold lim at this;unfold big;simp;lia);have y:Ia .Add (.lst (d++ [.int 10])) (.lst e)=some (.lst (d++ .int 10::e)):=by rw [show d++FV.int 10::e=d++ [.int 10]++e by simp];exact zd (by have:=ga.2;have:=g.2;unfold lim at*;unfold big;simp;lia)
 have i:Ia .Add (.lst (d++ .int 10::e)) (.lst [.int 10])=some (.lst (d++ .int 10::e++ [.int 10])):=zd (by have:=ga.2;have:=g.2;unfold lim at*;unfold big;simp;lia);have j:Ia .Add (.lst (d++ .int 10::e++ [.int 10])) (.lst f)=some (.lst (d++ .int 10::(e++ .int 10::f))):=by rw [show d++FV.int 10::(e++FV.int 10::f)=d++ .int 10::e++ [.int 10]++f by simp];exact zd (by have:=ga.2;have:=g.2;have:=h.2;unfold lim at*;unfold big;simp;lia)
 have u:=xn (F:=d++ .int 10::(e++ .int 10::f)) (Bj ga.1 (Bj g.1 h.1));simp only [append_assoc,cons_append,nil_append] at i j;exact Qh [.F 0 p,.R 0 (l st),.F 0 r,.L 0 t,.F 2 x,.R 0 (m st),.F 0 y,.F 2 i,.R 0 (o st),.F 0 j,.R 0 (z st),.R 0 (k st),.O 0 u]
def Qi(step:kc Nat b):Prop:=∀s o r a k s',step s o r= .ok (a,k,s')->∀x∈a,cg x
def ae{step:kc Nat c}(W:Wf step)(H:Qi step)(s:c)(l:List Nat)(d:l.length<=lim):zh (res (sc step 0 s l)):=by induction q:sc step 0 s l with|error e=>exact trivial|ok x=>obtain ⟨a,b⟩:=x;refine ⟨Oy H l.length 0 s l a b (Nat.le_refl _) q,?_⟩;have:=Py W l.length 0 s l a b (Nat.le_refl _) q;lia
def Mg:∀x∈ [FV.int k],cg x:=λx a=> .inr ⟨k,by simpa using a⟩
def H5:Qi Ce:=λs o r e k s' h=>by unfold Ce at h;generalize Xa o r=P at h;obtain ⟨m,c,w⟩:=P;induction c with|none=>injection h|some c=>(injection h with h;injection h with a h;injection h with b d;subst a b d);exact Mg
def J5:Qi Kf:=λs o r a k s' h=>by unfold Kf at h;generalize Sb o r=P at h;obtain ⟨m,c,w⟩:=P;induction c with|none=>injection h|some c=>dsimp only at h;generalize ((m:Int)==4)=u at h;generalize Ua c=v at h;generalize Ib c=z at h;generalize xf (r.drop 2)=L at h;induction u<;>induction v<;>induction z<;>induction L<;>cases h<;>exact Mg
def L5:Qi Mf:=λs o r a k s' h=>by unfold Mf at h;generalize Sb o r=P at h;obtain ⟨m,c,w⟩:=P;induction c with|none=>injection h|some c=>dsimp only at h;generalize Ua c=v at h;generalize xf (r.drop 2)=L at h;induction v<;>induction L<;>cases h<;>exact Mg
def K5:Qi Lf:=λs o r a k s' h=>by unfold Lf at h;generalize Ji o r=P at h;induction P with|none=>injection h|some P=>obtain ⟨m,c,w⟩:=P;induction c with|none=>injection h|some c=>dsimp only at h;generalize ((m:Int)==4)=u at h;generalize Ua c=v at h;generalize xf (r.drop 2)=L at h;induction u<;>induction v<;>induction L<;>cases h<;>exact Mg
def aY:Qi Wc:=λs o r d k s' h=>by (injection h with h;injection h with a h;injection h with b c;subst a b c);exact Mg
def WM:Qi (strict a):=λs o r f k s' h=>by unfold strict at h;generalize a o r=P at h;obtain ⟨c,m⟩:=P;induction c with|none=>injection h|some c=>(injection h with h;injection h with b h;injection h with d e;subst b d e);exact Mg
def VM:Qi (Ub raw):=λs o r d k s' h=>by (injection h with h;injection h with a h;injection h with b c;subst a b c);exact Mg
def YX:Qi Wb:=λs o r a k s' h=>by
 obtain ⟨_,h|⟨x,h⟩⟩:=Vm h;·subst h;intro x b;contradiction
 ·subst h;exact Mg
def iH(h:me a k u= .ok (d,j,k')):∀x∈d,isTup x=false->cg x:=by
 unfold me at h;generalize (Ua u||Ib u)=p at h;generalize (a&&(Ui u||u==38))=q at h;induction p<;>induction q<;>cases h<;>
 ·intro x b c;simp only [mem_cons,not_mem_nil,or_false] at b;first
   |(rcases b with rfl|rfl<;>first|exact .inl rfl|exact .inr ⟨_,rfl⟩|injection c)|(subst b;first|exact .inl rfl|exact .inr ⟨_,rfl⟩|injection c)
def WU(a:Bool):∀(k u:Int) (r:List Int) (b:List FV) (j:Nat) (k':Int),ud a k u r= .ok (b,j,k')->∀x∈b,isTup x=false->cg x:=λk u r b j k' h=>by induction r with|nil=>exact iH h|cons v r=>simp only [ud] at h;induction q:Ua u&&Ib v with|true=>rw [q] at h;(injection h with h;injection h with d h;injection h with e f;subst d e f);intro x c _;simp only [mem_cons,not_mem_nil,or_false] at c;exact .inr ⟨_,c⟩|false=>rw [q] at h;exact iH h
def AS(a:Bool)(s:List Nat):∀x∈Co a s,cg x:=by
 intro x b;unfold Co at b;rcases mem_append.mp b with b|b;·have b:=mem_filter.mp b;unfold dw at b;induction q:sc (ud a) 0 0 (ki a s).1 with|error e=>rw [q] at b;cases b.1|ok z=>obtain ⟨fd,k⟩:=z;rw [q] at b;exact Oy (P:=λx=>isTup x=false->cg x) (WU a) _ _ _ _ _ _ (Nat.le_refl _) q x b.1 (by simpa using b.2)
 ·induction h:ui a s with|true=>rw [h] at b;contradiction|false=>rw [h] at b;simp only [br,mem_cons,not_mem_nil,or_false] at b;exact .inl b
def dN(o:Nat)(r:List Nat):∀x∈(ie o r).1,cg x:=by
 unfold ie;have b:=AS false (r.take (cnt false r));generalize Co false (r.take (cnt false r))=C at b|-;induction ((o:Int)==43) with
 |false=>induction Xh o with|true=>exact Mg|false=>intro x a;exact .inl (by simpa [br] using a)
 |true=>induction cnt false r==0 with
  |true=>induction Lc r with|true=>exact Mg|false=>intro x a;exact .inl (by simpa [br] using a)
  |false=>exact b
def G5:Qi cf:=λs o r f k s' h=>by have b:=dN o r;unfold cf tL at h;generalize ie o r=P at h b;obtain ⟨C,F,m⟩:=P;induction F with|nil=>(injection h with h;injection h with c h;injection h with d e;subst c d e);exact b|cons x a=>injection h
def ZX:Qi Pf:=λs o r f k s' h=>by
 (injection h with h;injection h with a h;injection h with b c;subst a b c);intro x d;obtain ⟨y,e,rfl⟩:=mem_map.mp d;rcases dN o r y e with rfl|⟨k,rfl⟩;·exact .inr ⟨_,rfl⟩
 ·exact .inr ⟨_,rfl⟩
def I5:Qi Jh:=λs o r f k s' h=>by
 unfold Jh at h;induction q:(o:Int)==38 with
 |true=>rw [q] at h;simp only [br] at h;have a:=AS true (r.take (cnt true r));unfold Sj at h;generalize Co true (r.take (cnt true r))=C at h a;generalize Ki true (r.take (cnt true r))=X at h;generalize Lc (r.drop (cnt true r))=cl at h;generalize (cnt true r==0)=z at h;generalize cnt true r=e at h;unfold zD UJ at h;induction z<;>induction cl<;>induction s<;>induction X<;>cases h<;>first|exact Mg|exact a
 |false=>rw [q] at h;induction q2:Ui o with|true=>rw [q2] at h;(injection h with h;injection h with b h;injection h with c d;subst b c d);exact Mg|false=>rw [q2] at h;injection h
def Oj(be:Bool)(l:List Nat)(c:l.length<=lim):∀w,w<9->zh (DD be l w)
 |0,y=>ae US H5 () l c|1,y=>ae zR J5 () l c|2,y=>ae AR K5 () l c|3,y=>ae BR L5 () l c|4,y=>ae DL G5 () l c|5,y=>by have:=ae yR YX (64,none) l c;show zh (Qe l);unfold Qe;induction q:sc Wb 0 (64,none) l with|error e=>exact trivial|ok x=>obtain ⟨a,b⟩:=x;rw [q] at this;dsimp only;induction Yh b with|none=>exact this|some y=>exact trivial
 |6,y=>ae E4 I5 false l c|7,y=>ae (ph (zf be)) WM () l c|8,y=>ae (ph (Wg be)) WM () l c
def sgn(be:Bool):Nat->List Nat|6=> [47]|7=>yc be|8=>ug be|x=> [10]
def ar:Nat->List Nat->Prop|7=>xc|8=>dg|x=>all
def sJ(be:Bool)(a b:List Nat):∀w,w<9->ar w a->DD be (a++(sgn be w++b)) w=Ic (DD be a w) ((a.length:Int)+(sgn be w).length) (wd w) (DD be b w)|0,x,y=>SV a b|1,x,y=>Vab a b|2,x,y=>Wab a b|3,x,y=>Xab a b|4,x,y=>Sab a b|5,x,y=>R4 a b|6,x,y=>Uab a b|7,x,h=>P4 a b be h|8,x,h=>Q4 a b be h
def cT(be:Bool)(a b:List Nat)(w:Nat)(d:w<9)(c:ar w a):DD be (a++sgn be w++b) w=Ic (DD be a w) ((a.length:Int)+(sgn be w).length) (wd w) (DD be b w):=by rw [append_assoc];exact sJ be a b w d c
def bM(be:Bool)(a b c:List Nat)(w:Nat)(d:w<9)(e:ar w a)(hb:ar w b):DD be (a++sgn be w++b++sgn be w++c) w=
  Ic (DD be a w) ((a.length:Int)+(sgn be w).length) (wd w) (Ic (DD be b w) ((b.length:Int)+(sgn be w).length) (wd w) (DD be c w)):=by
 rw [show a++sgn be w++b++sgn be w++c=a++(sgn be w++(b++(sgn be w++c))) by simp [append_assoc],sJ be a _ w d e,sJ be b c w d hb]
noncomputable def Ff(w:Nat):Prop:=w=0\/w=4\/w=7\/w=8
def jJ(be:Bool)(l:List Nat)(w:Nat)(a:Ff w):RR be l w= .ok (RL (RR be l w)):=by
 rcases a with rfl|rfl|rfl|rfl;·exact iq ff
 ·exact iq SN
 ·exact iq Hc
 ·exact iq Hc
def Ci(be:Bool)(l:List Nat)(a:l.length<=lim)(w:Nat)(b:Ff w):ti (RL (RR be l w)):=by
 have h:zh (RR be l w):=by
  rcases b with rfl|rfl|rfl|rfl;·exact ae rH aY () l a
  ·exact ae CL ZX () l a
  ·exact ae (Ee (zf be)) VM () l a
  ·exact ae (Ee (Wg be)) VM () l a
 rw [jJ be l w b] at h;exact h
def Yx(be:Bool)(a b:List Nat)(w:Nat)(c:Ff w)(d:ar w a):RL (RR be (a++(sgn be w++b)) w)=RL (RR be a w)++ .int 10::RL (RR be b w):=by
 have e:=jJ be a w c;have f:=jJ be b w c;have h:RR be (a++(sgn be w++b)) w=Ic (RR be a w) ((a.length:Int)+(sgn be w).length) 10 (RR be b w):=by
  rcases c with rfl|rfl|rfl|rfl;·exact V4 a b
  ·exact U4 a b
  ·exact TV a b be d
  ·exact VV a b be d
 rw [h,e,f];rfl
def S4(be:Bool)(a b:List Nat)(w:Nat)(d:Ff w)(c:ar w a):RL (RR be (a++sgn be w++b) w)=RL (RR be a w)++ .int 10::RL (RR be b w):=by rw [append_assoc];exact Yx be a b w d c
def T4(be:Bool)(a b c:List Nat)(w:Nat)(d:Ff w)(e:ar w a)(hb:ar w b):RL (RR be (a++sgn be w++b++sgn be w++c) w)=RL (RR be a w)++ .int 10::(RL (RR be b w)++ .int 10::RL (RR be c w)):=by rw [show a++sgn be w++b++sgn be w++c=a++(sgn be w++(b++(sgn be w++c))) by simp [append_assoc],Yx be a _ w d e,Yx be b c w d hb]
noncomputable def za(k:Nat)(l:List Nat):List Nat:=l.take (l.length/k*k)
def Ir(k:Nat):FV->FV| .bytes l=> .bytes (za k l)|x=>x
def Yd(l:List Nat):xc (za 2 l):=by unfold xc za;rw [length_take];lia
def gg(l:List Nat):dg (za 4 l):=by unfold dg za;rw [length_take];lia
def tq{l:List Nat}{m:Nat}(h:l.length<=big)(a:m<=l.length):Va (.bytes l) none (some (m:Int))=some (.bytes (l.take m)):=by exact (if_pos h).trans (congrArg (λx=>some (FV.bytes x)) cE)
def tw(n:Nat)(st:ia)(l:List Nat)(a:l.length<=lim):pa (ja n) (.slc (.var 1) .nil (.bin .Mult (.bin .FloorDiv (.len (.var 1)) (.var 0)) (.var 0))) ([.a (.v (.int 2))]++ [.a (.v (.bytes l))]) st=some (.ok (.v (.bytes (za 2 l))),st):=by
 have b:=Oc (Nat.le_trans a (show lim<=big by decide));have c:((l.length:Int)).fdiv 2*2=((l.length/2*2:Nat):Int):=by rw [fdiv_eq_ediv_of_nonneg _ (by decide)];lia
 have s1:small (((l.length:Int)).fdiv 2)=true:=by rw [fdiv_eq_ediv_of_nonneg _ (by decide)];exact Kc (by lia) (by unfold lim at a;lia)
 have s2:small 2=true:=(Yb _).trans rfl;have d:=tq (l:=l) (m:=l.length/2*2) (Nat.le_trans a (by decide)) (by lia);have e:=uv (k:=l.length) (k':=2) (by decide) (by decide);have f:Ia .Mult (.int ((l.length:Int).fdiv 2)) (.int 2)=some (.int (l.length/2*2:Nat)):=c▸jb s1 s2;exact Kh [.F 0 b,.F 0 e,.F 0 f,.F 0 d]
def KC(n:Nat)(st:ia)(a b:List Nat)(h:a.length<=lim):(ja (n+1)).call 56 [.v (.lst [.bytes a,.bytes b]),.v (.int 2)] st=some (.ok (.v (.lst [.bytes (za 2 a),.bytes b])),st):=by
 have i:Va (.lst [.bytes a,.bytes b]) none (some (-((1:Nat):Int)))=some (.lst [.bytes a]):=rfl;have f:Va (.lst [.bytes a,.bytes b]) (some (-((1:Nat):Int))) none=some (.lst [.bytes b]):=rfl;have g:Ia .Add (.lst [.bytes (za 2 a)]) (.lst [.bytes b])=some (.lst [.bytes (za 2 a),.bytes b]):=rfl;have d:pa (ja n) (.comp (.slc (.var 1) .nil (.bin .Mult (.bin .FloorDiv (.len (.var 1)) (.var 0)) (.var 0))) (.slc (.var 0) .nil (.neg 1)) [1]) [.a (.v (.lst [.bytes a,.bytes b])),.a (.v (.int 2))] st=some (.ok (.v (.lst (([.bytes a]:List FV).map (Ir 2)))),st):=by refine comp_map (c:= [.a (.v (.int 2))]) (l:= [.bytes a]) (by kernel_rfl) rfl (show 1<=big by decide) λx e=> ?_;simp only [mem_cons,not_mem_nil,or_false] at e;subst e;exact tw n st a h
 simp only [map_cons,map_nil,Ir] at d;exact xa [.R 0 d,.F 0 f,.F 0 g]
def LC(n:Nat)(st:ia)(a b c:List Nat)(h:a.length<=lim)(hb:b.length<=lim):(ja (n+1)).call 56 [.v (.lst [.bytes a,.bytes b,.bytes c]),.v (.int 2)] st=some (.ok (.v (.lst [.bytes (za 2 a),.bytes (za 2 b),.bytes c])),st):=by
 have i:Va (.lst [.bytes a,.bytes b,.bytes c]) none (some (-((1:Nat):Int)))=some (.lst [.bytes a,.bytes b]):=rfl;have f:Va (.lst [.bytes a,.bytes b,.bytes c]) (some (-((1:Nat):Int))) none=some (.lst [.bytes c]):=rfl;have g:Ia .Add (.lst [.bytes (za 2 a),.bytes (za 2 b)]) (.lst [.bytes c])=some (.lst [.bytes (za 2 a),.bytes (za 2 b),.bytes c]):=rfl;have d:pa (ja n) (.comp (.slc (.var 1) .nil (.bin .Mult (.bin .FloorDiv (.len (.var 1)) (.var 0)) (.var 0))) (.slc (.var 0) .nil (.neg 1)) [1]) [.a (.v (.lst [.bytes a,.bytes b,.bytes c])),.a (.v (.int 2))] st=some (.ok (.v (.lst (([.bytes a,.bytes b]:List FV).map (Ir 2)))),st):=by
  refine comp_map (c:= [.a (.v (.int 2))]) (l:= [.bytes a,.bytes b]) (by kernel_rfl) rfl (show 2<=big by decide) λx e=> ?_;simp only [mem_cons,not_mem_nil,or_false] at e;rcases e with rfl|rfl;·exact tw n st a h
  ·exact tw n st b hb
 simp only [map_cons,map_nil,Ir] at d;exact xa [.R 0 d,.F 0 f,.F 0 g]
def uw(n:Nat)(st:ia)(l:List Nat)(a:l.length<=lim):pa (ja n) (.slc (.var 1) .nil (.bin .Mult (.bin .FloorDiv (.len (.var 1)) (.var 0)) (.var 0))) ([.a (.v (.int 4))]++ [.a (.v (.bytes l))]) st=some (.ok (.v (.bytes (za 4 l))),st):=by
 have b:=Oc (Nat.le_trans a (show lim<=big by decide));have c:((l.length:Int)).fdiv 4*4=((l.length/4*4:Nat):Int):=by rw [fdiv_eq_ediv_of_nonneg _ (by decide)];lia
 have s1:small (((l.length:Int)).fdiv 4)=true:=by rw [fdiv_eq_ediv_of_nonneg _ (by decide)];exact Kc (by lia) (by unfold lim at a;lia)
 have s2:small 4=true:=(Yb _).trans rfl;have d:=tq (l:=l) (m:=l.length/4*4) (Nat.le_trans a (by decide)) (by lia);have e:=uv (k:=l.length) (k':=4) (by decide) (by decide);have f:Ia .Mult (.int ((l.length:Int).fdiv 4)) (.int 4)=some (.int (l.length/4*4:Nat)):=c▸jb s1 s2;exact Kh [.F 0 b,.F 0 e,.F 0 f,.F 0 d]
def xN(n:Nat)(st:ia)(a b:List Nat)(h:a.length<=lim):(ja (n+1)).call 56 [.v (.lst [.bytes a,.bytes b]),.v (.int 4)] st=some (.ok (.v (.lst [.bytes (za 4 a),.bytes b])),st):=by
 have i:Va (.lst [.bytes a,.bytes b]) none (some (-((1:Nat):Int)))=some (.lst [.bytes a]):=rfl;have f:Va (.lst [.bytes a,.bytes b]) (some (-((1:Nat):Int))) none=some (.lst [.bytes b]):=rfl;have g:Ia .Add (.lst [.bytes (za 4 a)]) (.lst [.bytes b])=some (.lst [.bytes (za 4 a),.bytes b]):=rfl;have d:pa (ja n) (.comp (.slc (.var 1) .nil (.bin .Mult (.bin .FloorDiv (.len (.var 1)) (.var 0)) (.var 0))) (.slc (.var 0) .nil (.neg 1)) [1]) [.a (.v (.lst [.bytes a,.bytes b])),.a (.v (.int 4))] st=some (.ok (.v (.lst (([.bytes a]:List FV).map (Ir 4)))),st):=by refine comp_map (c:= [.a (.v (.int 4))]) (l:= [.bytes a]) (by kernel_rfl) rfl (show 1<=big by decide) λx e=> ?_;simp only [mem_cons,not_mem_nil,or_false] at e;subst e;exact uw n st a h
 simp only [map_cons,map_nil,Ir] at d;exact xa [.R 0 d,.F 0 f,.F 0 g]
def yN(n:Nat)(st:ia)(a b c:List Nat)(h:a.length<=lim)(hb:b.length<=lim):(ja (n+1)).call 56 [.v (.lst [.bytes a,.bytes b,.bytes c]),.v (.int 4)] st=some (.ok (.v (.lst [.bytes (za 4 a),.bytes (za 4 b),.bytes c])),st):=by
 have i:Va (.lst [.bytes a,.bytes b,.bytes c]) none (some (-((1:Nat):Int)))=some (.lst [.bytes a,.bytes b]):=rfl;have f:Va (.lst [.bytes a,.bytes b,.bytes c]) (some (-((1:Nat):Int))) none=some (.lst [.bytes c]):=rfl;have g:Ia .Add (.lst [.bytes (za 4 a),.bytes (za 4 b)]) (.lst [.bytes c])=some (.lst [.bytes (za 4 a),.bytes (za 4 b),.bytes c]):=rfl;have d:pa (ja n) (.comp (.slc (.var 1) .nil (.bin .Mult (.bin .FloorDiv (.len (.var 1)) (.var 0)) (.var 0))) (.slc (.var 0) .nil (.neg 1)) [1]) [.a (.v (.lst [.bytes a,.bytes b,.bytes c])),.a (.v (.int 4))] st=some (.ok (.v (.lst (([.bytes a,.bytes b]:List FV).map (Ir 4)))),st):=by
  refine comp_map (c:= [.a (.v (.int 4))]) (l:= [.bytes a,.bytes b]) (by kernel_rfl) rfl (show 2<=big by decide) λx e=> ?_;simp only [mem_cons,not_mem_nil,or_false] at e;rcases e with rfl|rfl;·exact uw n st a h
  ·exact uw n st b hb
 simp only [map_cons,map_nil,Ir] at d;exact xa [.R 0 d,.F 0 f,.F 0 g]
def VN:(PL==Rk)=false:=by decide+kernel
def w3:(c3==Rk)=false:=by decide+kernel
def Sh:(LV==Rk)=false:=by decide+kernel
def TS:(MV==Rk)=false:=by decide+kernel
theorem tj(d:Nat):∀(m h:Nat) (code f g:Int) (r:List Nat),128<=f->g<=191->((Xc d m h code f g (r++ [10])).2.2==Rk)=false|0,x,a,y,b,z,c,u=>by simp only [Xc];exact w3|m+1,h,code,f,g,[],i,j=>by rw [nil_append];have e:decide (f<=((10:Nat):Int))=false:=decide_eq_false (by lia);simp only [Xc,e,Bool.false_and,bO];exact VN|m+1,h,code,f,g,o::r,i,j=>by rw [cons_append];simp only [Xc];induction (decide (f<=(o:Int))&&decide ((o:Int)<=g)) with|true=>exact tj d m (h+1) _ 128 191 r (by lia) (by lia)|false=>exact VN
def MH(o:Nat)(r:List Nat):((Xa o (r++ [10])).2.2==Rk)=false:=by
 have c:(128:Int)<=br ((o:Int)==224) 160 128:=by induction (o:Int)==224<;>decide
 have a:br ((o:Int)==237) (159:Int) 191<=191:=by induction (o:Int)==237<;>decide
 have d:(128:Int)<=br ((o:Int)==240) 144 128:=by induction (o:Int)==240<;>decide
 have b:br ((o:Int)==244) (143:Int) 191<=191:=by induction (o:Int)==244<;>decide
 unfold Xa;induction decide ((o:Int)<128) with|true=>exact w3|false=>
 induction (decide (194<=(o:Int))&&decide ((o:Int)<=223)) with|true=>exact tj 2 1 1 _ _ _ r (by decide) (by decide)|false=>
 induction (decide (224<=(o:Int))&&decide ((o:Int)<=239)) with|true=>exact tj 3 2 1 _ _ _ r c a|false=>
 induction (decide (240<=(o:Int))&&decide ((o:Int)<=244)) with|true=>exact tj 4 3 1 _ _ _ r d b|false=>induction decide ((o:Int)<192) with|true=>exact Sh|false=>exact TS
def uL{l r:List Nat}{k o:Nat}(h:At (l++ [10]) k (o::r)):(o=10/\r= [])\/∃g,r=g++ [10]:=by
 have e:=h.eq;rcases Nat.lt_or_ge k l.length with d|d;·rw [drop_append_of_le_length (by lia)] at e;induction q:l.drop k with|nil=>have:=congrArg List.length q;rw [length_drop,length_nil] at this;lia|cons x t=>rw [q,cons_append] at e;(injection e with a b;subst a b);exact .inr ⟨t,rfl⟩
 ·have f:=h.len;rw [length_append,length_cons,length_cons,length_nil] at f;have c:k=l.length:=by lia
  subst c;rw [drop_left] at e;(injection e with a b;subst a b);exact .inl ⟨rfl,rfl⟩
def Zv(l:List Nat)(k o:Nat)(r:List Nat)(h:At (l++ [10]) k (o::r)):((Xa o r).2.2==Rk)=false:=by
 rcases uL h with ⟨rfl,rfl⟩|⟨a,rfl⟩;·exact w3
 ·exact MH o a
def VJ(be:Bool)(l:List Nat)(g:xc l)(k o:Nat)(r:List Nat)(h:At (l++yc be) k (o::r))(b:xc (o::r)):nA be o r=false:=by
 unfold xc at b g;have e:=h.eq;have a:=h.len;have l2:(yc be).length=2:=by induction be<;>rfl
 rw [length_append,l2] at a;rw [length_cons] at b a;induction r with
 |nil=>simp at b|cons x r=>
  rw [length_cons] at b a;unfold nA;rcases Nat.lt_or_ge r.length 2 with c|c
  ·have i:r= []:=by
    induction r with|nil=>rfl|cons y r=>induction r with|nil=>simp at b|cons z r=>simp at c;lia
   subst i;simp only [length_nil] at a;have f:k=l.length:=by lia
   subst f;rw [drop_left] at e;induction be<;>(cases e;rfl)
  ·have d:decide ((r.length:Int)+2<4)=false:=decide_eq_false (by lia);show (decide ((r.length:Int)+2<4)&&Ua (ic be o x))=false;rw [d];rfl
noncomputable def EvY(l:List Nat)(a:Bool)(k:Int):Prop:=a=true\/((l.length:Int)-k) % 2=0
def YY(i:Nat)(l:List Nat)(a:Bool)(q:Str)(fd:List FV)(k:Int)(sl:List Slot):Prop:=EL (slY i l a q fd k) sl
def bL(n i:Nat)(st:ia)(z:i<st.length)(q:Str)(be:Bool)(M:(q==c0)=be)(P:Int)(d:Bool)(l:List Nat)(L:Rb l)(A:l.length<=lim)(H:d=true\/(xc l/\∀(k:Nat) (o:Nat) (r:List Nat),At l k (o::r)->xc (o::r)->nA be o r=false)):
  pz ((ja (n+3)).meth 2 0 [.o i,.v (.bytes l),.v (.bool d)] (st.set i (.inst 2 (Ac q P)))) (sc (Ub (Vc be)) 0 () l) (st.set i (.inst 2 (Ac q P))) (st.set i (.inst 2 (Ac q (P+l.length)))):=by
 have f:∀X,(st.set i X)[i]? =some X:=λX=>by rw [getElem?_set_self z]
 have s1:∀sl,Hb (.a (.o i)::sl) (st.set i (.inst 2 (Ac q P))) 2 (.v (.bytes []))=some (st.set i (.inst 2 (Ac q P))):=λsl=>Cd z rfl (show 4<90 by decide);have s2:∀sl x,Hb (.a (.o i)::sl) (st.set i (.inst 2 (Ac q P))) 14 (.v (.int x))=some (st.set i (.inst 2 (Ac q x))):=λsl x=>Cd z rfl (show 4<90 by decide);have s3:∀sl x,Hb (.a (.o i)::sl) (st.set i (.inst 2 (Ac q x))) 12 (.v (.str q))=some (st.set i (.inst 2 (Ac q x))):=λsl x=>Cd z rfl (show 4<90 by decide);have W:Ia .Add (.bytes []) (.bytes l)=some (.bytes l):=oG (by unfold lim at A;unfold big;simp;lia);have u:=Oc (Nat.le_trans A (show lim<=big by decide));refine eE () (λk y fd sl=>EvY l d k/\YY i l d q fd k sl) (Ee (zf be)) A ⟨H.imp id λh=>by have:=h.1;unfold xc at this;lia,.mk .u .u .u⟩ [.P 0 (f (.inst 2 (Ac q P))),.F 0 W,.P 0 (f (.inst 2 (Ac q P)))] (λk s fd sl j h=>j.2.rec λa b c=> ?_) (λk s fd sl o r hA j hb=>j.2.rec λj1 j2 j3=> ?_) (λs fd sl j=>j.2.rec λa B c=> ?_) (by kernel_rfl);·exact Kh [.F 3 u]
 ·have v:=j.1;obtain ⟨w,j',D,e⟩:=Tu n k (st.set i (.inst 2 (Ac q P))) l L q be M o r hA;have C:=NU n i (st.set i (.inst 2 (Ac q P))) l L q be M k o r hA;have ap:=ap hb.1;have O:d=false->nA be o r=false:=λh=>by
   rcases H with h'|h';·rw [h] at h';injection h'
   ·refine h'.2 k o r hA ?_;have p:=hA.len;rcases v with t|t;·rw [h] at t;injection t
    ·unfold xc;lia
  have g:EvY l d ((k:Int)+(Vc be o r).2+1):=by
   rcases v with t|t;·exact .inl t
   ·have p:=hA.len;have G:=sj (be:=be) (o:=o) (r:=r) (by unfold xc;lia);have h3:=zf be o r;unfold xc at G;rw [length_drop] at G;rw [length_cons] at p;exact .inr (by lia)
  unfold Ub;generalize Vc be o r=Q at e D g|-;obtain ⟨F,m⟩:=Q;dsimp only at e g|-;refine .ok D (YW (D▸g) ?_);induction d with
  |true=>induction F with|none=>exact (qd [.R 3 e,.P 3 (f (.inst 2 (Ac q P))),.L 5 (ap (.int 65533))] (.mk _ _ _))|some c=>exact (qd [.R 3 e,.L 7 (ap (oi (some c)))] (.mk _ _ _))
  |false=>rw [O rfl] at C;induction F with|none=>exact (qd [.P 2 (f (.inst 2 (Ac q P))),.R 0 C,.R 1 e,.P 3 (f (.inst 2 (Ac q P))),.L 5 (ap (.int 65533))] (.mk _ _ _))|some c=>exact (qd [.P 2 (f (.inst 2 (Ac q P))),.R 0 C,.R 1 e,.L 7 (ap (oi (some c)))] (.mk _ _ _))
 ·have V:Va (.bytes l) (some (l.length:Int)) none=some (.bytes []):=UI (Nat.le_trans A (by decide));exact oj [.F 0 V,.P 0 (f (.inst 2 (Ac q P))),.M 2 (s1 ([.a (.v (.bytes l)),.a (.v (.bool d)),.a (.v (.bytes l)),.own fd,.a (.v (.int ↑l.length)),.a (.v (.str q)),a,B,c])),.M 0 (s2 ([.a (.v (.bytes l)),.a (.v (.bool d)),.a (.v (.bytes l)),.own fd,.a (.v (.int ↑l.length)),.a (.v (.str q)),a,B,c]) (P+↑l.length)),.M 0 (s3 ([.a (.v (.bytes l)),.a (.v (.bool d)),.a (.v (.bytes l)),.own fd,.a (.v (.int ↑l.length)),.a (.v (.str q)),a,B,c]) (P+↑l.length))]
def Bv(be:Bool):∀w,w<9->(sgn be w).length<=4
 |0,_|1,_|2,_|3,_|4,_|5,_|6,x=>by induction be<;>decide
 |7,_|8,x=>by induction be<;>decide
def Jo(be:Bool):∀w,w<9->Rb (sgn be w)
 |0,_|1,_|2,_|3,_|4,_|5,_|6,a=>by show ∀x∈_,x<256;induction be<;>decide
 |7,_|8,a=>by show ∀x∈_,x<256;induction be<;>decide
section
variable (n:Nat) (st:ia) (q:Str) (be:Bool) (hq:(q==c0)=be) (w:Nat) (hw:w<9) (a b c:List Nat) (la:a.length<=100) (lb:b.length<=100) (lc:c.length<=100) (oa:Rb a) (ob:Rb b) (oc:Rb c) (ka:ar w a) (kb:ar w b)
include hq hw la lb oa ob ka
theorem Ym:∃ex,(ja (n+10)).call 58 [.v (.lst [.bytes a,.bytes b]),.v (.bytes (sgn be w)),.v (.int w),.v (.str q)] st=some (.ok (.v (.bool true)),st++ex):=by have d:=Bv be w hw;exact lL n st a b (sgn be w) w hw q be hq (by unfold lim;lia) oa (Jo be w hw) ob (cT be a b w hw ka) (Oj be a (by unfold lim;lia) w hw) (Oj be b (by unfold lim;lia) w hw)
include lc oc kb
theorem Zm:∃ex,(ja (n+10)).call 58 [.v (.lst [.bytes a,.bytes b,.bytes c]),.v (.bytes (sgn be w)),.v (.int w),.v (.str q)] st=some (.ok (.v (.bool true)),st++ex):=by have d:=Bv be w hw;exact mL n st a b c (sgn be w) w hw q be hq (by unfold lim;lia) oa (Jo be w hw) ob oc (bM be a b c w hw ka kb) (Oj be a (by unfold lim;lia) w hw) (Oj be b (by unfold lim;lia) w hw) (Oj be c (by unfold lim;lia) w hw)
end
def Zg(n:Nat)(st:ia)(l:List Nat)(b:l.length<=lim)(a:Rb l)(q:Str)(be:Bool)(c:(q==c0)=be)(w:Nat)(d:Ff w):(ja (n+6)).call 55 [.v (.bytes l),.v (.int w),.v (.str q)] st=some (.ok (.v (.lst (RL (RR be l w)))),st):=by
 rcases d with rfl|rfl|rfl|rfl;·exact dR n st l b a q be c
 ·exact fR n st l b a q be c
 ·exact gR n st l b a q be c
 ·exact jR n st l b a q be c
section
variable (n:Nat) (st:ia) (q:Str) (be:Bool) (hq:(q==c0)=be) (w:Nat) (hw:Ff w) (a b c:List Nat) (la:a.length<=100) (lb:b.length<=100) (lc:c.length<=100) (oa:Rb a) (ob:Rb b) (oc:Rb c) (ka:ar w a) (kb:ar w b)
include hq hw la lb oa ob ka
theorem vi:(ja (n+7)).call 59 [.v (.lst [.bytes a,.bytes b]),.v (.bytes (sgn be w)),.v (.int w),.v (.str q)] st=some (.ok (.v (.bool true)),st):=by
 have d:w<9:=by rcases hw with rfl|rfl|rfl|rfl<;>decide
 have e:=Bv be w d;have os:=Jo be w d;refine iL n st a b (sgn be w) w q (RL (RR be a w)) (RL (RR be b w)) (by unfold lim;lia) (Ci be a (by unfold lim;lia) w hw) (Ci be b (by unfold lim;lia) w hw) (λst'=>Zg n st' a (by unfold lim;lia) oa q be hq w hw) (λst'=>Zg n st' b (by unfold lim;lia) ob q be hq w hw) λst'=> ?_;rw [<-S4 be a b w hw ka];exact Zg n st' _ (by simp only [length_append];unfold lim;lia) (Nc (Nc oa os) ob) q be hq w hw
include lc oc kb
theorem wi:(ja (n+7)).call 59 [.v (.lst [.bytes a,.bytes b,.bytes c]),.v (.bytes (sgn be w)),.v (.int w),.v (.str q)] st=some (.ok (.v (.bool true)),st):=by
 have d:w<9:=by rcases hw with rfl|rfl|rfl|rfl<;>decide
 have e:=Bv be w d;have os:=Jo be w d;refine jL n st a b c (sgn be w) w q (RL (RR be a w)) (RL (RR be b w)) (RL (RR be c w)) (by unfold lim;lia) (Ci be a (by unfold lim;lia) w hw) (Ci be b (by unfold lim;lia) w hw) (Ci be c (by unfold lim;lia) w hw) (λst'=>Zg n st' a (by unfold lim;lia) oa q be hq w hw) (λst'=>Zg n st' b (by unfold lim;lia) ob q be hq w hw) (λst'=>Zg n st' c (by unfold lim;lia) oc q be hq w hw) λst'=> ?_;rw [<-T4 be a b c w hw ka kb];exact Zg n st' _ (by simp only [length_append];unfold lim;lia) (Nc (Nc (Nc (Nc oa os) ob) os) oc) q be hq w hw
end
def qh(P:List Nat->Prop)(d:List (List Nat)):Prop:=(∃a b,d= [a,b]/\P a/\P b)\/∃a b c,d= [a,b,c]/\P a/\P b/\P c
def Line(l:List Nat):Prop:=l.length<=100/\Rb l
noncomputable def Za(a:List (List Nat)):FV:= .lst (a.map .bytes)
def vm(w:Nat)(a:List (List Nat)):List (List Nat):=match w with|7=>a.dropLast.map (za 2)++a.drop (a.length-1)|8=>a.dropLast.map (za 4)++a.drop (a.length-1)|x=>a
def Ba{k:Nat}{l:List Nat}(h:Line l):Line (za k l):=⟨Nat.le_trans (by unfold za;rw [length_take];exact Nat.min_le_right _ _) h.1,λx a=>h.2 x (mem_of_mem_take a)⟩
def Vd(n:Nat)(st:ia)(q:Str)(be:Bool)(f:(q==c0)=be)(w:Nat)(g:w<9)(i:List (List Nat))(H:qh Line i):
  ∃ex,(ja (n+10)).call 58 [.v (Za (vm w i)),.v (.bytes (sgn be w)),.v (.int w),.v (.str q)] st=some (.ok (.v (.bool true)),st++ex):=by
 rcases H with ⟨a,b,rfl,d,hb⟩|⟨a,b,c,rfl,d,hb,e⟩
 ·match w,g with|0,h|1,h|2,h|3,h|4,h|5,h|6,h=>exact Ym n st q be f _ h a b d.1 hb.1 d.2 hb.2 trivial|7,h=>exact Ym n st q be f 7 h (za 2 a) b (Ba d).1 hb.1 (Ba d).2 hb.2 (Yd a)|8,h=>exact Ym n st q be f 8 h (za 4 a) b (Ba d).1 hb.1 (Ba d).2 hb.2 (gg a)
 ·match w,g with|0,h|1,h|2,h|3,h|4,h|5,h|6,h=>exact Zm n st q be f _ h a b c d.1 hb.1 e.1 d.2 hb.2 e.2 trivial trivial|7,h=>exact Zm n st q be f 7 h (za 2 a) (za 2 b) c (Ba d).1 (Ba hb).1 e.1 (Ba d).2 (Ba hb).2 e.2 (Yd a) (Yd b)|8,h=>exact Zm n st q be f 8 h (za 4 a) (za 4 b) c (Ba d).1 (Ba hb).1 e.1 (Ba d).2 (Ba hb).2 e.2 (gg a) (gg b)
def uj(n:Nat)(st:ia)(q:Str)(be:Bool)(g:(q==c0)=be)(w:Nat)(e:Ff w)(h:List (List Nat))(H:qh Line h):(ja (n+7)).call 59 [.v (Za (vm w h)),.v (.bytes (sgn be w)),.v (.int w),.v (.str q)] st=some (.ok (.v (.bool true)),st):=by
 rcases H with ⟨a,b,rfl,d,hb⟩|⟨a,b,c,rfl,d,hb,f⟩
 ·have:=e;rcases this with rfl|rfl|rfl|rfl;·exact vi n st q be g 0 e a b d.1 hb.1 d.2 hb.2 trivial
  ·exact vi n st q be g 4 e a b d.1 hb.1 d.2 hb.2 trivial
  ·exact vi n st q be g 7 e (za 2 a) b (Ba d).1 hb.1 (Ba d).2 hb.2 (Yd a)
  ·exact vi n st q be g 8 e (za 4 a) b (Ba d).1 hb.1 (Ba d).2 hb.2 (gg a)
 ·have:=e;rcases this with rfl|rfl|rfl|rfl;·exact wi n st q be g 0 e a b c d.1 hb.1 f.1 d.2 hb.2 f.2 trivial trivial
  ·exact wi n st q be g 4 e a b c d.1 hb.1 f.1 d.2 hb.2 f.2 trivial trivial
  ·exact wi n st q be g 7 e (za 2 a) (za 2 b) c (Ba d).1 (Ba hb).1 f.1 (Ba d).2 (Ba hb).2 f.2 (Yd a) (Yd b)
  ·exact wi n st q be g 8 e (za 4 a) (za 4 b) c (Ba d).1 (Ba hb).1 f.1 (Ba d).2 (Ba hb).2 f.2 (gg a) (gg b)
def uR(n:Nat)(st:ia)(e:List (List Nat))(H:qh Line e):(ja (n+1)).call 56 [.v (Za e),.v (.int 2)] st=some (.ok (.v (Za (vm 7 e))),st):=by
 rcases H with ⟨a,b,rfl,d,hb⟩|⟨a,b,c,rfl,d,hb,f⟩;·exact KC n st a b (by have:=d.1;unfold lim;lia)
 ·exact LC n st a b c (by have:=d.1;unfold lim;lia) (by have:=hb.1;unfold lim;lia)
def xR(n:Nat)(st:ia)(e:List (List Nat))(H:qh Line e):(ja (n+1)).call 56 [.v (Za e),.v (.int 4)] st=some (.ok (.v (Za (vm 8 e))),st):=by
 rcases H with ⟨a,b,rfl,d,hb⟩|⟨a,b,c,rfl,d,hb,f⟩;·exact xN n st a b (by have:=d.1;unfold lim;lia)
 ·exact yN n st a b c (by have:=d.1;unfold lim;lia) (by have:=hb.1;unfold lim;lia)
def jf:S:=(.seq (.asgs [(7,false),(8,false)] (.cons (.ite (.cmp .Eq (.var 6) (.cst (.int 6))) (.cst (.bytes [47])) (.cst (.bytes [10]))) (.cons (.var 4) .nil))) (.seq (.ifs (.cmp .Gt (.var 6) (.cst (.int 6))) (.seq (.asg 7 (.ite (.cmp .Eq (.var 6) (.cst (.int 7))) (.call 28 (.cons (.lst (.cons (.glob 57) .nil)) (.cons (.var 5) .nil))) (.call 33 (.cons (.lst (.cons (.glob 57) .nil)) (.cons (.var 5) .nil))))) (.seq (.asg 8 (.call 56 (.cons (.var 4) (.cons (.ite (.cmp .Eq (.var 6) (.cst (.int 7))) (.cst (.int 2)) (.cst (.int 4))) .nil)))) .skip)) .skip) (.seq (.ifs (.not (.call 58 (.cons (.var 8) (.cons (.var 7) (.cons (.var 6) (.cons (.var 5) .nil)))))) (.seq (.ret (.cst (.bool false))) .skip) .skip) (.seq (.ifs (.and (.cmp .In (.var 6) (.tup (.cons (.cst (.int 0)) (.cons (.cst (.int 4)) (.cons (.cst (.int 7)) (.cons (.cst (.int 8)) .nil)))))) (.not (.call 59 (.cons (.var 8) (.cons (.var 7) (.cons (.var 6) (.cons (.var 5) .nil))))))) (.seq (.ret (.cst (.bool false))) .skip) .skip) .skip))))
section
variable (n:Nat) (st:ia) (q:Str) (be:Bool) (hq:(q==c0)=be) (ls:List (List Nat)) (H:qh Line ls) (a0 a1 a2 a3 z7 z8 z9 z10:Slot)
include hq H
theorem iaa:∃a b ex,ua (ja (n+10)) 2000 jf [a0,a1,a2,a3,.a (.v (Za ls)),.a (.v (.str q)),.a (.v (.int 0)),z7,z8,z9,z10] st=some (.next,[a0,a1,a2,a3,.a (.v (Za ls)),.a (.v (.str q)),.a (.v (.int 0)),a,b,z9,z10],st++ex):=by have A:∃ex,(ja (n+10)).call 58 [.v (Za ls),.v (.bytes [10]),.v (.int 0),.v (.str q)] st=some (.ok (.v (.bool true)),st++ex):=Vd n st q be hq 0 (by decide) ls H;obtain ⟨ex,A⟩:=A;have B:∀st',(ja (n+10)).call 59 [.v (Za ls),.v (.bytes [10]),.v (.int 0),.v (.str q)] st'=some (.ok (.v (.bool true)),st'):=λst'=>uj (n+3) st' q be hq 0 (by unfold Ff;decide) ls H;have c:Fd [.int 0,.int 4,.int 7,.int 8]=some [0,4,7,8]:=rfl;have ci:yb .In (.int 0) (.tup [.int 0,.int 4,.int 7,.int 8])=some true:=rfl;refine ⟨.a (.v (.bytes [10])),.a (.v (Za ls)),ex,?_⟩;unfold jf;exact bc [.R 6 A,.O 3 ci,.R 2 (B (st++ex))]
theorem jaa:∃a b ex,ua (ja (n+10)) 2000 jf [a0,a1,a2,a3,.a (.v (Za ls)),.a (.v (.str q)),.a (.v (.int 1)),z7,z8,z9,z10] st=some (.next,[a0,a1,a2,a3,.a (.v (Za ls)),.a (.v (.str q)),.a (.v (.int 1)),a,b,z9,z10],st++ex):=by have A:∃ex,(ja (n+10)).call 58 [.v (Za ls),.v (.bytes [10]),.v (.int 1),.v (.str q)] st=some (.ok (.v (.bool true)),st++ex):=Vd n st q be hq 1 (by decide) ls H;obtain ⟨ex,A⟩:=A;have c:Fd [.int 0,.int 4,.int 7,.int 8]=some [0,4,7,8]:=rfl;have ci:yb .In (.int 1) (.tup [.int 0,.int 4,.int 7,.int 8])=some false:=rfl;refine ⟨.a (.v (.bytes [10])),.a (.v (Za ls)),ex,?_⟩;unfold jf;exact bc [.O 0 ci,.O 2 ci,.R 2 A,.O 3 ci]
theorem kaa:∃a b ex,ua (ja (n+10)) 2000 jf [a0,a1,a2,a3,.a (.v (Za ls)),.a (.v (.str q)),.a (.v (.int 2)),z7,z8,z9,z10] st=some (.next,[a0,a1,a2,a3,.a (.v (Za ls)),.a (.v (.str q)),.a (.v (.int 2)),a,b,z9,z10],st++ex):=by have A:∃ex,(ja (n+10)).call 58 [.v (Za ls),.v (.bytes [10]),.v (.int 2),.v (.str q)] st=some (.ok (.v (.bool true)),st++ex):=Vd n st q be hq 2 (by decide) ls H;obtain ⟨ex,A⟩:=A;have c:Fd [.int 0,.int 4,.int 7,.int 8]=some [0,4,7,8]:=rfl;have ci:yb .In (.int 2) (.tup [.int 0,.int 4,.int 7,.int 8])=some false:=rfl;refine ⟨.a (.v (.bytes [10])),.a (.v (Za ls)),ex,?_⟩;unfold jf;exact bc [.O 0 ci,.O 2 ci,.R 2 A,.O 3 ci]
theorem laa:∃a b ex,ua (ja (n+10)) 2000 jf [a0,a1,a2,a3,.a (.v (Za ls)),.a (.v (.str q)),.a (.v (.int 3)),z7,z8,z9,z10] st=some (.next,[a0,a1,a2,a3,.a (.v (Za ls)),.a (.v (.str q)),.a (.v (.int 3)),a,b,z9,z10],st++ex):=by have A:∃ex,(ja (n+10)).call 58 [.v (Za ls),.v (.bytes [10]),.v (.int 3),.v (.str q)] st=some (.ok (.v (.bool true)),st++ex):=Vd n st q be hq 3 (by decide) ls H;obtain ⟨ex,A⟩:=A;have c:Fd [.int 0,.int 4,.int 7,.int 8]=some [0,4,7,8]:=rfl;have ci:yb .In (.int 3) (.tup [.int 0,.int 4,.int 7,.int 8])=some false:=rfl;refine ⟨.a (.v (.bytes [10])),.a (.v (Za ls)),ex,?_⟩;unfold jf;exact bc [.O 0 ci,.O 2 ci,.R 2 A,.O 3 ci]
theorem maa:∃a b ex,ua (ja (n+10)) 2000 jf [a0,a1,a2,a3,.a (.v (Za ls)),.a (.v (.str q)),.a (.v (.int 4)),z7,z8,z9,z10] st=some (.next,[a0,a1,a2,a3,.a (.v (Za ls)),.a (.v (.str q)),.a (.v (.int 4)),a,b,z9,z10],st++ex):=by have A:∃ex,(ja (n+10)).call 58 [.v (Za ls),.v (.bytes [10]),.v (.int 4),.v (.str q)] st=some (.ok (.v (.bool true)),st++ex):=Vd n st q be hq 4 (by decide) ls H;obtain ⟨ex,A⟩:=A;have B:∀st',(ja (n+10)).call 59 [.v (Za ls),.v (.bytes [10]),.v (.int 4),.v (.str q)] st'=some (.ok (.v (.bool true)),st'):=λst'=>uj (n+3) st' q be hq 4 (by unfold Ff;decide) ls H;have c:Fd [.int 0,.int 4,.int 7,.int 8]=some [0,4,7,8]:=rfl;have ci:yb .In (.int 4) (.tup [.int 0,.int 4,.int 7,.int 8])=some true:=rfl;refine ⟨.a (.v (.bytes [10])),.a (.v (Za ls)),ex,?_⟩;unfold jf;exact bc [.R 6 A,.O 3 ci,.R 2 (B (st++ex))]
theorem naa:∃a b ex,ua (ja (n+10)) 2000 jf [a0,a1,a2,a3,.a (.v (Za ls)),.a (.v (.str q)),.a (.v (.int 5)),z7,z8,z9,z10] st=some (.next,[a0,a1,a2,a3,.a (.v (Za ls)),.a (.v (.str q)),.a (.v (.int 5)),a,b,z9,z10],st++ex):=by have A:∃ex,(ja (n+10)).call 58 [.v (Za ls),.v (.bytes [10]),.v (.int 5),.v (.str q)] st=some (.ok (.v (.bool true)),st++ex):=Vd n st q be hq 5 (by decide) ls H;obtain ⟨ex,A⟩:=A;have c:Fd [.int 0,.int 4,.int 7,.int 8]=some [0,4,7,8]:=rfl;have ci:yb .In (.int 5) (.tup [.int 0,.int 4,.int 7,.int 8])=some false:=rfl;refine ⟨.a (.v (.bytes [10])),.a (.v (Za ls)),ex,?_⟩;unfold jf;exact bc [.O 0 ci,.O 2 ci,.R 2 A,.O 3 ci]
theorem oaa:∃a b ex,ua (ja (n+10)) 2000 jf [a0,a1,a2,a3,.a (.v (Za ls)),.a (.v (.str q)),.a (.v (.int 6)),z7,z8,z9,z10] st=some (.next,[a0,a1,a2,a3,.a (.v (Za ls)),.a (.v (.str q)),.a (.v (.int 6)),a,b,z9,z10],st++ex):=by have A:∃ex,(ja (n+10)).call 58 [.v (Za ls),.v (.bytes [47]),.v (.int 6),.v (.str q)] st=some (.ok (.v (.bool true)),st++ex):=Vd n st q be hq 6 (by decide) ls H;obtain ⟨ex,A⟩:=A;have c:Fd [.int 0,.int 4,.int 7,.int 8]=some [0,4,7,8]:=rfl;have ci:yb .In (.int 6) (.tup [.int 0,.int 4,.int 7,.int 8])=some false:=rfl;refine ⟨.a (.v (.bytes [47])),.a (.v (Za ls)),ex,?_⟩;unfold jf;exact bc [.O 3 ci,.R 2 A,.O 3 ci]
theorem paa:∃a b ex,ua (ja (n+10)) 2000 jf [a0,a1,a2,a3,.a (.v (Za ls)),.a (.v (.str q)),.a (.v (.int 7)),z7,z8,z9,z10] st=some (.next,[a0,a1,a2,a3,.a (.v (Za ls)),.a (.v (.str q)),.a (.v (.int 7)),a,b,z9,z10],st++ex):=by
 have A:=Vd n st q be hq 7 (by decide) ls H;have c:sgn be 7=yc be:=rfl;rw [c] at A;obtain ⟨ex,A⟩:=A;replace A:(ja (n+10)).call 58 [.v (Za (vm 7 ls)),.v (.bytes (yc be)),.v (.int 7),.v (.str q)] st=some (.ok (.v (.bool true)),st++ex):=A;have B:∀st',(ja (n+10)).call 59 [.v (Za (vm 7 ls)),.v (.bytes (yc be)),.v (.int 7),.v (.str q)] st'=some (.ok (.v (.bool true)),st'):=λst'=>uj (n+3) st' q be hq 7 (by unfold Ff;decide) ls H;have C:(ja (n+10)).call 28 [.v (.lst [.int 10]),.v (.str q)] st=some (.ok (.v (.bytes (yc be))),st):=by rw [<-mB];exact Gk (n+5) st [10] q be hq (by decide) (by decide)
 have D:=uR (n+9) st ls H;have d:Fd [.int 0,.int 4,.int 7,.int 8]=some [0,4,7,8]:=rfl;have ci:yb .In (.int 7) (.tup [.int 0,.int 4,.int 7,.int 8])=some true:=rfl;refine ⟨.a (.v (.bytes (yc be))),.a (.v (Za (vm 7 ls))),ex,?_⟩;unfold jf;exact bc [.O 3 ci,.O 2 ci,.R 4 C,.O 0 ci,.R 2 D,.R 0 A,.O 3 ci,.R 2 (B (st++ex))]
theorem qaa:∃a b ex,ua (ja (n+10)) 2000 jf [a0,a1,a2,a3,.a (.v (Za ls)),.a (.v (.str q)),.a (.v (.int 8)),z7,z8,z9,z10] st=some (.next,[a0,a1,a2,a3,.a (.v (Za ls)),.a (.v (.str q)),.a (.v (.int 8)),a,b,z9,z10],st++ex):=by
 have A:=Vd n st q be hq 8 (by decide) ls H;have c:sgn be 8=ug be:=rfl;rw [c] at A;obtain ⟨ex,A⟩:=A;replace A:(ja (n+10)).call 58 [.v (Za (vm 8 ls)),.v (.bytes (ug be)),.v (.int 8),.v (.str q)] st=some (.ok (.v (.bool true)),st++ex):=A;have B:∀st',(ja (n+10)).call 59 [.v (Za (vm 8 ls)),.v (.bytes (ug be)),.v (.int 8),.v (.str q)] st'=some (.ok (.v (.bool true)),st'):=λst'=>uj (n+3) st' q be hq 8 (by unfold Ff;decide) ls H;have C:(ja (n+10)).call 33 [.v (.lst [.int 10]),.v (.str q)] st=some (.ok (.v (.bytes (ug be))),st):=by rw [<-qU];exact Lx (n+6) st [10] q be hq (by decide) (by decide)
 have D:=xR (n+9) st ls H;have d:Fd [.int 0,.int 4,.int 7,.int 8]=some [0,4,7,8]:=rfl;have ci:yb .In (.int 8) (.tup [.int 0,.int 4,.int 7,.int 8])=some true:=rfl;refine ⟨.a (.v (.bytes (ug be))),.a (.v (Za (vm 8 ls))),ex,?_⟩;unfold jf;exact bc [.O 3 ci,.R 7 C,.R 3 D,.R 0 A,.O 3 ci,.R 2 (B (st++ex))]
theorem lV:∃M i j ex,runs (ua (ja (n+10)) 2000 jf) [6] [.int 0,.int 1,.int 2,.int 3,.int 4,.int 5,.int 6,.int 7,.int 8] [a0,a1,a2,a3,.a (.v (Za ls)),.a (.v (.str q)),.u,.u,.u,z9,z10] st=some (.next,[a0,a1,a2,a3,.a (.v (Za ls)),.a (.v (.str q)),M,i,j,z9,z10],st++ex):=by obtain ⟨w,r0,a,l⟩:=iaa n (st) q be hq ls H a0 a1 a2 a3 .u .u z9 z10;obtain ⟨A,r1,b,m⟩:=jaa n (st++a) q be hq ls H a0 a1 a2 a3 w r0 z9 z10;obtain ⟨B,r2,c,o⟩:=kaa n (st++a++b) q be hq ls H a0 a1 a2 a3 A r1 z9 z10;obtain ⟨p3,r3,d,p⟩:=laa n (st++a++b++c) q be hq ls H a0 a1 a2 a3 B r2 z9 z10;obtain ⟨C,r4,e,r⟩:=maa n (st++a++b++c++d) q be hq ls H a0 a1 a2 a3 p3 r3 z9 z10;obtain ⟨D,r5,f,s⟩:=naa n (st++a++b++c++d++e) q be hq ls H a0 a1 a2 a3 C r4 z9 z10;obtain ⟨F,r6,g,t⟩:=oaa n (st++a++b++c++d++e++f) q be hq ls H a0 a1 a2 a3 D r5 z9 z10;obtain ⟨G,r7,h,u⟩:=paa n (st++a++b++c++d++e++f++g) q be hq ls H a0 a1 a2 a3 F r6 z9 z10;obtain ⟨L,r8,e8,v⟩:=qaa n (st++a++b++c++d++e++f++g++h) q be hq ls H a0 a1 a2 a3 G r7 z9 z10;refine ⟨.a (.v (.int 8)),L,r8,a++b++c++d++e++f++g++h++e8,?_⟩;rw [show st++(a++b++c++d++e++f++g++h++e8)=st++a++b++c++d++e++f++g++h++e8 by simp only [append_assoc]];have k:∀(x:FV) (z z7 z8:Slot),bindL [6] x [a0,a1,a2,a3,.a (.v (Za ls)),.a (.v (.str q)),z,z7,z8,z9,z10]=some [a0,a1,a2,a3,.a (.v (Za ls)),.a (.v (.str q)),.a (.v x),z7,z8,z9,z10]:=λy y y y=>rfl;simp only [runs,ai,k,l,m,o,p,r,s,t,u,v]
end
def Ig(h:∀x∈F,cg x):yb .NotEq (.lst F) (.lst F)=some false:=by have:=xn h;simp only [yb] at this|-;rw [this];rfl
def Oz(n:Nat)(st:ia)(P:Int)(c:Bool)(l:List Nat)(f:l.length<=lim)(H:c=true\/∀(k:Nat) (o:Nat) (r:List Nat),At l k (o::r)->((Xa o r).2.2==Rk)=false):
  ∃d,(ja (n+3)).meth 3 0 [.o st.length,.v (.bytes l),.v (.bool c)] (st++ [.inst 3 (u8 false P)])=some (.ok (.v (.lst (RL (R8 l)))),st++ [.inst 3 (u8 false d)]):=by
 have h:=aH n st.length (st++ [.inst 3 (u8 false P)]) (by simp) false P c l f H;simp only [Gj] at h;refine ⟨br c 0 (P+l.length),?_⟩;rw [show cz false P=Wc from rfl] at h;unfold R8;induction q:sc Wc 0 () l with|error e=>exact absurd q (Cf ff l.length 0 () l (Nat.le_refl _) e)|ok x=>obtain ⟨a,b⟩:=x;rw [q] at h;exact h
def Ew(n:Nat)(st:ia)(q:Str)(be:Bool)(i:(q==c0)=be)(P:Int)(c:Bool)(l:List Nat)(f:Rb l)(g:l.length<=lim)(H:c=true\/(xc l/\∀(k:Nat) (o:Nat) (r:List Nat),At l k (o::r)->xc (o::r)->nA be o r=false)):
  ∃d,(ja (n+3)).meth 2 0 [.o st.length,.v (.bytes l),.v (.bool c)] (st++ [.inst 2 (Ac q P)])=some (.ok (.v (.lst (RL (xe be l)))),st++ [.inst 2 (Ac q d)]):=by
 have h:=bL n st.length (st++ [.inst 2 (Ac q P)]) (by simp) q be i P c l f g H;simp only [Gj] at h;refine ⟨P+l.length,?_⟩;unfold xe;induction q:sc (Ub (Vc be)) 0 () l with|error e=>exact absurd q (Cf Hc l.length 0 () l (Nat.le_refl _) e)|ok x=>obtain ⟨a,b⟩:=x;rw [q] at h;exact h
def Nz(n:Nat)(st:ia)(P:Int)(l:List Nat)(b:l.length<=100):
  ∃a,(ja (n+3)).meth 3 0 [.o st.length,.v (.bytes (l++ [10]))] (st++ [.inst 3 (u8 false P)])=some (.ok (.v (.lst (RL (R8 l)++ [.int 10]))),st++ [.inst 3 (u8 false a)]):=by
 have h:=Oz n st P false (l++ [10]) (by rw [length_append];unfold lim;simp;lia) (.inr (Zv l));rw [show RL (R8 (l++ [10]))=RL (R8 l)++ [.int 10] from Yx true l [] 0 (.inl rfl) trivial] at h;obtain ⟨a,h⟩:=h;refine ⟨a,?_⟩;rw [A5] at h|-;exact h
def Dw(n:Nat)(st:ia)(q:Str)(be:Bool)(d:(q==c0)=be)(P:Int)(l:List Nat)(c:Rb l)(f:l.length<=100)(b:xc l):
  ∃a,(ja (n+3)).meth 2 0 [.o st.length,.v (.bytes (l++yc be))] (st++ [.inst 2 (Ac q P)])=some (.ok (.v (.lst (RL (xe be l)++ [.int 10]))),st++ [.inst 2 (Ac q a)]):=by
 have l2:(yc be).length=2:=by induction be<;>rfl
 have h:=Ew n st q be d P false (l++yc be) (Nc c (Jo be 7 (by decide))) (by rw [length_append];unfold lim;lia) (.inr ⟨by unfold xc at b|-;rw [length_append];lia,VJ be l b⟩);have e:=Yx be l [] 7 (.inr (.inr (.inl rfl))) b;simp only [append_nil] at e;rw [show RL (xe be (l++yc be))=RL (xe be l)++ [.int 10] from e] at h;obtain ⟨a,h⟩:=h;refine ⟨a,?_⟩;rw [z5] at h|-;exact h
def Gg(a:l.length<=100):ti (RL (R8 l)):=Ci true l (by unfold lim;lia) 0 (.inl rfl)
def Of(a:l.length<=100):ti (RL (xe be l)):=Ci be l (by unfold lim;lia) 7 (.inr (.inr (.inl rfl)))
def eh(h:ti l):(∀x∈l++ [.int 10],cg x):=Bj h.1 (λx a=>nomatch a)
def Bk(n:Nat)(st:ia)(l:List Nat)(a:l.length<=lim):(ja (n+3)).call 43 [.v (.bytes l)] st=some (.ok (.v (.lst (RL (R8 l)))),st):=by have h:=pg (YI n st l a) ff;exact h
def gi(n:Nat)(st:ia)(l:List Nat)(b:l.length<=lim)(a:Rb l)(q:Str)(be:Bool)(c:(q==c0)=be):(ja (n+3)).call 32 [.v (.bytes l),.v (.str q)] st=some (.ok (.v (.lst (RL (xe be l)))),st):=by have h:=pg (dH n st l b a q be c) Hc;exact h
def RH(n:Nat)(st:ia)(q:Str)(be:Bool)(e:(q==c0)=be)(a b:List Nat)(d:Line a)(hb:Line b):∃ex,(ja (n+10)).call 60 [.v (.lst [.bytes a,.bytes b]),.v (.str q)] st=some (.ok (.v (.bool true)),st++ex):=by
 obtain ⟨h,r⟩:=Nz (n+6) st 0 a d.1;obtain ⟨c,s⟩:=Oz (n+6) st h true b (Nat.le_trans hb.1 (by decide)) (.inl rfl);obtain ⟨i,t⟩:=Dw (n+6) (st++ [.inst 3 (u8 false c)]) q be e 0 (za 2 a) (Ba d).2 (Ba d).1 (Yd a);obtain ⟨f,u⟩:=Ew (n+6) (st++ [.inst 3 (u8 false c)]) q be e i true b hb.2 (Nat.le_trans hb.1 (by decide)) (.inl rfl);have H:=Ox (n+8) st false;have G:=cH (n+8) (st++ [.inst 3 (u8 false c)]) q;have M:Nb 3 999=true:=rfl;have L:Nb 2 999=true:=rfl;have p:Nb 3 0=true:=rfl;have o:Nb 2 0=true:=rfl;have go:=Sz;have C:∀st',(ja (n+9)).call 28 [.v (.lst [.int 10]),.v (.str q)] st'=some (.ok (.v (.bytes (yc be))),st'):=λst'=>by rw [<-mB];exact Gk (n+4) st' [10] q be e (by decide) (by decide)
 have D:=λst'=>KC (n+8) st' a b (Nat.le_trans d.1 (by decide));have g:jc (.lst [.bytes a,.bytes b]) (-((1:Nat):Int))=some (.bytes b):=rfl;have sl1:Va (.lst [.bytes a,.bytes b]) none (some (-((1:Nat):Int)))=some (.lst [.bytes a]):=rfl;have m:Va (.lst [.bytes (za 2 a),.bytes b]) none (some (-((1:Nat):Int)))=some (.lst [.bytes (za 2 a)]):=rfl;have j:pb (.lst [.bytes a])=some [.bytes a]:=rfl;have l:pb (.lst [.bytes (za 2 a)])=some [.bytes (za 2 a)]:=rfl;have l2:(yc be).length=2:=by induction be<;>rfl
 have v:Ia .Add (.bytes a) (.bytes [10])=some (.bytes (a++ [10])):=sf (by have:=d.1;unfold big;simp;lia);have w:Ia .Add (.bytes (za 2 a)) (.bytes (yc be))=some (.bytes (za 2 a++yc be)):=sf (by have:=(Ba (k:=2) d).1;unfold big;lia);have x:∀st',(ja (n+9)).call 43 [.v (.bytes a)] st'=some (.ok (.v (.lst (RL (R8 a)))),st'):=λst'=>Bk (n+6) st' a (Nat.le_trans d.1 (by decide));have z:∀st',(ja (n+9)).call 32 [.v (.bytes (za 2 a)),.v (.str q)] st'=some (.ok (.v (.lst (RL (xe be (za 2 a))))),st'):=λst'=>gi (n+6) st' (za 2 a) (Nat.le_trans (Ba d).1 (by decide)) (Ba d).2 q be e;have B:Ia .Add (.lst (RL (R8 a))) (.lst [.int 10])=some (.lst (RL (R8 a)++ [.int 10])):=zd (by have:=(Gg d.1).2;unfold lim at this;unfold big;simp;lia);have F:Ia .Add (.lst (RL (xe be (za 2 a)))) (.lst [.int 10])=some (.lst (RL (xe be (za 2 a))++ [.int 10])):=zd (by have:=(Of (be:=be) (Ba (k:=2) d).1).2;unfold lim at this;unfold big;simp;lia);have O:=Ig (eh (Gg d.1));have P:=Ig (eh (Of (be:=be) (Ba (k:=2) d).1));have y:∀st',(ja (n+9)).call 43 [.v (.bytes b)] st'=some (.ok (.v (.lst (RL (R8 b)))),st'):=λst'=>Bk (n+6) st' b (Nat.le_trans hb.1 (by decide));have A:∀st',(ja (n+9)).call 32 [.v (.bytes b),.v (.str q)] st'=some (.ok (.v (.lst (RL (xe be b)))),st'):=λst'=>gi (n+6) st' b (Nat.le_trans hb.1 (by decide)) hb.2 q be e;have mb:=Ig (Gg hb.1).1;have nb:=xn (Of (be:=be) hb.1).1;refine ⟨[.inst 3 (u8 false c),.inst 2 (Ac q f)],?_⟩;rw [show st++ [.inst 3 (u8 false c),.inst 2 (Ac q f)]=st++ [.inst 3 (u8 false c)]++ [.inst 2 (Ac q f)] by rw [append_assoc];rfl];exact Qh [.R 0 H,.F 0 sl1,.L 0 j,.P 0 (go st (.inst 3 (u8 false 0))),.F 0 v,.R 0 r,.R 0 (x (st++ [.inst 3 (u8 false h)])),.F 2 B,.O 0 O,.P 2 (go st (.inst 3 (u8 false h))),.F 0 g,.R 0 s,.F 0 g,.R 0 (y (st++ [.inst 3 (u8 false c)])),.O 0 mb,.R 2 G,.R 2 (C (st++ [.inst 3 (u8 false c)]++ [.inst 2 (Ac q 0)])),.R 0 (D (st++ [.inst 3 (u8 false c)]++ [.inst 2 (Ac q 0)])),.F 0 m,.L 0 l,.P 0 (go (st++ [.inst 3 (u8 false c)]) (.inst 2 (Ac q 0))),.F 0 w,.R 0 t,.R 0 (z (st++ [.inst 3 (u8 false c)]++ [.inst 2 (Ac q i)])),.F 2 F,.O 0 P,.P 2 (go (st++ [.inst 3 (u8 false c)]) (.inst 2 (Ac q i))),.F 0 g,.R 0 u,.F 0 g,.R 0 (A (st++ [.inst 3 (u8 false c)]++ [.inst 2 (Ac q f)])),.O 0 nb]
def SH(n:Nat)(st:ia)(q:Str)(be:Bool)(g:(q==c0)=be)(a b c:List Nat)(e:Line a)(hb:Line b)(f:Line c):∃ex,(ja (n+10)).call 60 [.v (.lst [.bytes a,.bytes b,.bytes c]),.v (.str q)] st=some (.ok (.v (.bool true)),st++ex):=by
 obtain ⟨j,v⟩:=Nz (n+6) st 0 a e.1;obtain ⟨l,w⟩:=Nz (n+6) st j b hb.1;obtain ⟨d,x⟩:=Oz (n+6) st l true c (Nat.le_trans f.1 (by decide)) (.inl rfl);obtain ⟨m,y⟩:=Dw (n+6) (st++ [.inst 3 (u8 false d)]) q be g 0 (za 2 a) (Ba e).2 (Ba e).1 (Yd a);obtain ⟨o,z⟩:=Dw (n+6) (st++ [.inst 3 (u8 false d)]) q be g m (za 2 b) (Ba hb).2 (Ba hb).1 (Yd b);obtain ⟨h,A⟩:=Ew (n+6) (st++ [.inst 3 (u8 false d)]) q be g o true c f.2 (Nat.le_trans f.1 (by decide)) (.inl rfl);have i3:=Ox (n+8) st false;have i2:=cH (n+8) (st++ [.inst 3 (u8 false d)]) q;have im3:Nb 3 999=true:=rfl;have im2:Nb 2 999=true:=rfl;have u:Nb 3 0=true:=rfl;have t:Nb 2 0=true:=rfl;have go:=Sz;have C:∀st',(ja (n+9)).call 28 [.v (.lst [.int 10]),.v (.str q)] st'=some (.ok (.v (.bytes (yc be))),st'):=λst'=>by rw [<-mB];exact Gk (n+4) st' [10] q be g (by decide) (by decide)
 have D:=λst'=>LC (n+8) st' a b c (Nat.le_trans e.1 (by decide)) (Nat.le_trans hb.1 (by decide));have i:jc (.lst [.bytes a,.bytes b,.bytes c]) (-((1:Nat):Int))=some (.bytes c):=rfl;have sl1:Va (.lst [.bytes a,.bytes b,.bytes c]) none (some (-((1:Nat):Int)))=some (.lst [.bytes a,.bytes b]):=rfl;have s:Va (.lst [.bytes (za 2 a),.bytes (za 2 b),.bytes c]) none (some (-((1:Nat):Int)))=some (.lst [.bytes (za 2 a),.bytes (za 2 b)]):=rfl;have p:pb (.lst [.bytes a,.bytes b])=some [.bytes a,.bytes b]:=rfl;have r:pb (.lst [.bytes (za 2 a),.bytes (za 2 b)])=some [.bytes (za 2 a),.bytes (za 2 b)]:=rfl;have l2:(yc be).length=2:=by induction be<;>rfl
 have B:Ia .Add (.bytes a) (.bytes [10])=some (.bytes (a++ [10])):=sf (by have:=e.1;unfold big;simp;lia);have F:Ia .Add (.bytes (za 2 a)) (.bytes (yc be))=some (.bytes (za 2 a++yc be)):=sf (by have:=(Ba (k:=2) e).1;unfold big;lia);have H:∀st',(ja (n+9)).call 43 [.v (.bytes a)] st'=some (.ok (.v (.lst (RL (R8 a)))),st'):=λst'=>Bk (n+6) st' a (Nat.le_trans e.1 (by decide));have O:∀st',(ja (n+9)).call 32 [.v (.bytes (za 2 a)),.v (.str q)] st'=some (.ok (.v (.lst (RL (xe be (za 2 a))))),st'):=λst'=>gi (n+6) st' (za 2 a) (Nat.le_trans (Ba e).1 (by decide)) (Ba e).2 q be g;have W:Ia .Add (.lst (RL (R8 a))) (.lst [.int 10])=some (.lst (RL (R8 a)++ [.int 10])):=zd (by have:=(Gg e.1).2;unfold lim at this;unfold big;simp;lia);have fa:Ia .Add (.lst (RL (xe be (za 2 a)))) (.lst [.int 10])=some (.lst (RL (xe be (za 2 a))++ [.int 10])):=zd (by have:=(Of (be:=be) (Ba (k:=2) e).1).2;unfold lim at this;unfold big;simp;lia);have ma:=Ig (eh (Gg e.1));have na:=Ig (eh (Of (be:=be) (Ba (k:=2) e).1));have ab:Ia .Add (.bytes b) (.bytes [10])=some (.bytes (b++ [10])):=sf (by have:=hb.1;unfold big;simp;lia);have G:Ia .Add (.bytes (za 2 b)) (.bytes (yc be))=some (.bytes (za 2 b++yc be)):=sf (by have:=(Ba (k:=2) hb).1;unfold big;lia);have L:∀st',(ja (n+9)).call 43 [.v (.bytes b)] st'=some (.ok (.v (.lst (RL (R8 b)))),st'):=λst'=>Bk (n+6) st' b (Nat.le_trans hb.1 (by decide));have P:∀st',(ja (n+9)).call 32 [.v (.bytes (za 2 b)),.v (.str q)] st'=some (.ok (.v (.lst (RL (xe be (za 2 b))))),st'):=λst'=>gi (n+6) st' (za 2 b) (Nat.le_trans (Ba hb).1 (by decide)) (Ba hb).2 q be g;have X:Ia .Add (.lst (RL (R8 b))) (.lst [.int 10])=some (.lst (RL (R8 b)++ [.int 10])):=zd (by have:=(Gg hb.1).2;unfold lim at this;unfold big;simp;lia);have fb:Ia .Add (.lst (RL (xe be (za 2 b)))) (.lst [.int 10])=some (.lst (RL (xe be (za 2 b))++ [.int 10])):=zd (by have:=(Of (be:=be) (Ba (k:=2) hb).1).2;unfold lim at this;unfold big;simp;lia);have mb:=Ig (eh (Gg hb.1));have nb:=Ig (eh (Of (be:=be) (Ba (k:=2) hb).1));have M:∀st',(ja (n+9)).call 43 [.v (.bytes c)] st'=some (.ok (.v (.lst (RL (R8 c)))),st'):=λst'=>Bk (n+6) st' c (Nat.le_trans f.1 (by decide));have V:∀st',(ja (n+9)).call 32 [.v (.bytes c),.v (.str q)] st'=some (.ok (.v (.lst (RL (xe be c)))),st'):=λst'=>gi (n+6) st' c (Nat.le_trans f.1 (by decide)) f.2 q be g;have mc:=Ig (Gg f.1).1;have nc:=xn (Of (be:=be) f.1).1;refine ⟨[.inst 3 (u8 false d),.inst 2 (Ac q h)],?_⟩;rw [show st++ [.inst 3 (u8 false d),.inst 2 (Ac q h)]=st++ [.inst 3 (u8 false d)]++ [.inst 2 (Ac q h)] by rw [append_assoc];rfl];exact Qh [.R 0 i3,.F 0 sl1,.L 0 p,.P 0 (go st (.inst 3 (u8 false 0))),.F 0 B,.R 0 v,.R 0 (H (st++ [.inst 3 (u8 false j)])),.F 2 W,.O 0 ma,.P 2 (go st (.inst 3 (u8 false j))),.F 0 ab,.R 0 w,.R 0 (L (st++ [.inst 3 (u8 false l)])),.F 2 X,.O 0 mb,.P 2 (go st (.inst 3 (u8 false l))),.F 0 i,.R 0 x,.F 0 i,.R 0 (M (st++ [.inst 3 (u8 false d)])),.O 0 mc,.R 2 i2,.R 2 (C (st++ [.inst 3 (u8 false d)]++ [.inst 2 (Ac q 0)])),.R 0 (D (st++ [.inst 3 (u8 false d)]++ [.inst 2 (Ac q 0)])),.F 0 s,.L 0 r,.P 0 (go (st++ [.inst 3 (u8 false d)]) (.inst 2 (Ac q 0))),.F 0 F,.R 0 y,.R 0 (O (st++ [.inst 3 (u8 false d)]++ [.inst 2 (Ac q m)])),.F 2 fa,.O 0 na,.P 2 (go (st++ [.inst 3 (u8 false d)]) (.inst 2 (Ac q m))),.F 0 G,.R 0 z,.R 0 (P (st++ [.inst 3 (u8 false d)]++ [.inst 2 (Ac q o)])),.F 2 fb,.O 0 nb,.P 2 (go (st++ [.inst 3 (u8 false d)]) (.inst 2 (Ac q o))),.F 0 i,.R 0 A,.F 0 i,.R 0 (V (st++ [.inst 3 (u8 false d)]++ [.inst 2 (Ac q h)])),.O 0 nc]
def kL(n:Nat)(st:ia)(q:Str)(be:Bool)(e:(q==c0)=be)(f:List (List Nat))(H:qh Line f):∃ex,(ja (n+10)).call 60 [.v (Za f),.v (.str q)] st=some (.ok (.v (.bool true)),st++ex):=by
 rcases H with ⟨a,b,rfl,d,hb⟩|⟨a,b,c,rfl,d,hb,g⟩;·exact RH n st q be e a b d hb
 ·exact SH n st q be e a b c d hb g
def Io{st:ia}(h:st[i]? =some x):st.set i x=st:=by
 apply ext_getElem?;intro m;rcases Nat.decEq i m with a|a;·rw [getElem?_set_ne a]
 ·subst a;obtain ⟨b,_⟩:=List.getElem?_eq_some_iff.mp h;rw [getElem?_set_self b,h]
def kg{st:ia}(h:st[i]? =some x):i<st.length:=(List.getElem?_eq_some_iff.mp h).1
def Ld{st ex:ia}{i:Nat}(h:st[i]? =some x):(st++ex)[i]? =some x:=by rw [getElem?_append_left (kg h)];exact h
def get_set{st:ia}(h:st[j]? =some x)(a:j≠i):(st.set i y)[j]? =some x:=by rw [getElem?_set_ne (Ne.symm a)];exact h
def isOk(x:Except Er (List FV)):Bool:=match x with| .ok a=>true| .error a=>false
def jg(T:Int)(a:Bool)(x:Except Er (List FV)):FV:=match x with| .error e=> .tup [.lst [],.int (T+e)]| .ok F=> .tup [.lst (br a F (F++ [.int 10])),.none]
def YR(x:Except Er (List FV)):Except Er (List FV):=match x with| .ok F=> .ok (F++ [.int 10])| .error e=> .error e
def BQ(l:List Nat):sc Wb 0 (64,none) (l++ [10])=match Qe l with| .ok F=> .ok (F++ [.int 10],(64,none))| .error e=> .error e:=by
 unfold Qe;rw [VG yR (λs o r=>bz _ s o r) l.length 0 (64,none) l (Nat.le_refl _)];induction sc Wb 0 (64,none) l with
 |error e=>rfl|ok x=>
  obtain ⟨f,p,b⟩:=x;simp only [join];induction b with
  |some c=>obtain ⟨m,d,a⟩:=c;rw [fg (HR p m d a _)];simp only [pre,Yh];refine congrArg Except.error (?_:(_:Int)=_);show (_:Int)=_;lia
  |none=>rw [Ud (zV p []),drop_zero,Ck];rfl
def u5(n i j:Nat)(st:ia)(T:Int)(fs:List (Nat×AV))(g:st[i]? =some (.inst 0 fs))(d:st[j]? =some (.inst 1 [(9,.o i)]))(o:Tv T (64,none) fs)(c:Bool)(l:List Nat)(m:Line l):
  ∃b,(c=false->isOk (Qe l)=true->Tv (T+(l.length+1)) (64,none) b)/\(ja (n+7)).call 62 [.o j,.v (.bytes (br c l (l++ [10]))),.v (.bool c)] st=some (.ok (.v (jg T c (Qe l))),st.set i (.inst 0 b)):=by
 have p:j≠i:=λe=>by subst e;rw [g] at d;cases d
 have t1:= @Cz;have t2:= @lA;have t3:= @kA;have im:Nb 1 0=true:=rfl;have Ii:Rb [10]:=by show ∀x∈_,x<256;decide
 induction c with
 |false=>
  have h:=Mx n i j st (kg g) (λX=>get_set d p) false (l++ [10]) T (64,none) fs (Nc m.2 Ii) o (by rw [length_append];have:=m.1;unfold lim;simp;lia);rw [Io g,show T=T+0 from (Int.add_zero T).symm,Av T _ 0 _ _ (Nat.le_refl _),BQ,Int.add_zero] at h;simp only [br] at h|-;induction q:Qe l with
  |ok F=>rw [q] at h;simp only [sh] at h;obtain ⟨b,k,h⟩:=h;rw [length_append,length_singleton] at k;refine ⟨b,λa a=>k,?_⟩;simp only [jg,br];exact xa [.P 0 d,.R 0 h]
  |error e=>rw [q] at h;simp only [sh] at h;obtain ⟨w,b,h⟩:=h;refine ⟨b,(λa h=>nomatch h),?_⟩;simp only [jg];exact xa [.P 0 d,.R 0 h]
 |true=>
  have h:=Mx n i j st (kg g) (λX=>get_set d p) true l T (64,none) fs m.2 o (by have:=m.1;unfold lim;lia);rw [Io g,show T=T+0 from (Int.add_zero T).symm,Av T _ 0 _ _ (Nat.le_refl _),Int.add_zero] at h;unfold Qe;simp only [br] at h|-;induction q:sc Wb 0 (64,none) l with
  |error e=>rw [q] at h;simp only [sh] at h;obtain ⟨w,b,h⟩:=h;refine ⟨b,(λh=>nomatch h),?_⟩;simp only [jg];exact xa [.P 0 d,.R 0 h]
  |ok x=>
   obtain ⟨r,s'⟩:=x;rw [q] at h;simp only [sh] at h;induction q2:Yh s' with
   |none=>rw [q2] at h;obtain ⟨b,_,h⟩:=h;refine ⟨b,(λh=>nomatch h),?_⟩;simp only [jg,q2,br];exact xa [.P 0 d,.R 0 h]
   |some f=>rw [q2] at h;obtain ⟨w,b,h⟩:=h;refine ⟨b,(λh=>nomatch h),?_⟩;simp only [jg,q2];rw [show T+((l.length:Int)-f)=T+l.length-f by lia];exact xa [.P 0 d,.R 0 h]
def pV(l:List Nat):D8 (l++ [10])=YR (D8 l):=by have h:=SV l [];rw [show l++ [10]=l++([10]++ []) from rfl,h];induction D8 l<;>rfl
def n5(n i:Nat)(st:ia)(T:Int)(d:st[i]? =some (.inst 3 (u8 true T)))(b:Bool)(l:List Nat)(t:Line l):
  ∃k,(b=false->isOk (D8 l)=true->k=T+(l.length+1))/\(ja (n+4)).call 62 [.o i,.v (.bytes (br b l (l++ [10]))),.v (.bool b)] st=some (.ok (.v (jg T b (D8 l))),st.set i (.inst 3 (u8 true k))):=by
 have t1:= @Cz;have t2:= @lA;have t3:= @kA;have im:Nb 3 0=true:=rfl;have r:=Io d;have o:(br b l (l++ [10])).length<=lim:=by induction b<;>(simp only [br];have:=t.1;unfold lim;simp;lia)
 have h:=aH n i st (kg d) true T b (br b l (l++ [10])) o (by induction b with|true=>exact .inl rfl|false=>exact .inr (Zv l));rw [r,show cz true T=vk T Ce from rfl,nN T _ 0 () _ (Nat.le_refl _)] at h;have c:res (sc Ce 0 () (br b l (l++ [10])))=br b (D8 l) (YR (D8 l)):=by induction b with|true=>rfl|false=>exact pV l
 generalize u:br b l (l++ [10])=p at h c o|-;have j:b=false->(p.length:Int)=l.length+1:=λe=>by subst e;rw [<-u];simp only [br];rw [length_append];rfl
 induction q:sc Ce 0 () p with
 |error e=>
  rw [q] at h c;obtain ⟨w,h⟩:=h;have f:D8 l= .error e:=by induction b with|true=>exact c.symm|false=>induction q2:D8 l with|ok F=>rw [q2] at c;injection c|error s=>rw [q2] at c;simp only [res,br,YR] at c;(injection c with c;subst c);rfl
  rw [f];refine ⟨T,(λa h=>nomatch h),?_⟩;rw [r];simp only [jg];exact xa [.P 0 d,.R 0 h]
 |ok x=>
  obtain ⟨m,s'⟩:=x;rw [q] at h c;refine ⟨br b 0 (T+p.length),(λe a=>by subst e;rw [<-j rfl];rfl),?_⟩;have g:jg T b (D8 l)= .tup [.lst m,.none]:=by induction b with|true=>rw [<-show res (.ok (m,s'))=D8 l from c];rfl|false=>induction q2:D8 l with|ok F=>rw [q2] at c;simp only [res,br,YR] at c;(injection c with c;subst c);rfl|error s=>rw [q2] at c;injection c
  rw [g];simp only [sh,pz] at h;exact xa [.P 0 d,.R 0 h]
def sW(n j k:Nat)(st ex st':ia)(v g:FV)(T:Int)(y w a:Bool)(l p:List Nat)(s t u:Slot)(D:Except Er (List FV))(h:zh D)(d:(ja (n+9)).call 54 [.v (.bytes l),.v (.int 5),.v (.str c0)] st=some (.ok (.v (te D)),st++ex)) (c:(ja (n+9)).call 62 [.o j,.v (.bytes p),.v (.bool a)] (st++ex)=some (.ok (.v (jg T a D)),st')) (z:w=true):
  ∃o q r,ua (ja (n+9)) 2000 (.ifs (.var 5) (.seq (.unp [.v 10,.v 11] (.call 54 (.cons (.var 7) (.cons (.cst (.int 5)) (.cons (.cst (.str c0)) .nil))))) (.seq (.asg 12 (.ite (.cmp .IsNot (.var 11) (.cst .none)) (.tup (.cons (.lst .nil) (.cons (.bin .Add (.var 4) (.var 11)) .nil))) (.tup (.cons (.bin .Add (.var 10) (.ite (.var 8) (.lst .nil) (.lst (.cons (.glob 57) .nil)))) (.cons (.cst .none) .nil))))) (.seq (.ifs (.cmp .NotEq (.call 62 (.cons (.var 1) (.cons (.var 9) (.cons (.var 8) .nil)))) (.var 12)) (.seq (.ret (.cst (.bool false))) .skip) .skip) (.seq (.asg 5 (.cmp .Is (.var 11) (.cst .none))) .skip)))) .skip) [.a (.v v),.a (.o j),.a (.o k),.a (.v (.bool y)),.a (.v (.int T)),.a (.v (.bool w)),.a (.v g),.a (.v (.bytes l)),.a (.v (.bool a)),.a (.v (.bytes p)),s,t,u] st=some (.next,[.a (.v v),.a (.o j),.a (.o k),.a (.v (.bool y)),.a (.v (.int T)),.a (.v (.bool (isOk D))),.a (.v g),.a (.v (.bytes l)),.a (.v (.bool a)),.a (.v (.bytes p)),o,q,r],st'):=by
 subst z;induction D with
 |error e=>
  have b:=Vo (T+e);have f:yb .NotEq (.tup [.lst [],.int (T+e)]) (.tup [.lst [],.int (T+e)])=some false:=by simp only [yb] at b|-;rw [b];rfl
  simp only [te,jg] at d c;have A:∀k:Int,isNone (.int k)=false:=λx=>rfl;have m:∀st',Am (some (.ok [],st'))=some (.ok (.v (.lst [])),st'):=λx=>rfl;simp only [isOk];refine ⟨.a (.v (.lst [])),.a (.v (.int e)),.a (.v (.tup [.lst [],.int (T+e)])),?_⟩;exact bc [.R 1 d,.R 6 c,.O 0 f]
 |ok F=>
  induction a with
  |true=>
   have b:=iv h.1;have f:yb .NotEq (.tup [.lst F,.none]) (.tup [.lst F,.none])=some false:=by simp only [yb] at b|-;rw [b];rfl
   have i:Ia .Add (.lst F) (.lst [])=some (.lst F):=by rw [zd (by have:=h.2;unfold lim at this;unfold big;simp;lia),append_nil]
   have m:∀st',Am (some (.ok [],st'))=some (.ok (.v (.lst [])),st'):=λx=>rfl;simp only [te,jg,br] at d c;simp only [isOk];refine ⟨.a (.v (.lst F)),.a (.v .none),.a (.v (.tup [.lst F,.none])),?_⟩;exact bc [.R 1 d,.F 5 i,.R 1 c,.O 0 f]
  |false=>
   have b:=iv (F:=F++ [.int 10]) (eh h);have f:yb .NotEq (.tup [.lst (F++ [.int 10]),.none]) (.tup [.lst (F++ [.int 10]),.none])=some false:=by simp only [yb] at b|-;rw [b];rfl
   have i:Ia .Add (.lst F) (.lst [.int 10])=some (.lst (F++ [.int 10])):=by rw [zd (by have:=h.2;unfold lim at this;unfold big;simp;lia)]
   simp only [te,jg,br] at d c;simp only [isOk];refine ⟨.a (.v (.lst F)),.a (.v .none),.a (.v (.tup [.lst (F++ [.int 10]),.none])),?_⟩;exact bc [.R 1 d,.F 6 i,.R 1 c,.O 0 f]
def sM(n j k:Nat)(st:ia)(g b:FV)(T:Int)(h f a:Bool)(l p:List Nat)(c d e:Slot)(i:f=false):ua (ja (n+9)) 2000 (.ifs (.var 5) (.seq (.unp [.v 10,.v 11] (.call 54 (.cons (.var 7) (.cons (.cst (.int 5)) (.cons (.cst (.str c0)) .nil))))) (.seq (.asg 12 (.ite (.cmp .IsNot (.var 11) (.cst .none)) (.tup (.cons (.lst .nil) (.cons (.bin .Add (.var 4) (.var 11)) .nil))) (.tup (.cons (.bin .Add (.var 10) (.ite (.var 8) (.lst .nil) (.lst (.cons (.glob 57) .nil)))) (.cons (.cst .none) .nil))))) (.seq (.ifs (.cmp .NotEq (.call 62 (.cons (.var 1) (.cons (.var 9) (.cons (.var 8) .nil)))) (.var 12)) (.seq (.ret (.cst (.bool false))) .skip) .skip) (.seq (.asg 5 (.cmp .Is (.var 11) (.cst .none))) .skip)))) .skip) [.a (.v g),.a (.o j),.a (.o k),.a (.v (.bool h)),.a (.v (.int T)),.a (.v (.bool f)),.a (.v b),.a (.v (.bytes l)),.a (.v (.bool a)),.a (.v (.bytes p)),c,d,e] st=some (.next,[.a (.v g),.a (.o j),.a (.o k),.a (.v (.bool h)),.a (.v (.int T)),.a (.v (.bool f)),.a (.v b),.a (.v (.bytes l)),.a (.v (.bool a)),.a (.v (.bytes p)),c,d,e],st):=by subst i;exact bc []
def rW(n j k:Nat)(st ex st':ia)(v g:FV)(T:Int)(y w a:Bool)(l p:List Nat)(s t u:Slot)(D:Except Er (List FV))(h:zh D)(d:(ja (n+9)).call 54 [.v (.bytes l),.v (.int 0),.v (.str c0)] st=some (.ok (.v (te D)),st++ex)) (c:(ja (n+9)).call 62 [.o k,.v (.bytes p),.v (.bool a)] (st++ex)=some (.ok (.v (jg T a D)),st')) (z:y=true):
  ∃o q r,ua (ja (n+9)) 2000 (.ifs (.var 3) (.seq (.unp [.v 10,.v 11] (.call 54 (.cons (.var 7) (.cons (.cst (.int 0)) (.cons (.cst (.str c0)) .nil))))) (.seq (.asg 12 (.ite (.cmp .IsNot (.var 11) (.cst .none)) (.tup (.cons (.lst .nil) (.cons (.bin .Add (.var 4) (.var 11)) .nil))) (.tup (.cons (.bin .Add (.var 10) (.ite (.var 8) (.lst .nil) (.lst (.cons (.glob 57) .nil)))) (.cons (.cst .none) .nil))))) (.seq (.ifs (.cmp .NotEq (.call 62 (.cons (.var 2) (.cons (.var 9) (.cons (.var 8) .nil)))) (.var 12)) (.seq (.ret (.cst (.bool false))) .skip) .skip) (.seq (.asg 3 (.cmp .Is (.var 11) (.cst .none))) .skip)))) .skip) [.a (.v v),.a (.o j),.a (.o k),.a (.v (.bool y)),.a (.v (.int T)),.a (.v (.bool w)),.a (.v g),.a (.v (.bytes l)),.a (.v (.bool a)),.a (.v (.bytes p)),s,t,u] st=some (.next,[.a (.v v),.a (.o j),.a (.o k),.a (.v (.bool (isOk D))),.a (.v (.int T)),.a (.v (.bool w)),.a (.v g),.a (.v (.bytes l)),.a (.v (.bool a)),.a (.v (.bytes p)),o,q,r],st'):=by
 subst z;induction D with
 |error e=>
  have b:=Vo (T+e);have f:yb .NotEq (.tup [.lst [],.int (T+e)]) (.tup [.lst [],.int (T+e)])=some false:=by simp only [yb] at b|-;rw [b];rfl
  simp only [te,jg] at d c;have A:∀k:Int,isNone (.int k)=false:=λx=>rfl;have m:∀st',Am (some (.ok [],st'))=some (.ok (.v (.lst [])),st'):=λx=>rfl;simp only [isOk];refine ⟨.a (.v (.lst [])),.a (.v (.int e)),.a (.v (.tup [.lst [],.int (T+e)])),?_⟩;exact bc [.R 1 d,.R 6 c,.O 0 f]
 |ok F=>
  induction a with
  |true=>
   have b:=iv h.1;have f:yb .NotEq (.tup [.lst F,.none]) (.tup [.lst F,.none])=some false:=by simp only [yb] at b|-;rw [b];rfl
   have i:Ia .Add (.lst F) (.lst [])=some (.lst F):=by rw [zd (by have:=h.2;unfold lim at this;unfold big;simp;lia),append_nil]
   have m:∀st',Am (some (.ok [],st'))=some (.ok (.v (.lst [])),st'):=λx=>rfl;simp only [te,jg,br] at d c;simp only [isOk];refine ⟨.a (.v (.lst F)),.a (.v .none),.a (.v (.tup [.lst F,.none])),?_⟩;exact bc [.R 1 d,.F 5 i,.R 1 c,.O 0 f]
  |false=>
   have b:=iv (F:=F++ [.int 10]) (eh h);have f:yb .NotEq (.tup [.lst (F++ [.int 10]),.none]) (.tup [.lst (F++ [.int 10]),.none])=some false:=by simp only [yb] at b|-;rw [b];rfl
   have i:Ia .Add (.lst F) (.lst [.int 10])=some (.lst (F++ [.int 10])):=by rw [zd (by have:=h.2;unfold lim at this;unfold big;simp;lia)]
   simp only [te,jg,br] at d c;simp only [isOk];refine ⟨.a (.v (.lst F)),.a (.v .none),.a (.v (.tup [.lst (F++ [.int 10]),.none])),?_⟩;exact bc [.R 1 d,.F 6 i,.R 1 c,.O 0 f]
def qM(n j k:Nat)(st:ia)(g b:FV)(T:Int)(f h a:Bool)(l p:List Nat)(c d e:Slot)(i:f=false):ua (ja (n+9)) 2000 (.ifs (.var 3) (.seq (.unp [.v 10,.v 11] (.call 54 (.cons (.var 7) (.cons (.cst (.int 0)) (.cons (.cst (.str c0)) .nil))))) (.seq (.asg 12 (.ite (.cmp .IsNot (.var 11) (.cst .none)) (.tup (.cons (.lst .nil) (.cons (.bin .Add (.var 4) (.var 11)) .nil))) (.tup (.cons (.bin .Add (.var 10) (.ite (.var 8) (.lst .nil) (.lst (.cons (.glob 57) .nil)))) (.cons (.cst .none) .nil))))) (.seq (.ifs (.cmp .NotEq (.call 62 (.cons (.var 2) (.cons (.var 9) (.cons (.var 8) .nil)))) (.var 12)) (.seq (.ret (.cst (.bool false))) .skip) .skip) (.seq (.asg 3 (.cmp .Is (.var 11) (.cst .none))) .skip)))) .skip) [.a (.v g),.a (.o j),.a (.o k),.a (.v (.bool f)),.a (.v (.int T)),.a (.v (.bool h)),.a (.v b),.a (.v (.bytes l)),.a (.v (.bool a)),.a (.v (.bytes p)),c,d,e] st=some (.next,[.a (.v g),.a (.o j),.a (.o k),.a (.v (.bool f)),.a (.v (.int T)),.a (.v (.bool h)),.a (.v b),.a (.v (.bytes l)),.a (.v (.bool a)),.a (.v (.bytes p)),c,d,e],st):=by subst i;exact bc []
def zv(A B:S):S:=(.seq (.asg 8 (.cmp .Eq (.bin .Add (.var 6) (.cst (.int 1))) (.len (.var 0)))) (.seq (.asg 9 (.ite (.var 8) (.var 7) (.bin .Add (.var 7) (.cst (.bytes [10]))))) (.seq A (.seq B (.seq (.asg 4 (.bin .Add (.var 4) (.len (.var 9)))) .skip)))))
def UG:S:=(.ifs (.var 5) (.seq (.unp [.v 10,.v 11] (.call 54 (.cons (.var 7) (.cons (.cst (.int 5)) (.cons (.cst (.str c0)) .nil))))) (.seq (.asg 12 (.ite (.cmp .IsNot (.var 11) (.cst .none)) (.tup (.cons (.lst .nil) (.cons (.bin .Add (.var 4) (.var 11)) .nil))) (.tup (.cons (.bin .Add (.var 10) (.ite (.var 8) (.lst .nil) (.lst (.cons (.glob 57) .nil)))) (.cons (.cst .none) .nil))))) (.seq (.ifs (.cmp .NotEq (.call 62 (.cons (.var 1) (.cons (.var 9) (.cons (.var 8) .nil)))) (.var 12)) (.seq (.ret (.cst (.bool false))) .skip) .skip) (.seq (.asg 5 (.cmp .Is (.var 11) (.cst .none))) .skip)))) .skip)
def RG:S:=(.ifs (.var 3) (.seq (.unp [.v 10,.v 11] (.call 54 (.cons (.var 7) (.cons (.cst (.int 0)) (.cons (.cst (.str c0)) .nil))))) (.seq (.asg 12 (.ite (.cmp .IsNot (.var 11) (.cst .none)) (.tup (.cons (.lst .nil) (.cons (.bin .Add (.var 4) (.var 11)) .nil))) (.tup (.cons (.bin .Add (.var 10) (.ite (.var 8) (.lst .nil) (.lst (.cons (.glob 57) .nil)))) (.cons (.cst .none) .nil))))) (.seq (.ifs (.cmp .NotEq (.call 62 (.cons (.var 2) (.cons (.var 9) (.cons (.var 8) .nil)))) (.var 12)) (.seq (.ret (.cst (.bool false))) .skip) .skip) (.seq (.asg 3 (.cmp .Is (.var 11) (.cst .none))) .skip)))) .skip)
def MD(i j:Nat)(T:Int)(st:ia):Prop:=st[j]? =some (.inst 1 [(9,.o i)])/\∃fs,st[i]? =some (.inst 0 fs)/\Tv T (64,none) fs
def rB(k:Nat)(T:Int)(st:ia):Prop:=st[k]? =some (.inst 3 (u8 true T))
def oz(P:Nat->Prop)(st st':ia):Prop:=∀m x,P m->st[m]? =some x->st'[m]? =some x
def pc(a:Bool)(l:List Nat):List Nat:=br a l (l++ [10])
noncomputable abbrev Vf(e:FV)(j k:Nat)(g:Bool)(T:Int)(f:Bool)(a:FV)(l:List Nat)(h i b c d:Slot):List Slot:= [.a (.v e),.a (.o j),.a (.o k),.a (.v (.bool g)),.a (.v (.int T)),.a (.v (.bool f)),.a (.v a),.a (.v (.bytes l)),h,i,b,c,d]
def x4(n i j k:Nat)(st:ia)(r b:FV)(T:Int)(t u a:Bool)(l:List Nat)(s:Line l)(c d f:Slot)(h:u=true->MD i j T st)(z:i≠j):
  ∃q st' g o p,ua (ja (n+9)) 2000 UG (Vf r j k t T u b l (.a (.v (.bool a))) (.a (.v (.bytes (pc a l)))) c d f) st=some (.next,Vf r j k t T q b l (.a (.v (.bool a))) (.a (.v (.bytes (pc a l)))) g o p,st')/\(a=false->q=true->MD i j (T+(l.length+1)) st')/\oz (·≠i) st st':=by
 induction u with
 |false=>exact ⟨false,st,c,d,f,sM n j k st r b T t false a l (pc a l) c d f rfl,(λy h=>nomatch h),λy y y h=>h⟩|true=>
  obtain ⟨B,fs,A,D⟩:=h rfl;obtain ⟨ex,F⟩:=Cg n st l (by have:=s.1;unfold lim;lia) s.2 c0 true (by decide) 5 (by decide);obtain ⟨v,w,C⟩:=u5 (n+2) i j (st++ex) T fs (Ld A) (Ld B) D a l s;obtain ⟨g,o,p,e⟩:=sW n j k st ex _ r b T t true a l (pc a l) c d f (Qe l) (Oj true l (by have:=s.1;unfold lim;lia) 5 (by decide)) F C rfl;refine ⟨isOk (Qe l),_,g,o,p,e,λG L=>⟨?_,v,?_,w G L⟩,λm x H M=> ?_⟩;·exact get_set (Ld B) (Ne.symm z)
  ·rw [getElem?_set_self (kg (Ld A))]
  ·exact get_set (Ld M) H
def u4(n j k:Nat)(st:ia)(q b:FV)(T:Int)(t r a:Bool)(l:List Nat)(s:Line l)(c d f:Slot)(h:t=true->rB k T st):
  ∃p st' g i o,ua (ja (n+9)) 2000 RG (Vf q j k t T r b l (.a (.v (.bool a))) (.a (.v (.bytes (pc a l)))) c d f) st=some (.next,Vf q j k p T r b l (.a (.v (.bool a))) (.a (.v (.bytes (pc a l)))) g i o,st')/\(a=false->p=true->rB k (T+(l.length+1)) st')/\oz (·≠k) st st':=by
 induction t with
 |false=>exact ⟨false,st,c,d,f,qM n j k st q b T false r a l (pc a l) c d f rfl,(λy h=>nomatch h),λy y y h=>h⟩|true=>
  have u:_=_:=h rfl;obtain ⟨ex,z⟩:=Cg n st l (by have:=s.1;unfold lim;lia) s.2 c0 true (by decide) 0 (by decide);obtain ⟨F,w,v⟩:=n5 (n+5) k (st++ex) T (Ld u) a l s;obtain ⟨g,i,o,e⟩:=rW n j k st ex _ q b T true r a l (pc a l) c d f (D8 l) (Oj true l (by have:=s.1;unfold lim;lia) 0 (by decide)) z v rfl;refine ⟨isOk (D8 l),_,g,i,o,e,λA C=> ?_,λm x B D=> ?_⟩;·rw [<-w A C];unfold rB;rw [getElem?_set_self (kg (Ld u))]
  ·exact get_set (Ld D) B
def jm{st c:ia}(h:ua O N a sl st=some (.next,sl1,c))(k:ua O N b sl1 c=r):ua O N (.seq a b) sl st=r:=by show Ko O N b (ua O N a sl st)=r;rw [h];exact k
def haa(n j k:Nat)(A B:S)(st m o:ia)(c:FV)(N b T:Int)(h v i d a:Bool)(l:List Nat)(x:Line l)(F z e f g s t u p q r:Slot)(H:Rg c=some (.int N))(y:((b+1:Int)==N)=a)(hA:ua (ja (n+9)) 2000 A (Vf c j k h T v (.int b) l (.a (.v (.bool a))) (.a (.v (.bytes (pc a l)))) e f g) st=some (.next,Vf c j k h T d (.int b) l (.a (.v (.bool a))) (.a (.v (.bytes (pc a l)))) s t u,m))(D:ua (ja (n+9)) 2000 B (Vf c j k h T d (.int b) l (.a (.v (.bool a))) (.a (.v (.bytes (pc a l)))) s t u) m=some (.next,Vf c j k i T d (.int b) l (.a (.v (.bool a))) (.a (.v (.bytes (pc a l)))) p q r,o)):
  ua (ja (n+9)) 2000 (zv A B) (Vf c j k h T v (.int b) l F z e f g) st=some (.next,Vf c j k i (T+(pc a l).length) d (.int b) l (.a (.v (.bool a))) (.a (.v (.bytes (pc a l)))) p q r,o):=by
 have C:ua (ja (n+9)) 2000 (.asg 8 (.cmp .Eq (.bin .Add (.var 6) (.cst (.int 1))) (.len (.var 0)))) (Vf c j k h T v (.int b) l F z e f g) st=some (.next,Vf c j k h T v (.int b) l (.a (.v (.bool a))) z e f g,st):=by subst y;exact bc [.F 1 H]
 induction a with|true=>have w:=Oc (l:=l) (by have:=x.1;unfold big;lia);exact jm C (jm (bc []) (jm hA (jm D (bc [.F 0 w]))))|false=>have G:Ia .Add (.bytes l) (.bytes [10])=some (.bytes (l++ [10])):=sf (by have:=x.1;unfold big;simp;lia);have w:=Oc (l:=l++ [10]) (by have:=x.1;unfold big;simp;lia);exact jm C (jm (bc [.F 1 G]) (jm hA (jm D (bc [.F 0 w]))))
def turn(n i j k:Nat)(st:ia)(o:FV)(N c T:Int)(q A a:Bool)(l:List Nat)(B:Line l)(P V e f g:Slot)(C:i≠j)(p:i≠k)(D:j≠k)(hN:Rg o=some (.int N))(G:((c+1:Int)==N)=a)(hB:A=true->MD i j T st) (h8:q=true->rB k T st):
  ∃d b st' w8 w9 H L M,ua (ja (n+9)) 2000 (zv UG RG) (Vf o j k q T A (.int c) l P V e f g) st=some (.next,Vf o j k d (T+(pc a l).length) b (.int c) l w8 w9 H L M,st')/\(a=false->(b=true->MD i j (T+(pc a l).length) st')/\(d=true->rB k (T+(pc a l).length) st'))/\oz (λm=>m≠i/\m≠k) st st':=by
 obtain ⟨b,r,w,y,z,W,f1,k1⟩:=x4 n i j k st o (.int c) T q A a l B e f g hB C;obtain ⟨d,s,t,u,v,X,f2,k2⟩:=u4 n j k r o (.int c) T q b a l B w y z (λh=>k1 k _ (Ne.symm p) (h8 h));refine ⟨d,b,s,_,_,t,u,v,haa n j k UG RG st r s o N c T q A d b a l B P V e f g w y z t u v hN G W X,λF=> ?_,λm x O hx=>k2 m x O.2 (k1 m x O.1 hx)⟩;have hp:((pc a l).length:Int)=l.length+1:=by subst F;show ((l++ [10]).length:Int)=_;rw [length_append];rfl
 rw [hp];refine ⟨λhe=> ?_,f2 F⟩;obtain ⟨h2,fs,h1,hR⟩:=f1 F he;exact ⟨k2 j _ D h2,fs,k2 i _ p h1,hR⟩
def QZ(n i j k:Nat)(st:ia)(a b:List Nat)(ha:Line a)(hb:Line b)(c:i≠j)(d:i≠k)(e:j≠k)(hB:MD i j 0 st)(h8:rB k 0 st):
  ∃sl' st',runs (ua (ja (n+9)) 2000 (zv UG RG)) [6,7] (numbered 0 [.bytes a,.bytes b]) [.a (.v (Za [a,b])),.a (.o j),.a (.o k),.a (.v (.bool true)),.a (.v (.int 0)),.a (.v (.bool true)),.u,.u,.u,.u,.u,.u,.u] st=some (.next,sl',st')/\oz (λm=>m≠i/\m≠k) st st':=by
 have V:Rg (Za [a,b])=some (.int 2):=rfl;obtain ⟨A,v,C,F,H,f,h,o,e0,P,k0⟩:=turn n i j k st (Za [a,b]) 2 0 (0) true true false a ha .u .u .u .u .u c d e V (by decide) (λz=>hB) (λz=>h8);obtain ⟨B,w,D,G,L,g,l,p,e1,f1,k1⟩:=turn n i j k C (Za [a,b]) 2 1 (0+(pc false a).length) A v true b hb F H f h o c d e V (by decide) (P rfl).1 (P rfl).2;refine ⟨Vf (Za [a,b]) j k B (0+(pc false a).length+(pc true b).length) w (.int 1) b G L g l p,D,?_,λm x W hx=>(k1 m x W (k0 m x W hx))⟩;have u:∀(y:Int) (x:List Nat) (M:FV) (X O:Bool) (T:Int) (z6 z7 z8 z9 q s t:Slot),bindL [6,7] (.tup [.int y,.bytes x]) [.a (.v M),.a (.o j),.a (.o k),.a (.v (.bool X)),.a (.v (.int T)),.a (.v (.bool O)),z6,z7,z8,z9,q,s,t]=some (Vf M j k X T O (.int y) x z8 z9 q s t):=λz z z z z z z z z z z z z=>rfl;have r:numbered 0 [.bytes a,.bytes b]= [.tup [.int 0,.bytes a],.tup [.int 1,.bytes b]]:=rfl;rw [r];simp only [runs,ai,u,e0,e1]
def RZ(n i j k:Nat)(st:ia)(a b c:List Nat)(ha:Line a)(hb:Line b)(hc:Line c)(d:i≠j)(e:i≠k)(f:j≠k)(hB:MD i j 0 st)(h8:rB k 0 st):
  ∃sl' st',runs (ua (ja (n+9)) 2000 (zv UG RG)) [6,7] (numbered 0 [.bytes a,.bytes b,.bytes c]) [.a (.v (Za [a,b,c])),.a (.o j),.a (.o k),.a (.v (.bool true)),.a (.v (.int 0)),.a (.v (.bool true)),.u,.u,.u,.u,.u,.u,.u] st=some (.next,sl',st')/\oz (λm=>m≠i/\m≠k) st st':=by
 have G:Rg (Za [a,b,c])=some (.int 3):=rfl;obtain ⟨L,C,P,X,w90,g,o,s,e0,f0,k0⟩:=turn n i j k st (Za [a,b,c]) 3 0 (0) true true false a ha .u .u .u .u .u d e f G (by decide) (λz=>hB) (λz=>h8);obtain ⟨M,D,V,w81,w91,h,p,t,e1,f1,k1⟩:=turn n i j k P (Za [a,b,c]) 3 1 (0+(pc false a).length) L C false b hb X w90 g o s d e f G (by decide) (f0 rfl).1 (f0 rfl).2;obtain ⟨O,F,W,w82,w92,l,q,u,e2,f2,k2⟩:=turn n i j k V (Za [a,b,c]) 3 2 (0+(pc false a).length+(pc false b).length) M D true c hc w81 w91 h p t d e f G (by decide) (f1 rfl).1 (f1 rfl).2;refine ⟨Vf (Za [a,b,c]) j k O (0+(pc false a).length+(pc false b).length+(pc true c).length) F (.int 2) c w82 w92 l q u,W,?_,λm x H hx=>(k2 m x H (k1 m x H (k0 m x H hx)))⟩;have B:∀(y:Int) (x:List Nat) (LL:FV) (nr ev:Bool) (T:Int) (z6 z7 z8 z9 v w A:Slot),bindL [6,7] (.tup [.int y,.bytes x]) [.a (.v LL),.a (.o j),.a (.o k),.a (.v (.bool nr)),.a (.v (.int T)),.a (.v (.bool ev)),z6,z7,z8,z9,v,w,A]=some (Vf LL j k nr T ev (.int y) x z8 z9 v w A):=λz z z z z z z z z z z z z=>rfl;have r:numbered 0 [.bytes a,.bytes b,.bytes c]= [.tup [.int 0,.bytes a],.tup [.int 1,.bytes b],.tup [.int 2,.bytes c]]:=rfl;rw [r];simp only [runs,ai,B,e0,e1,e2]
def ZI(n:Nat)(st st':ia)(a:FV)(b:List FV)(sl':List Slot)(d:Dz a=some b)(c:runs (ua (ja (n+9)) 2000 (zv UG RG)) [6,7] b [.a (.v a),.a (.o st.length),.a (.o (st++ [PO.inst 1 [(9,.o (st.length+1))],PO.inst 0 (rd 64 0 0 0 0)]).length),.a (.v (.bool true)),.a (.v (.int 0)),.a (.v (.bool true)),.u,.u,.u,.u,.u,.u,.u] (st++ [PO.inst 1 [(9,.o (st.length+1))],PO.inst 0 (rd 64 0 0 0 0)]++ [PO.inst 3 (u8 true 0)])=some (.next,sl',st')):(ja (n+10)).call 61 [.v a] st=some (.ok (.v (.bool true)),st'):=by have e:=bH (n+7) st;have f:=Ox (n+8) (st++ [PO.inst 1 [(9,.o (st.length+1))],PO.inst 0 (rd 64 0 0 0 0)]) true;have g:Nb 1 999=true:=rfl;have h:Nb 3 999=true:=rfl;unfold zv UG RG at c;exact xa [.R 0 e,.R 0 f,.L 0 d,.S 0 c]
def QH(n:Nat)(st:ia)(l:List (List Nat))(H:qh Line l):∃st',(ja (n+10)).call 61 [.v (Za l)] st=some (.ok (.v (.bool true)),st')/\oz (λy=>True) st st':=by
 have d:st.length+1≠st.length:=by lia
 have p:(st++ [PO.inst 1 [(9,.o (st.length+1))],PO.inst 0 (rd 64 0 0 0 0)]).length=st.length+2:=by rw [length_append];rfl
 have f:st.length+1≠(st++ [PO.inst 1 [(9,.o (st.length+1))],PO.inst 0 (rd 64 0 0 0 0)]).length:=by lia
 have g:st.length≠(st++ [PO.inst 1 [(9,.o (st.length+1))],PO.inst 0 (rd 64 0 0 0 0)]).length:=by lia
 have k:MD (st.length+1) st.length 0 (st++ [PO.inst 1 [(9,.o (st.length+1))],PO.inst 0 (rd 64 0 0 0 0)]++ [PO.inst 3 (u8 true 0)]):=⟨Ld (Rz st _ _),_,Ld (by simp),⟨0,0,rfl⟩⟩;have j:rB (st++ [PO.inst 1 [(9,.o (st.length+1))],PO.inst 0 (rd 64 0 0 0 0)]).length 0 (st++ [PO.inst 1 [(9,.o (st.length+1))],PO.inst 0 (rd 64 0 0 0 0)]++ [PO.inst 3 (u8 true 0)]):=Sz _ _;rcases H with ⟨a,b,rfl,i,hb⟩|⟨a,b,c,rfl,i,hb,o⟩;·obtain ⟨sl',st',e,K⟩:=QZ n _ _ _ _ a b i hb d f g k j;refine ⟨st',ZI n st st' _ _ sl' rfl e,λm x y h=>K m x ?_ (Ld (Ld h))⟩;have:=kg h;lia
 ·obtain ⟨sl',st',e,K⟩:=RZ n _ _ _ _ a b c i hb o d f g k j;refine ⟨st',ZI n st st' _ _ sl' rfl e,λm x y h=>K m x ?_ (Ld (Ld h))⟩;have:=kg h;lia
def TL(step:kc Nat Unit)(l:List Nat):List FV:=RL (res (sc step 0 () l))
section
variable {step:kc Nat Unit}
def QS(i:Int)(l:List Nat):RL (res (sc step i () l))=TL step l:=by unfold TL;rw [show i=i+0 from (Int.add_zero i).symm,Av i l.length 0 () l (Nat.le_refl _)];induction sc step 0 () l<;>rfl
def mH(T:∀s o r d,step s o r≠ .error d)(W:Wf step)(ok:List Nat->Prop)(r t:List Nat)(H:∀s o r,ok (o::r)->step s o (r++t)=step s o r)(D:∀s o r c k s',ok (o::r)->step s o r= .ok (c,k,s')->ok (r.drop k))(f:ok r):TL step (r++t)=TL step r++TL step t:=by rw [<-QS (0+(r.length:Int)) t];unfold TL;rw [lB W ok H D r.length 0 () r f (Nat.le_refl _)];induction q:sc step 0 () r with|error e=>exact absurd q (Cf T r.length 0 () r (Nat.le_refl _) e)|ok x=>obtain ⟨a,u⟩:=x;simp only [join];induction q2:sc step (0+(r.length:Int)) () t with|error e=>exact absurd q2 (Cf T t.length _ () t (Nat.le_refl _) e)|ok y=>obtain ⟨b,v⟩:=y;rfl
def Zb(T:∀s o r d,step s o r≠ .error d)(h:step () x y= .ok ([v],k,()))(a:y.drop k=r):TL step (x::y)=v::TL step r:=by unfold TL;rw [Ud h,a,<-show RL (res (sc step (0+(k:Int)+1) () r))=RL (res (sc step 0 () r)) from QS _ r];induction q:sc step (0+(k:Int)+1) () r with|error e=>exact absurd q (Cf T r.length _ () r (Nat.le_refl _) e)|ok y=>obtain ⟨b,v⟩:=y;rfl
theorem Hk(e:Nat->List Nat)(h:∀c∈CC,∀r,TL step (e c++r)= .int c::TL step r)(r:List Nat):∀t,(∀c∈t,c∈CC)->TL step (t.flatMap e++r)=Aa t++TL step r| [],x=>rfl|c::t,H=>by rw [flatMap_cons,append_assoc,h c (H c (.head _)),Hk e h r t λd a=>H d (.tail _ a)];rfl
end
def Vh{P:Nat->Prop}(h:P 65/\P 233/\P 8364/\P 128512/\P 1114111/\P 65279/\P 0/\P 65533):∀c∈CC,P c:=λc a=>by obtain ⟨b,d,e,f,g,i,j,k⟩:=h;simp only [CC,mem_cons,not_mem_nil,or_false] at a;rcases a with rfl|rfl|rfl|rfl|rfl|rfl|rfl|rfl<;>assumption
def rd8:∀c∈CC,∀r,TL Wc (e8 c++r)= .int c::TL Wc r:=Vh ⟨λr=>Zb ff (r:=r) rfl rfl,λr=>Zb ff (r:=r) rfl rfl,λr=>Zb ff (r:=r) rfl rfl,λr=>Zb ff (r:=r) rfl rfl,λr=>Zb ff (r:=r) rfl rfl,λr=>Zb ff (r:=r) rfl rfl,λr=>Zb ff (r:=r) rfl rfl,λr=>Zb ff (r:=r) rfl rfl⟩
def vh(be:Bool)(c:Nat):List Nat:=(Xf c).flatMap (Bh be)
def wJ(be:Bool)(t:List Nat):Nh be t=t.flatMap (vh be):=by unfold Nh vh;rw [flatMap_assoc]
def lY(be:Bool):∀c∈CC,∀r,TL (Ub (Vc be)) (vh be c++r)= .int c::TL (Ub (Vc be)) r:=by induction be<;>exact Vh ⟨λr=>Zb Hc (r:=r) rfl rfl,λr=>Zb Hc (r:=r) rfl rfl,λr=>Zb Hc (r:=r) rfl rfl,λr=>Zb Hc (r:=r) rfl rfl,λr=>Zb Hc (r:=r) rfl rfl,λr=>Zb Hc (r:=r) rfl rfl,λr=>Zb Hc (r:=r) rfl rfl,λr=>Zb Hc (r:=r) rfl rfl⟩
def mY(be:Bool):∀c∈CC,∀r,TL (Ub (se be)) (de be c++r)= .int c::TL (Ub (se be)) r:=by induction be<;>exact Vh ⟨λr=>Zb Hc (r:=r) rfl rfl,λr=>Zb Hc (r:=r) rfl rfl,λr=>Zb Hc (r:=r) rfl rfl,λr=>Zb Hc (r:=r) rfl rfl,λr=>Zb Hc (r:=r) rfl rfl,λr=>Zb Hc (r:=r) rfl rfl,λr=>Zb Hc (r:=r) rfl rfl,λr=>Zb Hc (r:=r) rfl rfl⟩
def Yab(s t l:List Nat)(d:∀c∈s,c∈CC)(b:∀c∈t,c∈CC):RL (R8 (s.flatMap e8++l++t.flatMap e8))=Aa s++RL (R8 l)++Aa t:=by
 have e:TL Wc (t.flatMap e8)=Aa t:=by have:=Hk e8 rd8 [] t b;rw [append_nil] at this;rw [this];exact append_nil _
 rw [append_assoc,show RL (R8 (s.flatMap e8++(l++t.flatMap e8)))=TL Wc (s.flatMap e8++(l++t.flatMap e8)) from rfl,Hk e8 rd8 _ s d,mH ff rH all l (t.flatMap e8) ?_ (λa a a a a a a a=>trivial) trivial,e,append_assoc];·rfl
 ·intro u o r _;induction t with|nil=>rw [flatMap_nil,append_nil]|cons c t=>obtain ⟨x,y,f,g⟩:∃x y,e8 c=x::y/\trail x=false:=(Vh (P:=λc=>∃x y,e8 c=x::y/\trail x=false) ⟨⟨_,_,rfl,rfl⟩,⟨_,_,rfl,rfl⟩,⟨_,_,rfl,rfl⟩,⟨_,_,rfl,rfl⟩,⟨_,_,rfl,rfl⟩,⟨_,_,rfl,rfl⟩,⟨_,_,rfl,rfl⟩,⟨_,_,rfl,rfl⟩⟩) c (b c (.head _));rw [flatMap_cons,f,cons_append];exact dz g _ u o r
def W4(be:Bool)(s t l:List Nat)(g:∀c∈s,c∈CC)(d:∀c∈t,c∈CC)(f:xc l):RL (xe be (Nh be s++l++Nh be t))=Aa s++RL (xe be l)++Aa t:=by
 rw [wJ,wJ];have e:TL (Ub (Vc be)) (t.flatMap (vh be))=Aa t:=by have:=Hk (vh be) (lY be) [] t d;rw [append_nil] at this;rw [this];exact append_nil _
 rw [append_assoc,show RL (xe be (s.flatMap (vh be)++(l++t.flatMap (vh be))))=TL (Ub (Vc be)) (s.flatMap (vh be)++(l++t.flatMap (vh be))) from rfl,Hk (vh be) (lY be) _ s g,mH Hc (Ee (zf be)) xc l (t.flatMap (vh be)) ?_ (λa a a a a a b h=>dp h▸sj b) f,e,append_assoc];·rfl
 ·intro u o r b;refine rj (Ct ?_ o r b);induction t with|nil=>exact trivial|cons c t=>obtain ⟨x,y,z,i,j⟩:∃x y z,vh be c=x::y::z/\Ib (ic be x y)=false:=(Vh (P:=λc=>∃x y z,vh be c=x::y::z/\Ib (ic be x y)=false) (by induction be<;>exact ⟨⟨_,_,_,rfl,rfl⟩,⟨_,_,_,rfl,rfl⟩,⟨_,_,_,rfl,rfl⟩,⟨_,_,_,rfl,rfl⟩,⟨_,_,_,rfl,rfl⟩,⟨_,_,_,rfl,rfl⟩,⟨_,_,_,rfl,rfl⟩,⟨_,_,_,rfl,rfl⟩⟩)) c (d c (.head _));rw [flatMap_cons,i,cons_append,cons_append];exact j
def X4(be:Bool)(s t l:List Nat)(d:∀c∈s,c∈CC)(f:∀c∈t,c∈CC)(b:dg l):RL (pn be (Ai be s++l++Ai be t))=Aa s++RL (pn be l)++Aa t:=by
 unfold Ai;have e:TL (Ub (se be)) (t.flatMap (de be))=Aa t:=by have:=Hk (de be) (mY be) [] t f;rw [append_nil] at this;rw [this];exact append_nil _
 rw [append_assoc,show RL (pn be (s.flatMap (de be)++(l++t.flatMap (de be))))=TL (Ub (se be)) (s.flatMap (de be)++(l++t.flatMap (de be))) from rfl,Hk (de be) (mY be) _ s d,mH Hc (Ee (Wg be)) dg l (t.flatMap (de be)) ?_ (λx x x x x x a h=>dp h▸lq a) b,e,append_assoc];·rfl
 ·intro u o r a;exact rj (Dt be _ o r a)
def MI(n:Nat)(st:ia)(l:List Nat)(b:l.length<=lim)(a:Rb l)(q:Str)(be:Bool)(c:(q==c0)=be):(ja (n+4)).call 37 [.v (.bytes l),.v (.str q)] st=some (.ok (.v (.lst (RL (pn be l)))),st):=by have h:=pg (eH n st l b a q be c) Hc;exact h
def yi{t:List Nat}(h:∀c∈t,c∈CC):∀c∈t,c∈Ij:=λc a=> .tail _ (h c a)
def Cj(t:List Nat):∀x∈Aa t,cg x:=λx a=>by obtain ⟨y,_,rfl⟩:=mem_map.mp a;exact .inr ⟨_,rfl⟩
def CO{a b c:List FV}(e:∀x∈a,cg x)(hb:∀x∈b,cg x)(f:∀x∈c,cg x):∀x∈a++b++c,cg x:=λx d=>by
 rcases mem_append.mp d with d|d
 ·rcases mem_append.mp d with d|d;·exact e x d
  ·exact hb x d
 ·exact f x d
def gI(be:Bool)(h:∀c∈t,c∈CC):(Nh be t).length<=4*t.length:=by rw [wJ];exact ng λc a=>(Vh (P:=λc=>(vh be c).length<=4) (by induction be<;>decide)) c (h c a)
def iI(be:Bool)(h:∀c∈t,c∈CC):(Ai be t).length<=4*t.length:=ng λc a=>by induction be<;>exact Nat.le_refl _
def dM{t:List Nat}(h:∀c∈t,c∈CC):(t.flatMap e8).length<=4*t.length:=ng λc a=>(xJ c (h c a)).2
def zN(n:Nat)(st:ia)(s t l:List Nat)(a:∀c∈s,c∈CC)(b:∀c∈t,c∈CC)(ls:s.length<=10)(lt:t.length<=10)(H:Line l)(q:Str)(be:Bool)(e:(q==c0)=be):(ja (n+6)).call 63 [.v (.lst (Aa s)),.v (.lst (Aa t)),.v (.bytes l),.v (.str q)] st=some (.ok (.v (.bool true)),st):=by
 have ll:=H.1;have f:Line (za 2 l):=Ba H;have g:Line (za 4 l):=Ba H;have l2:=f.1;have l4:=g.1;have a1:=dM a;have a2:=dM b;have b1:=gI be a;have b2:=gI be b;have d1:=iI be a;have d2:=iI be b;have n1:(Aa s).length=s.length:=length_map ..;have n2:(Aa t).length=t.length:=length_map ..;have g8:=(Gg ll).2;have F:=(Of (be:=be) l2).2;have d:ti (RL (pn be (za 4 l))):=Ci be _ (by unfold lim;lia) 8 (.inr (.inr (.inr rfl)));have G:=d.2;unfold lim at g8 F G;have x1:=λst'=>WI (n+2) st' s a (by unfold lim;lia);have x2:=λst'=>WI (n+2) st' t b (by unfold lim;lia);have y1:=λst'=>Gk n st' s q be e (yi a) (by unfold lim;lia);have y2:=λst'=>Gk n st' t q be e (yi b) (by unfold lim;lia);have z1:=λst'=>Lx (n+1) st' s q be e (yi a) (by unfold lim;lia);have z2:=λst'=>Lx (n+1) st' t q be e (yi b) (by unfold lim;lia);have r8:=λst'=>Bk (n+2) st' (s.flatMap e8++l++t.flatMap e8) (by rw [length_append,length_append];unfold lim;lia);have X:=λst'=>Bk (n+2) st' l (by unfold lim;lia);have w:=λst'=>gi (n+2) st' (Nh be s++za 2 l++Nh be t) (by rw [length_append,length_append];unfold lim;lia) (Nc (Nc (Az (yi a)) f.2) (Az (yi b))) q be e;have x:=λst'=>gi (n+2) st' (za 2 l) (by unfold lim;lia) f.2 q be e;have y:=λst'=>MI (n+1) st' (Ai be s++za 4 l++Ai be t) (by rw [length_append,length_append];unfold lim;lia) (Nc (Nc (Bz (yi a)) g.2) (Bz (yi b))) q be e;have z:=λst'=>MI (n+1) st' (za 4 l) (by unfold lim;lia) g.2 q be e;rw [Yab s t l a b] at r8;rw [W4 be s t (za 2 l) a b (Yd l)] at w;rw [X4 be s t (za 4 l) a b (gg l)] at y;have O:Ia .Add (.bytes (s.flatMap e8)) (.bytes l)=some (.bytes (s.flatMap e8++l)):=sf (by unfold big;lia);have P:Ia .Add (.bytes (s.flatMap e8++l)) (.bytes (t.flatMap e8))=some (.bytes (s.flatMap e8++l++t.flatMap e8)):=sf (by rw [length_append];unfold big;lia);have L:Ia .Add (.lst (Aa s)) (.lst (RL (R8 l)))=some (.lst (Aa s++RL (R8 l))):=zd (by unfold big;lia);have M:Ia .Add (.lst (Aa s++RL (R8 l))) (.lst (Aa t))=some (.lst (Aa s++RL (R8 l)++Aa t)):=zd (by rw [length_append];unfold big;lia);have p:Ia .Add (.bytes (Nh be s)) (.bytes (za 2 l))=some (.bytes (Nh be s++(za 2 l))):=sf (by unfold big;lia);have r:Ia .Add (.bytes (Nh be s++(za 2 l))) (.bytes (Nh be t))=some (.bytes (Nh be s++(za 2 l)++Nh be t)):=sf (by rw [length_append];unfold big;lia);have h:Ia .Add (.lst (Aa s)) (.lst (RL (xe be (za 2 l))))=some (.lst (Aa s++RL (xe be (za 2 l)))):=zd (by unfold big;lia);have i:Ia .Add (.lst (Aa s++RL (xe be (za 2 l)))) (.lst (Aa t))=some (.lst (Aa s++RL (xe be (za 2 l))++Aa t)):=zd (by rw [length_append];unfold big;lia);have u:Ia .Add (.bytes (Ai be s)) (.bytes (za 4 l))=some (.bytes (Ai be s++(za 4 l))):=sf (by unfold big;lia);have v:Ia .Add (.bytes (Ai be s++(za 4 l))) (.bytes (Ai be t))=some (.bytes (Ai be s++(za 4 l)++Ai be t)):=sf (by rw [length_append];unfold big;lia);have j:Ia .Add (.lst (Aa s)) (.lst (RL (pn be (za 4 l))))=some (.lst (Aa s++RL (pn be (za 4 l)))):=zd (by unfold big;lia);have o:Ia .Add (.lst (Aa s++RL (pn be (za 4 l)))) (.lst (Aa t))=some (.lst (Aa s++RL (pn be (za 4 l))++Aa t)):=zd (by rw [length_append];unfold big;lia);have q8:=Ig (CO (Cj s) (Gg ll).1 (Cj t));have V:=Ig (CO (Cj s) (Of (be:=be) l2).1 (Cj t));have W:=xn (CO (Cj s) d.1 (Cj t));have le:=Oc (l:=l) (by unfold big;lia);have e2:((l.length:Int)).fdiv 2*2=((l.length/2*2:Nat):Int):=by rw [fdiv_eq_ediv_of_nonneg _ (by decide)];lia
 have s2:small (((l.length:Int)).fdiv 2)=true:=by rw [fdiv_eq_ediv_of_nonneg _ (by decide)];exact Kc (by lia) (by lia)
 have t2:small 2=true:=(Yb _).trans rfl;have c2:Va (.bytes l) none (some ((l.length/2*2:Nat):Int))=some (.bytes (za 2 l)):=tq (l:=l) (m:=l.length/2*2) (by unfold big;lia) (by lia);have e4:((l.length:Int)).fdiv 4*4=((l.length/4*4:Nat):Int):=by rw [fdiv_eq_ediv_of_nonneg _ (by decide)];lia
 have s4:small (((l.length:Int)).fdiv 4)=true:=by rw [fdiv_eq_ediv_of_nonneg _ (by decide)];exact Kc (by lia) (by lia)
 have t4:small 4=true:=(Yb _).trans rfl;have c4:Va (.bytes l) none (some ((l.length/4*4:Nat):Int))=some (.bytes (za 4 l)):=tq (l:=l) (m:=l.length/4*4) (by unfold big;lia) (by lia);have A:=uv (k:=l.length) (k':=2) (by decide) (by decide);have C:Ia .Mult (.int ((l.length:Int).fdiv 2)) (.int 2)=some (.int (l.length/2*2:Nat)):=e2▸jb s2 t2;have B:=uv (k:=l.length) (k':=4) (by decide) (by decide);have D:Ia .Mult (.int ((l.length:Int).fdiv 4)) (.int 4)=some (.int (l.length/4*4:Nat)):=e4▸jb s4 t4;exact xa [.R 0 (x1 (st)),.F 0 O,.R 0 (x2 (st)),.F 0 P,.R 0 (r8 (st)),.R 0 (X (st)),.F 0 L,.F 0 M,.O 0 q8,.F 2 le,.F 0 A,.F 0 C,.F 0 c2,.F 0 le,.F 0 B,.F 0 D,.F 0 c4,.R 0 (y1 (st)),.F 0 p,.R 0 (y2 (st)),.F 0 r,.R 0 (w (st)),.R 0 (x (st)),.F 0 h,.F 0 i,.O 0 V,.R 2 (z1 (st)),.F 0 u,.R 0 (z2 (st)),.F 0 v,.R 0 (y (st)),.R 0 (z (st)),.F 0 j,.F 0 o,.O 0 W]
noncomputable def Fe(d:List FV):Prop:=d.length<=60/\∀x∈d,∃k:Int,0<=k/\x= .int k
def aW(h:Fe d):∀x∈d,cg x:=λx a=>by obtain ⟨k,_,e⟩:=h.2 x a;exact .inr ⟨k,e⟩
def fM(h:∀x∈y::r,cg x):Oh (.lst (y::r)) (.lst [])=some false:=by
 obtain ⟨xs,c,e,f⟩:=ED (y::r) h;have d:FV.py (.lst (y::r))=some (.list xs):=by simp only [FV.py,c]
 have s1:shaped (.list xs)=true:=Ru (by simp only [canLay0,e]) (by simp only [PyData.depth,f];decide);have s2:shaped (.list [])=true:=rfl;have a2:FV.py (.lst [])=some (.list []):=rfl;rw [cy (λb=>rfl) d a2 s1 s2];induction xs with
 |nil=>simp only [FV.pys] at c;split at c<;>cases c
 |cons a l=>simp [eqv,PyData.eqvAll]
def ZL(h:d≠ []):∃a x,d=a++ [x]:=⟨d.dropLast,d.getLast h,(dropLast_concat_getLast h).symm⟩
def Kr{st:ia}{x:Nat}:pa O (.emptyq x) sl st=match sl[x]? with
  |some (.a (.o i))=>match st[i]? with|some (.dl l)=>retB (Oh (.lst l) (.lst [])) st| _=>none
  | _=>none:=rfl
def gM{st:ia}{x:Nat}:pa O (.pop x) sl st=match sl[x]? with
  |some (.a (.o i))=>match st[i]? with
   |some (.dl l)=>match l.getLast? with|some y=>if l.length<=big then ok (.v y) (st.set i (.dl l.dropLast)) else none|none=>none
   | _=>none
  | _=>none:=rfl
def AJ{sl:List Slot}{st:ia}:ua O n (.oapp x e) sl st=match Lb sl[x]? with
  |some (.o i)=>match st[i]? with
   |some (.dl a)=>sV (pa O e sl st) sl λy st=>match st[i]? with|some (.dl l)=>if l.length<big then some (.next,sl,st.set i (.dl (l++ [y]))) else none| _=>none
   | _=>none
  | _=>none:=rfl
def Gv(n i m:Nat)(st:ia)(d:List FV)(h:st[i]? =some (.dl d))(c:Fe d)(D:0<m)(F:m<1000):
  ∃v t,v<m/\Fe t/\(ja (n+1)).call 51 [.o i,.v (.int m)] st=some (.ok (.v (.int (v:Nat))),st.set i (.dl t)):=by
 by_cases o:d= []
 ·subst o;refine ⟨0,[],D,c,?_⟩;have l:∀sl',pa (ja n) (.emptyq 0) (.a (.o i)::sl') st=some (.ok (.v (.bool true)),st):=λsl'=>by
   simp only [Kr,getElem?_cons_zero,h];rfl
  rw [Io h];exact xa [.R 0 (l ([.a (.v (.int ↑m)),.u]))]
 ·obtain ⟨a,x,rfl⟩:=ZL o;obtain ⟨k,B,rfl⟩:=c.2 x (mem_append.mpr (.inr (.head _)));have f:Fe a:=⟨by have:=c.1;rw [length_append] at this;lia,λy b=>c.2 y (mem_append.mpr (.inl b))⟩;have l:∀sl',pa (ja n) (.emptyq 0) (.a (.o i)::sl') st=some (.ok (.v (.bool false)),st):=λsl'=>by
   have e:Oh (.lst (a++ [.int k])) (.lst [])=some false:=by have u:=aW c;induction q:a++ [FV.int k] with|nil=>exact absurd q o|cons y r=>rw [q] at u;exact fM u
   simp only [Kr,getElem?_cons_zero,h,e,retB]
  have g:(a++ [FV.int k]).length<=big:=Nat.le_trans c.1 (by decide);have z:∀sl',pa (ja n) (.pop 0) (.a (.o i)::sl') st=some (.ok (.v (.int k)),st.set i (.dl a)):=λsl'=>by simp only [gM,getElem?_cons_zero,h,getLast?_concat,dropLast_concat,g,if_true,ok]
  have j:(st.set i (.dl a))[i]? =some (.dl a):=by rw [getElem?_set_self (kg h)]
  have p:∀X,(st.set i (.dl a)).set i X=st.set i X:=λX=>by rw [set_set]
  have w:(m:Int)≠0:=by lia
  have s:(0:Int)<m:=by lia
  have G:(m:Int)<1073741824:=by lia
  have A:k.fmod m=((k.fmod m).toNat:Nat):=by rw [toNat_of_nonneg];exact fmod_nonneg_of_pos _ s
  refine ⟨(k.fmod m).toNat,br (decide (1000<=k)) (a++ [.int (k.fdiv m)]) a,?_,?_,?_⟩;·have:=fmod_lt_of_pos k s;lia
  ·induction decide (1000<=k) with
   |false=>exact f|true=>
    refine ⟨by show (a++ [_]).length<=60;have:=c.1;rw [length_append] at this|-;exact this,λy b=> ?_⟩;rcases mem_append.mp b with b|b;·exact f.2 y b
    ·rcases mem_cons.mp b with rfl|b;·exact ⟨_,fdiv_nonneg B (by lia),rfl⟩
     ·cases b
  ·rw [<-A];induction hb:decide (1000<=k) with
   |false=>simp only [br];exact xa [.R 0 (l ([.a (.v (.int ↑m)),.u])),.R 1 (z ([.a (.v (.int ↑m)),.u])),.B 1 hb,.F 1 (uS (k:=k) w)]|true=>
    have C:a.length<big:=by have:=f.1;unfold big;lia
    have p3:ua (ja n) 2000 (.oapp 0 (.bin .FloorDiv (.var 2) (.var 1))) [.a (.o i),.a (.v (.int m)),.a (.v (.int k))] (st.set i (.dl a))=some (.next,[.a (.o i),.a (.v (.int m)),.a (.v (.int k))],st.set i (.dl (a++ [.int (k.fdiv m)]))):=by
     have e:pa (ja n) (.bin .FloorDiv (.var 2) (.var 1)) [.a (.o i),.a (.v (.int m)),.a (.v (.int k))] (st.set i (.dl a))=some (.ok (.v (.int (k.fdiv m))),st.set i (.dl a)):=by exact Kh [.F 0 (uv (k:=k) s G)]
     simp only [AJ,Lb,getElem?_cons_zero,j,e,sV,sE,C,if_true,p]
    simp only [br];exact xa [.R 0 (l ([.a (.v (.int ↑m)),.u])),.R 1 (z ([.a (.v (.int ↑m)),.u])),.B 1 hb,.S 1 p3,.F 0 (uS (k:=k) w)]
def kv:S:=(.seq (.app 2 (.ite (.cmp .Lt (.var 1) (.cst (.int 4))) (.idx (.idx (.glob 55) (.var 1)) (.call 51 (.cons (.var 0) (.cons (.cst (.int 16)) .nil)))) (.call 51 (.cons (.var 0) (.cons (.cst (.int 256)) .nil))))) .skip)
def MU(n:Nat)(st:ia)(ns:List Int):ns.length<=63->∃d,Fe d/\(ja (n+1)).fresh 50 [.v (.lst (ns.map .int))] st=some (.ok d,st):=by
 intro j;have h:(ns.map FV.int).length<=big:=by rw [length_map];exact Nat.le_trans j (by decide)
 let g:FV->FV:=λx=>match x with| .int k=> .int (k.fmod 10000000000000000000000000000000000000000)|x=>x
 have s1:Va (.lst (ns.map .int)) none (some 60)=some (.lst (cut (ns.map .int) none (some 60))):=if_pos h;have i:cut (ns.map FV.int) none (some 60)=(ns.take 60).map .int:=(cE (m:=60)).trans map_take.symm;rw [i] at s1;have a:((ns.take 60).map FV.int).length<=60:=by rw [length_map,length_take];exact Nat.min_le_left _ _
 have e:pa (ja n) (.comp (.bin .Mod (.intf (.var 0)) (.bin .Pow (.cst (.int 10)) (.cst (.int 40)))) (.slc (.var 0) .nil (.cst (.int 60))) []) [.a (.v (.lst (ns.map .int)))] st=some (.ok (.v (.lst (((ns.take 60).map FV.int).map g))),st):=by
  refine comp_map (c:= []) (l:=(ns.take 60).map .int) ?_ rfl (Nat.le_trans a (by decide)) ?_;·have q:pb (.lst ((ns.take 60).map .int))=some ((ns.take 60).map .int):=if_pos (Nat.le_trans a (by decide));rw [zw rfl,Kh (r:=some (.ok (.v (.lst ((ns.take 60).map .int))),st)) [.F 0 s1]];show lift (pb _) st=_;rw [q];rfl
  ·intro x b;obtain ⟨k,_,rfl⟩:=mem_map.mp b;have p:Ia .Pow (.int 10) (.int 40)=some (.int 10000000000000000000000000000000000000000):=by
    have s:small 10=true:=(Yb _).trans rfl;show gd (decide ((0:Int)<=40)&&decide ((40:Int)<=64)&&small 10) _=_;rw [s];kernel_rfl
   show _=some (Except.ok (AV.v (.int (k.fmod 10000000000000000000000000000000000000000))),st);exact Kh [.F 0 p]
 refine ⟨(((ns.take 60).map FV.int).map g).reverse,⟨by rw [length_reverse,length_map];exact a,λx b=> ?_⟩,?_⟩;·obtain ⟨y,o,rfl⟩:=mem_map.mp (mem_reverse.mp b);obtain ⟨k,_,rfl⟩:=mem_map.mp o;exact ⟨_,fmod_nonneg_of_pos _ (by decide),rfl⟩
 ·rw [IE];unfold oy;rw [show beq 50 50=true from rfl,cO];unfold ny vf Zx;have hb:(((ns.take 60).map FV.int).map g).length<=big:=by rw [length_map];exact Nat.le_trans a (by decide)
  have f:pa (ja n) (.comp (.bin .Mod (.intf (.var 0)) (.bin .Pow (.cst (.int 10)) (.cst (.int 40)))) (.slc (.var 0) .nil (.cst (.int 60))) []) (Ek ⟨1,1,[],(.seq (.ret (.rev (.comp (.bin .Mod (.intf (.var 0)) (.bin .Pow (.cst (.int 10)) (.cst (.int 40)))) (.slc (.var 0) .nil (.cst (.int 60))) []))) .skip)⟩ ([.v (.lst (ns.map .int))]++ [])) st=some (.ok (.v (.lst (((ns.take 60).map FV.int).map g))),st):=e;simp only [drop_nil,length_cons,length_nil,length_append,map_nil,Nat.add_zero,if_true,Nat.zero_add,f,Mine.onV,bnd,hb,ok]
def bac(n:Nat):(ja n).glob 55=some (.lst [(.lst [(.int 65),(.int 10),(.int 128),(.int 191),(.int 194),(.int 192),(.int 224),(.int 160),(.int 237),(.int 159),(.int 240),(.int 144),(.int 244),(.int 143),(.int 176),(.int 0)]),(.lst [(.int 43),(.int 38),(.int 45),(.int 65),(.int 79),(.int 107),(.int 50),(.int 68),(.int 47),(.int 44),(.int 126),(.int 32),(.int 48),(.int 51),(.int 101),(.int 10)]),(.lst [(.int 144),(.int 80),(.int 208),(.int 211),(.int 251),(.int 254),(.int 33),(.int 79),(.int 255),(.int 32),(.int 13),(.int 10),(.int 5),(.int 28),(.int 128),(.int 7)]),(.lst [(.int 0),(.int 65),(.int 216),(.int 220),(.int 254),(.int 255),(.int 10),(.int 16),(.int 219),(.int 223),(.int 61),(.int 1),(.int 128),(.int 32),(.int 13),(.int 43)])]):=by induction n<;>rfl
def LR(s v:Nat):Bool:=match jc (.lst [(.lst [(.int 65),(.int 10),(.int 128),(.int 191),(.int 194),(.int 192),(.int 224),(.int 160),(.int 237),(.int 159),(.int 240),(.int 144),(.int 244),(.int 143),(.int 176),(.int 0)]),(.lst [(.int 43),(.int 38),(.int 45),(.int 65),(.int 79),(.int 107),(.int 50),(.int 68),(.int 47),(.int 44),(.int 126),(.int 32),(.int 48),(.int 51),(.int 101),(.int 10)]),(.lst [(.int 144),(.int 80),(.int 208),(.int 211),(.int 251),(.int 254),(.int 33),(.int 79),(.int 255),(.int 32),(.int 13),(.int 10),(.int 5),(.int 28),(.int 128),(.int 7)]),(.lst [(.int 0),(.int 65),(.int 216),(.int 220),(.int 254),(.int 255),(.int 10),(.int 16),(.int 219),(.int 223),(.int 61),(.int 1),(.int 128),(.int 32),(.int 13),(.int 43)])]) s with|some L=>(match jc L v with|some (.int x)=>decide (0<=x)&&decide (x<256)|a=>false)|none=>false
def Hab(s v:Nat)(c:s<4)(d:v<16):∃L x,(∀n,(ja n).glob 55=some L)/\∃M,jc L s=some M/\jc M v=some (.int (x:Nat))/\x<256:=by
 have h:∀s:Fin 4,∀v:Fin 16,LR s v=true:=by decide+kernel
 have h:=h ⟨s,c⟩ ⟨v,d⟩;unfold LR at h;dsimp only at h;set_option tactic.hygienic true in split at h
 ·rename_i M b;set_option tactic.hygienic true in split at h
  ·rename_i x e;have h:=and_eq_true_iff.mp h;have a:=of_decide_eq_true h.1;have f:=of_decide_eq_true h.2;refine ⟨_,x.toNat,bac,M,b,?_,by lia⟩;rw [e,toNat_of_nonneg a]
  ·injection h
 ·injection h
def EM(n i s:Nat)(st:ia)(d:List FV)(fd:List Nat)(z:Slot)(q:s<5)(h:st[i]? =some (.dl d))(k:Fe d)(p:fd.length<100):∃x a,x<256/\Fe a/\ua (ja (n+1)) 2000 kv [.a (.o i),.a (.v (.int (s:Nat))),.own (Aa fd),z] st=some (.next,[.a (.o i),.a (.v (.int (s:Nat))),.own (Aa (fd++ [x])),z],st.set i (.dl a)):=by
 have ap:∀x:Nat,tf (Aa fd) (.int x)=some (Aa (fd++ [x])):=λx=>by unfold tf;rw [if_pos (show (Aa fd).length<big by unfold Aa;rw [length_map];unfold big;lia)];unfold Aa;rw [map_append];rfl
 rcases Nat.lt_or_ge s 4 with j|j;·obtain ⟨v,a,o,c,e⟩:=Gv n i 16 st d h k (by decide) (by decide);obtain ⟨L,x,b,M,l,m,g⟩:=Hab s v j o;have f:decide ((s:Int)<4)=true:=decide_eq_true (by lia);have b:=b (n+1);replace e:(ja (n+1)).call 51 [.o i,.v (.int 16)] st=some (.ok (.v (.int (v:Nat))),st.set i (.dl a)):=e;refine ⟨x,a,g,c,?_⟩;unfold kv;exact bc [.B 1 f,.F 1 b,.F 0 l,.R 0 e,.F 0 m,.L 0 (ap x)]
 ·obtain ⟨x,a,g,c,e⟩:=Gv n i 256 st d h k (by decide) (by decide);have f:decide ((s:Int)<4)=false:=decide_eq_false (by lia);replace e:(ja (n+1)).call 51 [.o i,.v (.int 256)] st=some (.ok (.v (.int (x:Nat))),st.set i (.dl a)):=e;refine ⟨x,a,g,c,?_⟩;unfold kv;exact bc [.B 1 f,.R 1 e,.L 0 (ap x)]
theorem xF(n i s:Nat)(t:s<5):∀(xs:List FV) (st:ia) (d:List FV) (fd:List Nat) (z:Slot),st[i]? =some (.dl d)->Fe d->Rb fd->fd.length+xs.length<=50->∃a f p,Rb a/\a.length=fd.length+xs.length/\Fe f/\runs (ua (ja (n+1)) 2000 kv) [3] xs [.a (.o i),.a (.v (.int (s:Nat))),.own (Aa fd),z] st=some (.next,[.a (.o i),.a (.v (.int (s:Nat))),.own (Aa a),p],st.set i (.dl f))| [],st,d,fd,z,h,g,m,c=>⟨fd,d,z,m,rfl,g,by rw [Io h];rfl⟩|y::xs,st,d,fd,z,h,g,m,u=>by rw [length_cons] at u;obtain ⟨x,q,A,k,e⟩:=EM n i s st d fd (.a (.v y)) t h g (by lia);obtain ⟨a,f,p,o,l,j,r⟩:=xF n i s t xs (st.set i (.dl q)) q (fd++ [x]) (.a (.v y)) (by rw [getElem?_set_self (kg h)]) k (Nc m λw v=>by rw [mem_singleton.mp v];exact A) (by rw [length_append,length_singleton];lia);refine ⟨a,f,p,o,by rw [l,length_append,length_singleton,length_cons];lia,j,?_⟩;rw [set_set] at r;have b:bindL [3] y [.a (.o i),.a (.v (.int (s:Nat))),.own (Aa fd),z]=some [.a (.o i),.a (.v (.int (s:Nat))),.own (Aa fd),.a (.v y)]:=rfl;simp only [runs,ai,b,e,r]
def OU(n i s:Nat)(q:s<5)(st:ia)(d:List FV)(h:st[i]? =some (.dl d))(o:Fe d):∃l j,Line l/\Fe j/\(ja (n+2)).call 52 [.o i,.v (.int (s:Nat))] st=some (.ok (.v (.bytes l)),st.set i (.dl j)):=by
 obtain ⟨v,a,w,c,e⟩:=Gv n i 8 st d h o (by decide) (by decide);replace e:(ja (n+1)).call 51 [.o i,.v (.int 8)] st=some (.ok (.v (.int (v:Nat))),st.set i (.dl a)):=e;have g:∃W,Dg 0 (v:Nat)=some W/\W.length=v:=by
  refine ⟨Ye 0 v,?_,?_⟩;·unfold Dg;rw [show mid 0=true from rfl,show mid (v:Nat)=true by unfold mid;rw [decide_eq_true (by lia),decide_eq_true (by lia)];rfl];rfl
  ·unfold Ye;rw [length_map,length_range];lia
 obtain ⟨W,g,y⟩:=g;obtain ⟨l,k,u,m,p,f,r⟩:=xF n i s q W (st.set i (.dl a)) a [] .u (by rw [getElem?_set_self (kg h)]) c (λx t=>nomatch t) (by rw [length_nil];lia);rw [length_nil] at p;rw [set_set] at r;have b:Jj (.lst (Aa l))=some (.bytes l):=Qk m (by unfold big;lia);refine ⟨l,k,⟨by lia,m⟩,f,?_⟩;replace r:runs (ua (ja (n+1)) 2000 kv) [3] W [.a (.o i),.a (.v (.int (s:Nat))),.own [],.u] (st.set i (.dl a))=some (.next,[.a (.o i),.a (.v (.int (s:Nat))),.own (Aa l),u],st.set i (.dl k)):=r;unfold kv at r;exact xa [.R 0 e,.L 0 g,.S 0 r,.F 0 b]
theorem Gw(P:FV->Prop)(k:∀x d,Fe d->∃y b,P y/\Fe b/\f x (.dl d::ex)=some (.ok (.v y),.dl b::ex)):
  ∀(xs d:List FV),Fe d->∃ys b,Fe b/\ys.length=xs.length/\(∀y∈ys,P y)/\foldC f xs (.dl d::ex)=some (.ok ys,.dl b::ex)
 | [],d,c=>⟨[],d,c,rfl,(λa h=>nomatch h),rfl⟩|x::xs,d,c=>by
  obtain ⟨y,l,p,g,e⟩:=k x d c;obtain ⟨ys,m,i,o,n,r⟩:=Gw P k xs l g;refine ⟨y::ys,m,i,by rw [length_cons,length_cons,o],λz j=> ?_,?_⟩
  ·rcases mem_cons.mp j with rfl|j;·exact p
   ·exact n z j
  ·simp only [foldC,e,Mine.onV,bnd,r,ok]
def AB{st b st':ia}(e:Sd O it sl st=some (.ok l,b))(d:Kj sl a=some c)(f:l.length<=big)(h:foldC (λx st=>pa O elt (c++ [.a (.v x)]) st) l b=some (.ok r,st')):pa O (.comp elt it a) sl st=some (.ok (.v (.lst r)),st'):=by simp only [dy,e,bnd,d,f,if_true,h,ok]
def MO(h:∀y∈ys,∃l,Line l/\y= .bytes l)(d:ys.length=2\/ys.length=3):∃g,qh Line g/\FV.lst ys=Za g:=by
 rcases d with d|d
 ·match ys,d with| [a,b],u=>obtain ⟨x,e,rfl⟩:=h a (.head _);obtain ⟨y,f,rfl⟩:=h b (.tail _ (.head _));exact ⟨[x,y],.inl ⟨x,y,rfl,e,f⟩,rfl⟩
 ·match ys,d with| [a,b,c],u=>obtain ⟨x,e,rfl⟩:=h a (.head _);obtain ⟨y,f,rfl⟩:=h b (.tail _ (.head _));obtain ⟨z,i,rfl⟩:=h c (.tail _ (.tail _ (.head _)));exact ⟨[x,y,z],.inr ⟨x,y,z,rfl,e,f,i⟩,rfl⟩
theorem LM:∀{ys:List FV},(∀y∈ys,∃c∈CC,y= .int (c:Nat))->∃t,(∀c∈t,c∈CC)/\ys=Aa t/\t.length=ys.length
 | [],x=>⟨[],(λx h=>nomatch h),rfl,rfl⟩|y::ys,h=>by
  obtain ⟨c,b,rfl⟩:=h y (.head _);obtain ⟨t,f,rfl,e⟩:=LM (ys:=ys) λz g=>h z (.tail _ g);refine ⟨c::t,λd a=> ?_,rfl,by rw [length_cons,length_cons,e]⟩;rcases mem_cons.mp a with rfl|a;·exact b
  ·exact f d a
def iN(v:Nat)(h:v<1000):∃W,Dg 0 (v:Nat)=some W/\W.length=v:=by
 refine ⟨Ye 0 v,?_,?_⟩;·unfold Dg;rw [show mid 0=true from rfl,show mid (v:Nat)=true by unfold mid;rw [decide_eq_true (by lia),decide_eq_true (by lia)];rfl];rfl
 ·unfold Ye;rw [length_map,length_range];lia
def ay(n m:Nat)(ex:ia)(d:List FV)(c:Fe d)(e:0<m)(a:m<1000):∃v b,v<m/\Fe b/\(ja (n+1)).call 51 [.o 0,.v (.int m)] (.dl d::ex)=some (.ok (.v (.int (v:Nat))),.dl b::ex):=Gv n 0 m (.dl d::ex) d rfl c e a
def pJ(n s m:Nat)(o:s<5)(t:m<2)(d:List FV)(i:Fe d)(s0:Slot)(rest:List Slot):∃g a,qh Line g/\Fe a/\pa (ja (n+2)) (.comp (.call 52 (.cons (.var 0) (.cons (.var 1) .nil))) (.rng (.var 3)) [1,2]) (s0:: .a (.o 0):: .a (.v (.int (s:Nat))):: .a (.v (.int (2+(m:Nat))))::rest) [.dl d]=some (.ok (.v (Za g)),[.dl a]):=by obtain ⟨W,j,p⟩:=iN (2+m) (by lia);rw [show ((2+m:Nat):Int)=2+(m:Int) by lia] at j;obtain ⟨ys,a,b,q,k,r⟩:=Gw (f:=λx st=>pa (ja (n+2)) (.call 52 (.cons (.var 0) (.cons (.var 1) .nil))) ([.a (.o 0),.a (.v (.int (s:Nat)))]++ [.a (.v x)]) st) (ex:= []) (λy=>∃l,Line l/\y= .bytes l) (λx d i=>by obtain ⟨l,a,h,b,e⟩:=OU n 0 s o [.dl d] d rfl i;replace e:(ja (n+2)).call 52 [.o 0,.v (.int (s:Nat))] [.dl d]=some (.ok (.v (.bytes l)),[.dl a]):=e;refine ⟨.bytes l,a,⟨l,h,rfl⟩,b,?_⟩;exact Kh [.R 0 e]) W d i;obtain ⟨g,h,e⟩:=MO k (by lia);refine ⟨g,a,h,b,?_⟩;rw [<-e];refine AB (l:=W) (c:= [.a (.o 0),.a (.v (.int (s:Nat)))]) ?_ rfl (by rw [p];unfold big;lia) r;rw [kE];show lift (Dg 0 (2+(m:Int))) _=_;rw [j];rfl
def BB(n:Nat)(ex:ia)(d:List FV)(h:Fe d):∃t a,(∀c∈t,c∈CC)/\t.length<=10/\Fe a/\∀s0 rest,pa (ja (n+1)) (.comp (.idx (.glob 56) (.call 51 (.cons (.var 0) (.cons (.cst (.int 8)) .nil)))) (.rng (.call 51 (.cons (.var 1) (.cons (.cst (.int 4)) .nil)))) [1]) (s0:: .a (.o 0)::rest) (.dl d::ex)=some (.ok (.v (.lst (Aa t))),.dl a::ex):=by
 obtain ⟨v,j,k,i,e⟩:=ay n 4 ex d h (by decide) (by decide);replace e:(ja (n+1)).call 51 [.o 0,.v (.int 4)] (.dl d::ex)=some (.ok (.v (.int (v:Nat))),.dl j::ex):=e;obtain ⟨W,z,w⟩:=iN v (by lia);obtain ⟨ys,a,g,A,p,r⟩:=Gw (f:=λx st=>pa (ja (n+1)) (.idx (.glob 56) (.call 51 (.cons (.var 0) (.cons (.cst (.int 8)) .nil)))) ([.a (.o 0)]++ [.a (.v x)]) st) (ex:=ex) (λy=>∃c∈CC,y= .int (c:Nat)) (λx d h=>by
  obtain ⟨v,a,k,g,e⟩:=ay n 8 ex d h (by decide) (by decide);replace e:(ja (n+1)).call 51 [.o 0,.v (.int 8)] (.dl d::ex)=some (.ok (.v (.int (v:Nat))),.dl a::ex):=e;have o:=cac (n+1);obtain ⟨c,q,m⟩:∃c∈CC,jc (.lst [(.int 65),(.int 233),(.int 8364),(.int 128512),(.int 1114111),(.int 65279),(.int 0),(.int 65533)]) (v:Nat)=some (.int (c:Nat)):=by match v,k with|0,b=>exact ⟨65,by decide,rfl⟩|1,b=>exact ⟨233,by decide,rfl⟩|2,b=>exact ⟨8364,by decide,rfl⟩|3,b=>exact ⟨128512,by decide,rfl⟩|4,b=>exact ⟨1114111,by decide,rfl⟩|5,b=>exact ⟨65279,by decide,rfl⟩|6,b=>exact ⟨0,by decide,rfl⟩|7,b=>exact ⟨65533,by decide,rfl⟩
  refine ⟨_,a,⟨c,q,rfl⟩,g,?_⟩;exact Kh [.R 1 e,.F 0 m]) W j i
 obtain ⟨t,s,rfl,u⟩:=LM p;refine ⟨t,a,s,by lia,g,λs0 rest=> ?_⟩;refine AB (l:=W) (c:= [.a (.o 0)]) ?_ rfl (by rw [w];unfold big;lia) r;rw [kE];show zM 0 ((ja (n+1)).call 51 [.o 0,.v (.int 4)] (.dl d::ex))=_;rw [e];show lift (Dg 0 (v:Int)) _=_;rw [z];rfl
def wH{st:ia}:ua O n (.share i f es) sl st=sE (Ef O es sl st) sl λl st=>sE (O.fresh f l st) sl λl st=>Hi (put sl i (.a (.o st.length))) (st++ [.dl l]):=rfl
def OZ(n:Nat)(ns:List Int)(hn:ns.length<=63):∃st',(ja (n+11)).call 64 [.v (.lst (ns.map .int))] []=some (.ok (.v (.bool true)),st'):=by
 obtain ⟨k,D0,fr⟩:=MU (n+9) [] ns hn;replace fr:(ja (n+10)).fresh 50 [.v (.lst (ns.map .int))] []=some (.ok k,[]):=fr;obtain ⟨s,D,hs,D1,dA⟩:=ay (n+9) 5 [] k D0 (by decide) (by decide);replace dA:(ja (n+10)).call 51 [.o 0,.v (.int 5)] [.dl k]=some (.ok (.v (.int (s:Nat))),[.dl D]):=dA;obtain ⟨m,d2,hm,D2,G⟩:=ay (n+9) 2 [] D D1 (by decide) (by decide);replace G:(ja (n+10)).call 51 [.o 0,.v (.int 2)] [.dl D]=some (.ok (.v (.int (m:Nat))),[.dl d2]):=G;obtain ⟨g,d3,l,D3,O⟩:=pJ (n+8) s m hs hm d2 D2 (.a (.v (.lst (ns.map .int)))) [.u,.u,.u,.u,.u,.u,.u];obtain ⟨v,f,hv,D4,H⟩:=ay (n+9) 2 [] d3 D3 (by decide) (by decide);replace H:(ja (n+10)).call 51 [.o 0,.v (.int 2)] [.dl d3]=some (.ok (.v (.int (v:Nat))),[.dl f]):=H;obtain ⟨q,ix⟩:∃q,jc (.lst [.str c0,.str c5]) (v:Nat)=some (.str q):=by match v,hv with|0,y=>exact ⟨c0,rfl⟩|1,y=>exact ⟨c5,rfl⟩
 obtain ⟨be,V⟩:∃be,(q==c0)=be:=⟨_,rfl⟩;obtain ⟨p,t,u,ex,o⟩:=lV n [.dl f] q be V g l (.a (.v (.lst (ns.map .int)))) (.a (.o 0)) (.a (.v (.int (s:Nat)))) (.a (.v (.int (2+(m:Nat))))) .u .u;obtain ⟨L,i⟩:=kL n ([.dl f]++ex) q be V g l;obtain ⟨h,j,K⟩:=QH n ([.dl f]++ex++L) g l;obtain ⟨d,rfl⟩:∃d,h= .dl f::d:=by have:=K 0 (.dl f) trivial rfl;induction h with|nil=>injection this|cons x r=>(injection this with this;subst this);exact ⟨r,rfl⟩
 obtain ⟨t1,d5,W,lt1,D5,B⟩:=BB (n+9) d f D4;obtain ⟨t2,F,X,lt2,D6,C⟩:=BB (n+9) d d5 D5;obtain ⟨l0,P,i0⟩:∃l0,Line l0/\jc (Za g) 0=some (.bytes l0):=by
  rcases l with ⟨a,b,rfl,M,hb⟩|⟨a,b,c,rfl,M,hb,hc⟩;·exact ⟨a,M,rfl⟩
  ·exact ⟨a,M,rfl⟩
 have w63:=zN (n+4) (.dl F::d) t1 t2 l0 W X lt1 lt2 P q be V;obtain ⟨w,it9,w9⟩:∃w,Dg 0 9=some w/\w= [.int 0,.int 1,.int 2,.int 3,.int 4,.int 5,.int 6,.int 7,.int 8]:=⟨_,rfl,rfl⟩;rw [<-w9] at o;unfold jf at o;have it2:Dg 0 2=some [.int 0,.int 1]:=rfl;have hS:ua (ja (n+10)) 2000 (.share 1 50 (.cons (.var 0) .nil)) [.a (.v (.lst (ns.map .int))),.u,.u,.u,.u,.u,.u,.u,.u,.u,.u] []=some (.next,[.a (.v (.lst (ns.map .int))),.a (.o 0),.u,.u,.u,.u,.u,.u,.u,.u,.u],[.dl k]):=by
  have e:Ef (ja (n+10)) (.cons (.var 0) .nil) [.a (.v (.lst (ns.map .int))),.u,.u,.u,.u,.u,.u,.u,.u,.u,.u] []=some (.ok [.v (.lst (ns.map .int))],[]):=by rfl
  simp only [wH,e,sE,fr];rfl
 have z:tf [] (.lst (Aa t1))=some [.lst (Aa t1)]:=rfl;have A:tf [.lst (Aa t1)] (.lst (Aa t2))=some [.lst (Aa t1),.lst (Aa t2)]:=rfl;refine ⟨.dl F::d,?_⟩;simp only [cons_append,nil_append] at o i j;have lp:runs (ua (ja (n+10)) 2000 (.seq (.app 9 (.comp (.idx (.glob 56) (.call 51 (.cons (.var 0) (.cons (.cst (.int 8)) .nil)))) (.rng (.call 51 (.cons (.var 1) (.cons (.cst (.int 4)) .nil)))) [1])) .skip)) [10] [.int 0,.int 1] [.a (.v (.lst (ns.map .int))),.a (.o 0),.a (.v (.int (s:Nat))),.a (.v (.int (2+(m:Nat)))),.a (.v (Za g)),.a (.v (.str q)),p,t,u,.own [],.u] (.dl f::d)=some (.next,[.a (.v (.lst (ns.map .int))),.a (.o 0),.a (.v (.int (s:Nat))),.a (.v (.int (2+(m:Nat)))),.a (.v (Za g)),.a (.v (.str q)),p,t,u,.own [.lst (Aa t1),.lst (Aa t2)],.a (.v (.int 1))],.dl F::d):=by exact rtR [.R 0 (B (.a (.v (.lst (map .int ns)))) ([.a (.v (.int ↑s)),.a (.v (.int (2+↑m))),.a (.v (Za g)),.a (.v (.str q)),p,t,u,.own [],.a (.v (.int 0))])),.L 0 z,.R 0 (C (.a (.v (.lst (map .int ns)))) ([.a (.v (.int ↑s)),.a (.v (.int (2+↑m))),.a (.v (Za g)),.a (.v (.str q)),p,t,u,.own [.lst (Aa t1)],.a (.v (.int 1))])),.L 0 A]
 exact xa [.S 0 hS,.R 0 dA,.R 0 G,.R 1 O,.R 1 H,.F 0 ix,.L 0 it9,.S 0 o,.R 0 i,.R 2 j,.L 2 it2,.S 0 lp,.F 2 i0,.R 0 w63]
def small_law:∀ns:List Int,ns.length<=63->∃st',(ja 12).call 64 [.v (.lst (ns.map .int))] []=some (.ok (.v (.bool true)),st'):=λns h=>OZ 1 ns h
noncomputable abbrev SR:=tw10110043849684766642
noncomputable abbrev TT:=tw14364793385576792824
noncomputable abbrev TP:Program:=pw_rg0336_01
def TZ(i:Nat):Stmt:=(TP.main.body[i]?).getD (.Pass default)
def fA:Stmt->Arguments×List Stmt×Scope| .FunctionDef x a b y z c sc u v t=>(a,b,sc)|x=>default
def dA(i:Nat):Arguments×List Stmt×Scope:=fA (TZ i)
def cA(i:Nat):Arguments×List Stmt×Scope:=match TZ i with| .ClassDef x a y b z c sc u v t k=>(⟨[],[],none,[],[],none,[]⟩,b,sc)|x=>default
def mA(i j:Nat):Arguments×List Stmt×Scope:=fA (((cA i).2.1[j]?).getD (.Pass default))
noncomputable def XN:Life:={}
noncomputable def vc:Option Value:=some (.ref 6)
noncomputable abbrev EN(p:Program):Env:={scope:=p.main.scope,locals:=mainNs,globals:=mainNs,cells:= [],code:= .ref 13,frame:=some 14}
noncomputable abbrev BD(p:Program):List Stmt:=behindTheImports p
abbrev CE(p:Program):Code:= .body (BD p) (EN p)
noncomputable abbrev FB:List Frame:= [topFrame ⟨0,0,0,0⟩]
abbrev seg(p:Program)(a c:Nat):List Stmt:=((BD p).drop a).take c
abbrev SS(t:BT)(n k:Nat)(os:OsState):SharedT:=⟨t,n,XN,⟨[]⟩,boot_drawn,k,os⟩
def Mad(p:Program)(a c:Nat):seg p a c++(BD p).drop (a+c)=(BD p).drop a:=by rw [<-drop_drop];exact take_append_drop c ((BD p).drop a)
noncomputable abbrev Z(s:String):Str:=ofString s
noncomputable abbrev I(n m:Nat):Value:= .int (.ofNat n) m
noncomputable abbrev JN(n:Nat):Value:= .int (.ofNat n) 0
noncomputable abbrev U(s:Str)(n:Nat):Value:= .str s n
noncomputable abbrev R(n:Nat):Value:= .ref n
noncomputable abbrev Y:BT:= .nil
noncomputable abbrev N(o:Obj)(a b:BT):BT:= .node o a b
noncomputable abbrev N0(o:Obj):BT:= .node o .nil .nil
abbrev K(P:Params)(s:Str)(n:Nat)(v:Value):DictEntry:=⟨keyHash P s,.str s n,v⟩
noncomputable abbrev oF(t:Value)(l:List Value):Obj:=⟨t,none,.fields ⟨l⟩,⟨[]⟩⟩
noncomputable abbrev oQ(t:Value)(l:List Value)(n:Nat):Obj:=⟨t,none,.seq ⟨l⟩ n,⟨[]⟩⟩
noncomputable abbrev oD(t:Value)(l:List DictEntry)(n:Nat):Obj:=⟨t,none,.dict ⟨l⟩ n,⟨[]⟩⟩
def s0:=Z "<module>"
def s1:=Z "/claim/cut.py"
def s2:=Z "__main__"
def s3:=Z "type.__subclasses__.Exception.0"
def s4:=Z "type.__subclasses__.Exception.n"
def s5:=Z "__name__"
def s6:=Z "unicore.base"
def s7:=Z "__doc__"
def s8:=Z "__package__"
def s9:=Z "__loader__"
def s10:=Z "__spec__"
def s11:=Z "__annotations__"
def s12:=Z "__builtins__"
def s13:=Z "__file__"
def s14:=Z "__cached__"
def s15:=Z "MAX_CODE"
def Vt:=Z "HIGH_FIRST"
def s17:=Z "HIGH_LAST"
def s18:=Z "LOW_FIRST"
def s19:=Z "LOW_LAST"
def s20:=Z "REPLACEMENT"
def s21:=Z "ORDER_MARK"
def s22:=Z "SUPPLEMENTARY"
def Hh:=Z "UniError"
def Ul:=Z "__module__"
def PG:=Z "__qualname__"
def Vl:=Z "__firstlineno__"
def Gf:=Z "__init__"
def Wl:=Z "__static_attributes__"
def Xl:=Z "self"
def Ou:=Z "told"
def uZ:=Z "UniError.__init__"
def ew:=Z "__weakref__"
def Li:=Z "BadEncoding"
def Eo:=Z "unicore.utf7"
def My:=Z "BadCode"
def gC:=Z "is_code"
def iC:=Z "is_high"
def jC:=Z "is_low"
def kC:=Z "is_surrogate"
def lC:=Z "is_scalar"
def pC:=Z "check_scalars"
def kN:=Z "number"
def Ze:=Z "code"
def Ny:=Z "text"
def s45:=Z "UTF7_PLUS"
def s46:=Z "UTF7_AND"
def s47:=Z "UTF7_MINUS"
def s48:=Z "UTF7_COMMA"
def s49:=Z "UTF7_SLASH"
def s50:=Z "UTF7_DIRECT"
def s51:=Z "UTF7_OPTIONAL"
def s52:=Z "UTF7_SIX"
def s53:=Z "UTF7_UNIT"
def s54:=Z "NOT_DIRECT"
def s55:=Z "a sign that may not stand for itself"
def s56:=Z "EMPTY_RUN"
def s57:=Z "a run without signs"
def s58:=Z "LEFT_OVER"
def s59:=Z "bits that are left over"
def s60:=Z "LONE_UNIT"
def s61:=Z "a surrogate without its other half"
def s62:=Z "OPEN_RUN"
def s63:=Z "a run that isn't closed"
def s64:=Z "NEEDLESS_RUN"
def s65:=Z "a code in a run that stands for itself"
def s66:=Z "SPLIT_RUN"
def s67:=Z "a run straight behind another one"
def rC:=Z "utf7_value"
def sC:=Z "utf7_is_direct"
def tC:=Z "utf7_is_mail_direct"
def uC:=Z "utf7_run_end"
def vC:=Z "utf7_run_units"
def wC:=Z "utf7_run_read"
def xC:=Z "utf7_step"
def Fo:=Z "octet"
def DS:=Z "is_mail"
def s77:=Z "is_optional"
def Pd:=Z "octets"
def Hf:=Z "at"
def s80:=Z "start"
def ES:=Z "end"
def s82:=Z "units"
def s83:=Z "rest"
def Yl:=Z "many"
def s85:=Z "is_even"
def lN:=Z "codes"
def GS:=Z "faults"
def HS:=Z "unit"
def PI:=Z "place"
def s90:=Z "is_closed"
def Jf:=Z "unicore.bocu"
def yC:=Z "decode_utf7"
def zC:=Z "decode_utf7_replaced"
def BC:=Z "utf7_mail_run"
def EC:=Z "decode_mailbox"
def s96:=Z "BLANK"
def s97:=Z "RESET"
def s98:=Z "FIRST_PLACE"
def s99:=Z "ROW"
def rY:=Z "MIDDLE"
def sY:=Z "SINGLES"
def tY:=Z "LEADS"
def uY:=Z "TRAILS"
def wY:=Z "TRAIL_STEP"
def Gx:=Z "behind"
def xY:=Z "KANA_FIRST"
def yY:=Z "KANA_LAST"
def zY:=Z "KANA_PLACE"
def AY:=Z "IDEO_FIRST"
def BY:=Z "IDEO_LAST"
def CY:=Z "HANGUL_FIRST"
def DY:=Z "HANGUL_LAST"
def Ft:=Z "bocu_reach"
def Ht:=Z "bocu_place"
def It:=Z "bocu_number"
def Jt:=Z "bocu_first_lead"
def Kt:=Z "bocu_lead"
def Mt:=Z "bocu_is_lead_of"
def Af:=Z "found"
def EY:=Z "wide"
def gad:=Z "leads"
def dQ:=Z "is_below"
def eQ:=Z "turn"
def had:=Z "first"
def mq:=Z "BocuReader"
def EG:=Z "put"
def FG:=Z "led"
def GG:=Z "trailed"
def HG:=Z "finish"
def fQ:=Z "BocuReader.__init__"
def gQ:=Z "BocuReader.put"
def jQ:=Z "BocuReader.led"
def kQ:=Z "BocuReader.trailed"
def lQ:=Z "BocuReader.told"
def mQ:=Z "BocuReader.finish"
def iad:=Z "difference"
def jad:=Z "lead_at"
def FY:=Z "left"
def Nt:=Z "__dict__"
def je:=Z "unicore.utf16"
def nq:=Z "BocuStream"
def Ot:=Z "decode_bocu"
def GY:=Z "BIG"
def HY:=Z "be"
def IY:=Z "HALF_BITS"
def JY:=Z "HALF_MASK"
def Pt:=Z "utf16_units"
def Qt:=Z "utf16_joined"
def Xg:=Z "feed"
def nQ:=Z "BocuStream.__init__"
def IG:=Z "is_last"
def pQ:=Z "BocuStream.feed"
def kad:=Z "reader"
def lad:=Z "above"
def qQ:=Z "high"
def JG:=Z "low"
def Rt:=Z "utf16_octets"
def Tt:=Z "utf16_unit"
def Ut:=Z "encode_utf16"
def Wt:=Z "utf16_step"
def Yt:=Z "utf16_start"
def Zt:=Z "decode_utf16"
def au:=Z "decode_utf16_replaced"
def ke:=Z "order"
def KY:=Z "with_mark"
def KG:=Z "what"
def oq:=Z "Utf16Stream"
def bu:=Z "encode_utf32"
def cu:=Z "utf32_step"
def LG:=Z "is_lacking"
def UK:=Z "is_strict"
def tQ:=Z "Utf16Stream.__init__"
def uQ:=Z "Utf16Stream.is_lacking"
def LY:=Z "ahead"
def wQ:=Z "Utf16Stream.feed"
def mad:=Z "used"
def MY:=Z "row"
def Bf:=Z "unicore.utf8"
def eu:=Z "utf32_start"
def fu:=Z "decode_utf32"
def gu:=Z "decode_utf32_replaced"
def NY:=Z "UTF8_ALONE"
def nad:=Z "a trail octet without a lead"
def OY:=Z "UTF8_NEVER"
def oad:=Z "an octet that never stands"
def PY:=Z "UTF8_BROKEN"
def qad:=Z "a sequence that breaks off"
def QY:=Z "UTF8_SHORT"
def rad:=Z "a sequence that is cut short"
def RY:=Z "UTF8_LONE"
def sad:=Z "a lone surrogate"
def SY:=Z "UTF8_PAIR"
def tad:=Z "a pair of surrogates"
def TY:=Z "UTF8_FAR"
def uad:=Z "a sequence of four octets"
def UY:=Z "UTF8_NOUGHT"
def vad:=Z "a code 0 of one octet"
def VY:=Z "UTF8_TRAIL"
def WY:=Z "UTF8_PLANE"
def lZ:=Z "UTF8_HIGH"
def mZ:=Z "UTF8_LOW"
def iu:=Z "utf8_octets"
def ju:=Z "encode_utf8"
def ku:=Z "utf8_lead"
def lu:=Z "utf8_piece"
def nu:=Z "decode_utf8"
def wad:=Z "lead"
def jB:=Z "wrong"
def ou:=Z "decode_utf8_replaced"
def pq:=Z "Utf8Stream"
def qu:=Z "utf8_joined"
def uu:=Z "utf8_wide_piece"
def wu:=Z "utf8_low_behind"
def yQ:=Z "Utf8Stream.__init__"
def xad:=Z "whole"
def zQ:=Z "Utf8Stream.feed"
def yad:=Z "waiting"
def tg:=Z "law_rg0336_01"
def xu:=Z "decode_cesu8"
def yu:=Z "decode_modified_utf8"
def zu:=Z "decode_wtf8"
def nZ:=Z "_law_octets"
def oZ:=Z "_law_codes"
def pZ:=Z "_law_feed"
def Au:=Z "_law_deck"
def Bu:=Z "_law_draw"
def Cu:=Z "_law_line"
def Du:=Z "_law_by"
def Eu:=Z "_law_told"
def qZ:=Z "deck"
def zad:=Z "cell"
def Aad:=Z "sort"
def MG:=Z "way"
def rZ:=Z "error"
def Fu:=Z "_law_mended"
def Gu:=Z "_law_cut"
def Hu:=Z "_law_whole"
def Iu:=Z "_law_strict_right"
def Ju:=Z "_law_mended_right"
def Ku:=Z "_law_streams_right"
def Lu:=Z "_law_strict_streams_right"
def Mu:=Z "_law_fed"
def Nu:=Z "_law_damage_right"
def Hx:=Z "law"
def NG:=Z "lines"
def VK:=Z "sign"
def OG:=Z "line"
def sZ:=Z "begin"
def AQ:=Z "stream"
def Bad:=Z "narrow"
def Cad:=Z "is_narrow"
def tZ:=Z "piece"
def Dad:=Z "due"
def Ead:=Z "one"
def Fad:=Z "other"
def Gad:=Z "pairs"
def Had:=Z "rows"
noncomputable abbrev l0:String:=s2766695959194262286x5
noncomputable abbrev l1:String:=s5856160107412720595x4
noncomputable abbrev l2:String:=s658472552662922059x5
noncomputable abbrev l3:String:=s14018661285674007319x4
noncomputable abbrev l4:String:=s7097527257260152453x26
noncomputable abbrev l5:String:=s5946037652744460706x9
noncomputable abbrev l6:String:=s11030030927630378310x26
noncomputable abbrev l7:String:=s10062305145149207511x16
noncomputable abbrev l8:String:=s17162191345867700912x4
noncomputable abbrev l9:String:=s7174869446012820540x8
noncomputable abbrev AM:String:=s5160863994218179198x17
noncomputable abbrev uI:String:=s4278001404047624695x13
noncomputable abbrev Wk:String:=s2742458400755230247x6
noncomputable abbrev yy:String:=s14755015743595814543x17
noncomputable abbrev BM:String:=s10220274742760427390x26
noncomputable abbrev uF:String:=s4290257624100764138x5
noncomputable abbrev vF:String:=s4860613602091757760x24
noncomputable abbrev l17:String:=s4096838299382398694x14
noncomputable abbrev NW:String:=s5991306692159431302x13
noncomputable abbrev cS:String:=s11443829558043349243x14
noncomputable abbrev fS:String:=s6511155373996960695x17
noncomputable abbrev gS:String:=s12411053484034534018x21
noncomputable abbrev xI:String:=s9222952809800978799x4
noncomputable abbrev pF(s q:Str)(d:Arguments×List Stmt×Scope):Obj:=⟨.none,none,.func ⟨s,q,d.1,.stmts d.2.1,d.2.2,0,[],.none,.none,.none,.none,none,.none,.none,0⟩,⟨[]⟩⟩
abbrev gF(s q:Str)(d:Arguments×List Stmt×Scope)(x:Value)(m:Str)(n r:Nat):Obj:=⟨.type l9,none,.func ⟨s,q,d.1,.stmts d.2.1,d.2.2,3,[],x,.none,.none,U m n,none,R r,.none,0⟩,⟨[]⟩⟩
abbrev cF(s q:Str)(n a b c d e r:Nat)(t:Bool)(u:Nat)(x y z w:Value)(m:Nat):Obj:=oF (.type l1) [U s n,U q (n+1),U s1 (n+2),JN a,JN b,JN c,JN d,JN e,R r,.bool t,JN 181,R u,x,y,z,w,JN m,JN a,U s1 (m+1)]
def o0:Obj:=oQ (.type l0) [] 0
def o1:Obj:=oF .none []
def o2:Obj:=cF s0 s0 182 1 0 0 0 0 11 false 12 .none .none .none .none 185
def o3:Obj:=⟨.type l2,none,.plain,⟨[some (R 13),some (R 3),some (R 3),none,some (U s2 164),none,some (R 0)]⟩⟩
def o4(P:Params):Obj:=oD .none [K P s3 230 (JN 32),K P s4 231 (JN 1)] 2
def pr1(P:Params):List DictEntry:= [K P s7 166 .none,K P s8 167 .none,K P s9 168 (.builtin l4),K P s10 169 .none,K P s11 170 (R 6),K P s12 171 (R 4),K P s13 173 (U s1 172),K P s14 174 .none,K P s15 190 (I 1114111 189),K P Vt 192 (I 55296 191),K P s17 194 (I 56319 193),K P s18 196 (I 56320 195),K P s19 198 (I 57343 197),K P s20 200 (I 65533 199),K P s21 202 (I 65279 201),K P s22 204 (I 65536 203),K P Hh 233 (R 32)]
def o5(P:Params):Obj:=oD (.type l3) ((K P s5 165 (U s6 187))::pr1 P) 18
def o6:Obj:=oF .none [JN 10,JN 0,R 20]
def o7:Obj:=oQ (.type l0) [.type l5] 0
def o8:Obj:=oF (.type l6) [.builtin l7,.type l8]
def o9(P:Params):Obj:=oD (.type l3) [K P Ul 212 (U s6 187),K P PG 214 (U Hh 213),K P Vl 216 (I 10 215),K P Gf 224 (R 29),K P Wl 226 (R 30)] 5
def Ii:Obj:=oF .none [JN 12,JN 4,R 28]
def jj:Obj:=cF Hh Hh 207 10 0 0 0 0 18 false 19 .none .none .none .none 210
def ck:Obj:=⟨.type l2,none,.plain,⟨[some (R 20),some (R 3),some (R 17),none,some (U s6 187),none,some (R 0)]⟩⟩
def Tc:Obj:=oQ (.type l0) [.none] 0
def dk:Obj:=oQ (.type l0) [U Xl 220,U Ou 221] 0
def fk:Obj:=pF Gf uZ (mA 9 0)
def kj:Obj:=cF Gf uZ 217 12 2 0 0 3 23 true 24 .none (R 25) (R 26) (R 27) 222
def Ph:Obj:=gF Gf uZ (mA 9 0) (R 22) s6 187 28
def gk:Obj:=oQ (.type l0) [U Ou 225] 0
def pr2(P:Params):List DictEntry:= [K P Vl 216 (I 10 215),K P Gf 224 (R 29),K P Wl 226 (R 30),K P ew 228 (R 33),K P s7 229 .none]
def lj(P:Params):Obj:=oD (.type l3) ((K P Ul 212 (U s6 187))::pr2 P) 3
def o20:Obj:=⟨.type l8,none,.cls ⟨Hh,[.type l5],[R 32,.type l5,.type uI,.type Wk],31,Hh,true,[],[],false,none,false⟩,⟨[some (R 15),none,some (U Hh 205),some (U Hh 213),some (.builtin AM),some (.bool true)]⟩⟩
def mj:Obj:=oF (.type yy) [U ew 227,R 32,.builtin BM,.none]
def ik:Obj:=oF (.type uF) [R 32,R 32,R 32]
def jk:Obj:=oF (.type l6) [.builtin vF,R 32]
def pr3(P:Params):List DictEntry:=pr1 P++ [K P Li 249 (R 45)]
def o24(P:Params):Obj:=oD (.type l3) ((K P s5 165 (U s6 187))::pr3 P) 19
def o25:Obj:=oF .none [JN 10,JN 0,R 20,JN 14,JN 0,R 41]
def o26:Obj:=⟨.type l8,none,.cls ⟨Hh,[.type l5],[R 32,.type l5,.type uI,.type Wk],31,Hh,true,[],[R 45],false,none,false⟩,⟨[some (R 15),none,some (U Hh 205),some (U Hh 213),some (.builtin AM),some (.bool true)]⟩⟩
def Xe:Obj:=oQ (.type l0) [R 32] 0
def nk(P:Params):Obj:=oD (.type l3) [K P Ul 241 (U s6 187),K P PG 243 (U Li 242),K P Vl 245 (I 14 244),K P Wl 246 (R 43)] 4
def qk:Obj:=cF Li Li 236 14 0 0 0 0 39 false 40 .none .none .none .none 239
def Zk:Obj:=⟨.type l2,none,.plain,⟨[some (R 41),some (R 3),some (R 38),none,some (U s6 187),none,some (R 0)]⟩⟩
def rk(P:Params):Obj:=oD (.type l3) [K P Ul 241 (U s6 187),K P Vl 245 (I 14 244),K P Wl 246 (R 43),K P s7 247 .none] 2
def sk:Obj:=⟨.type l8,none,.cls ⟨Li,[R 32],[R 45,R 32,.type l5,.type uI,.type Wk],44,Li,true,[],[],false,none,false⟩,⟨[some (R 36),none,some (U Li 234),some (U Li 242),some (.builtin AM),some (.bool true)]⟩⟩
def bl:Obj:=oF (.type uF) [R 45,R 45,R 45]
def il:Obj:=oF (.type l6) [.builtin vF,R 45]
def pr4(P:Params):List DictEntry:=pr3 P++ [K P My 265 (R 57),K P gC 272 (R 66),K P iC 279 (R 73),K P jC 286 (R 80),K P kC 293 (R 87),K P lC 300 (R 94),K P pC 308 (R 101)]
def o35(P:Params):Obj:=oD (.type l3) ((K P s5 165 (U Eo 309))::pr4 P) 26
def o36:Obj:=oF .none [JN 10,JN 0,R 20,JN 14,JN 0,R 41,JN 16,JN 0,R 53,JN 18,JN 0,R 65,JN 20,JN 0,R 72,JN 22,JN 0,R 79,JN 24,JN 0,R 86,JN 26,JN 0,R 93,JN 28,JN 0,R 100]
def uk:Obj:=⟨.type l8,none,.cls ⟨Hh,[.type l5],[R 32,.type l5,.type uI,.type Wk],31,Hh,true,[],[R 45,R 57],false,none,false⟩,⟨[some (R 15),none,some (U Hh 205),some (U Hh 213),some (.builtin AM),some (.bool true)]⟩⟩
def jl(P:Params):Obj:=oD (.type l3) [K P Ul 257 (U s6 187),K P PG 259 (U My 258),K P Vl 261 (I 16 260),K P Wl 262 (R 55)] 4
def kl:Obj:=cF My My 252 16 0 0 0 0 51 false 52 .none .none .none .none 255
def En:Obj:=⟨.type l2,none,.plain,⟨[some (R 53),some (R 3),some (R 50),none,some (U s6 187),none,some (R 0)]⟩⟩
def ql(P:Params):Obj:=oD (.type l3) [K P Ul 257 (U s6 187),K P Vl 261 (I 16 260),K P Wl 262 (R 55),K P s7 263 .none] 2
def yl:Obj:=⟨.type l8,none,.cls ⟨My,[R 32],[R 57,R 32,.type l5,.type uI,.type Wk],56,My,true,[],[],false,none,false⟩,⟨[some (R 48),none,some (U My 250),some (U My 258),some (.builtin AM),some (.bool true)]⟩⟩
def Gn:Obj:=oF (.type uF) [R 57,R 57,R 57]
def Hn:Obj:=oF (.type l6) [.builtin vF,R 57]
def Jn:Obj:=oQ (.type l0) [U kN 269] 0
def Kn:Obj:=pF gC gC (dA 12)
def zl:Obj:=cF gC gC 266 18 1 0 0 3 60 true 61 .none (R 62) (R 63) (R 64) 270
def Al:Obj:=gF gC gC (dA 12) .none s6 187 65
def Ln:Obj:=oQ (.type l0) [U Ze 276] 0
def Mn:Obj:=pF iC iC (dA 13)
def Bl:Obj:=cF iC iC 273 20 1 0 0 3 67 true 68 .none (R 69) (R 70) (R 71) 277
def Dl:Obj:=gF iC iC (dA 13) .none s6 187 72
def Nn:Obj:=oQ (.type l0) [U Ze 283] 0
def Pn:Obj:=pF jC jC (dA 14)
def El:Obj:=cF jC jC 280 22 1 0 0 3 74 true 75 .none (R 76) (R 77) (R 78) 284
def Gl:Obj:=gF jC jC (dA 14) .none s6 187 79
def Qn:Obj:=oQ (.type l0) [U Ze 290] 0
def Rn:Obj:=pF kC kC (dA 15)
def Hl:Obj:=cF kC kC 287 24 1 0 0 3 81 true 82 .none (R 83) (R 84) (R 85) 291
def Il:Obj:=gF kC kC (dA 15) .none s6 187 86
def Sn:Obj:=oQ (.type l0) [U kN 297] 0
def Tn:Obj:=pF lC lC (dA 16)
def Jl:Obj:=cF lC lC 294 26 1 0 0 3 88 true 89 .none (R 90) (R 91) (R 92) 298
def Kl:Obj:=gF lC lC (dA 16) .none s6 187 93
def Un:Obj:=oQ (.type l0) [U Ny 304,U Ze 305] 0
def Vn:Obj:=pF pC pC (dA 17)
def Ll:Obj:=cF pC pC 301 28 1 0 0 3 95 true 96 .none (R 97) (R 98) (R 99) 306
def Ml:Obj:=gF pC pC (dA 17) .none s6 187 100
def pr5(P:Params):List DictEntry:=pr4 P++ [K P s45 312 (I 43 311),K P s46 314 (I 38 313),K P s47 316 (I 45 315),K P s48 318 (I 44 317),K P s49 320 (I 47 319),K P s50 322 (.bytes ⟨[39,40,41,44,45,46,47,58,63,9,10,13,32]⟩ 321),K P s51 324 (.bytes ⟨[33,34,35,36,37,38,42,59,60,61,62,64,91,93,94,95,96,123,124,125]⟩ 323),K P s52 326 (I 6 325),K P s53 328 (I 16 327),K P s54 330 (U s55 329),K P s56 332 (U s57 331),K P s58 334 (U s59 333),K P s60 336 (U s61 335),K P s62 338 (U s63 337),K P s64 340 (U s65 339),K P s66 342 (U s67 341),K P rC 350 (R 108),K P sC 358 (R 115),K P tC 365 (R 122),K P uC 374 (R 129),K P vC 388 (R 136),K P wC 405 (R 143),K P xC 418 (R 150)]
def o69(P:Params):Obj:=oD (.type l3) ((K P s5 165 (U Eo 309))::pr5 P) 49
def o70:Obj:=oF .none [JN 10,JN 0,R 20,JN 14,JN 0,R 41,JN 16,JN 0,R 53,JN 18,JN 0,R 65,JN 20,JN 0,R 72,JN 22,JN 0,R 79,JN 24,JN 0,R 86,JN 26,JN 0,R 93,JN 28,JN 0,R 100,JN 49,JN 0,R 107,JN 59,JN 0,R 114,JN 65,JN 0,R 121,JN 67,JN 0,R 128,JN 71,JN 0,R 135,JN 81,JN 0,R 142,JN 102,JN 0,R 149]
def Mq:Obj:=oQ (.type l0) [U Fo 346,U DS 347] 0
def Nq:Obj:=pF rC rC (dA 35)
def Wn:Obj:=cF rC rC 343 49 2 0 0 3 102 true 103 .none (R 104) (R 105) (R 106) 348
def Xn:Obj:=gF rC rC (dA 35) .none Eo 309 107
def Oq:Obj:=oQ (.type l0) [U Ze 354,U s77 355] 0
def Pq:Obj:=pF sC sC (dA 36)
def Yn:Obj:=cF sC sC 351 59 2 0 0 3 109 true 110 .none (R 111) (R 112) (R 113) 356
def Zn:Obj:=gF sC sC (dA 36) .none Eo 309 114
def Qq:Obj:=oQ (.type l0) [U Ze 362] 0
def Rq:Obj:=pF tC tC (dA 37)
def ao:Obj:=cF tC tC 359 65 1 0 0 3 116 true 117 .none (R 118) (R 119) (R 120) 363
def bo:Obj:=gF tC tC (dA 37) .none Eo 309 121
def Sq:Obj:=oQ (.type l0) [U Pd 369,U Hf 370,U DS 371] 0
def Tq:Obj:=pF uC uC (dA 38)
def eo:Obj:=cF uC uC 366 67 3 0 0 3 123 true 124 .none (R 125) (R 126) (R 127) 372
def oo:Obj:=gF uC uC (dA 38) .none Eo 309 128
def Uq:Obj:=oQ (.type l0) [U Pd 378,U s80 379,U ES 380,U DS 381,U s82 382,U s83 383,U Yl 384,U Fo 385] 0
def Vq:Obj:=pF vC vC (dA 39)
def qo:Obj:=cF vC vC 375 71 4 0 0 3 130 true 131 .none (R 132) (R 133) (R 134) 386
def ro:Obj:=gF vC vC (dA 39) .none Eo 309 135
def Wq:Obj:=oQ (.type l0) [U Pd 392,U s80 393,U ES 394,U DS 395,U s82 396,U s85 397,U lN 398,U GS 399,U Hf 400,U HS 401,U PI 402] 0
def Xq:Obj:=pF wC wC (dA 40)
def so:Obj:=cF wC wC 389 81 4 0 0 3 137 true 138 .none (R 139) (R 140) (R 141) 403
def uo:Obj:=gF wC wC (dA 40) .none Eo 309 142
def Yq:Obj:=oQ (.type l0) [U Pd 409,U Hf 410,U Fo 411,U ES 412,U s90 413,U lN 414,U GS 415] 0
def Zq:Obj:=pF xC xC (dA 41)
def vo:Obj:=cF xC xC 406 102 2 0 0 3 144 true 145 .none (R 146) (R 147) (R 148) 416
def wo:Obj:=gF xC xC (dA 41) .none Eo 309 149
def pr6(P:Params):List DictEntry:=pr5 P++ [K P yC 429 (R 157),K P zC 435 (R 162),K P BC 448 (R 169),K P EC 461 (R 176),K P s96 465 (I 32 464),K P s97 467 (I 255 466),K P s98 469 (I 64 468),K P s99 471 (I 128 470),K P rY 473 (I 144 472),K P sY 475 (I 64 474),K P tY 479 (R 177),K P uY 481 (I 243 480),K P wY 483 (I 13 482)]
def o99(P:Params):Obj:=oD (.type l3) ((K P s5 165 (U Jf 462))::pr6 P) 62
def aX:Obj:=oF .none [JN 10,JN 0,R 20,JN 14,JN 0,R 41,JN 16,JN 0,R 53,JN 18,JN 0,R 65,JN 20,JN 0,R 72,JN 22,JN 0,R 79,JN 24,JN 0,R 86,JN 26,JN 0,R 93,JN 28,JN 0,R 100,JN 49,JN 0,R 107,JN 59,JN 0,R 114,JN 65,JN 0,R 121,JN 67,JN 0,R 128,JN 71,JN 0,R 135,JN 81,JN 0,R 142,JN 102,JN 0,R 149,JN 116,JN 0,R 156,JN 124,JN 0,R 161,JN 130,JN 0,R 168,JN 145,JN 0,R 175]
def Vj:Obj:=oQ (.type l0) [U Pd 422,U Ny 423,U Hf 424,U lN 425,U GS 426] 0
def Wj:Obj:=pF yC yC (dA 42)
def Vi:Obj:=cF yC yC 419 116 1 0 0 3 151 true 152 .none (R 153) (R 154) (R 155) 427
def Wi:Obj:=gF yC yC (dA 42) .none Eo 309 156
def Xj:Obj:=pF zC zC (dA 43)
def Xi:Obj:=cF zC zC 430 124 1 0 0 3 158 true 159 .none .none .none (R 160) 433
def Yi:Obj:=gF zC zC (dA 43) .none Eo 309 161
def Yj:Obj:=oQ (.type l0) [U Pd 439,U Hf 440,U Gx 441,U ES 442,U s90 443,U lN 444,U GS 445] 0
def Zj:Obj:=pF BC BC (dA 44)
def Zi:Obj:=cF BC BC 436 130 3 0 0 3 163 true 164 .none (R 165) (R 166) (R 167) 446
def aj:Obj:=gF BC BC (dA 44) .none Eo 309 168
def ak:Obj:=oQ (.type l0) [U Pd 452,U Ny 453,U Hf 454,U Gx 455,U Fo 456,U lN 457,U PI 458] 0
def bk:Obj:=pF EC EC (dA 45)
def bj:Obj:=cF EC EC 449 145 1 0 0 3 170 true 171 .none (R 172) (R 173) (R 174) 459
def cj:Obj:=gF EC EC (dA 45) .none Eo 309 175
def dj:Obj:=oQ (.type l0) [I 43 476,I 3 477,I 1 478] 0
def pr7(P:Params):List DictEntry:=pr6 P++ [K P xY 487 (I 12352 484),K P yY 488 (I 12447 485),K P zY 489 (I 12400 486),K P AY 492 (I 19968 490),K P BY 493 (I 40869 491),K P CY 496 (I 44032 494),K P DY 497 (I 55203 495)]
def hac(P:Params):Obj:=oD (.type l3) ((K P s5 165 (U Jf 462))::pr7 P) 69
def Bm:Obj:=oQ (.type l0) [I 12352 484,I 12447 485,I 12400 486] 0
def Cm:Obj:=oF (.type l17) [.none,JN 3]
def Dm:Obj:=oF (.type NW) [R 180,.none,.none,.none,.bool false,.none]
def Em:Obj:=oQ (.type l0) [I 19968 490,I 40869 491] 0
def We:Obj:=oF (.type l17) [.none,JN 2]
def Fm:Obj:=oF (.type NW) [R 184,.none,.none,.none,.bool false,.none]
def Gm:Obj:=oQ (.type l0) [I 44032 494,I 55203 495] 0
def Hm:Obj:=oF (.type NW) [R 188,.none,.none,.none,.bool false,.none]
def pr8(P:Params):List DictEntry:=pr7 P++ [K P Ft 507 (R 196),K P Ht 514 (R 203),K P It 521 (R 210),K P Jt 529 (R 217),K P Kt 541 (R 224),K P Mt 551 (R 231)]
def iac(P:Params):Obj:=oD (.type l3) ((K P s5 165 (U Jf 462))::pr8 P) 75
def jac:Obj:=oF .none [JN 10,JN 0,R 20,JN 14,JN 0,R 41,JN 16,JN 0,R 53,JN 18,JN 0,R 65,JN 20,JN 0,R 72,JN 22,JN 0,R 79,JN 24,JN 0,R 86,JN 26,JN 0,R 93,JN 28,JN 0,R 100,JN 49,JN 0,R 107,JN 59,JN 0,R 114,JN 65,JN 0,R 121,JN 67,JN 0,R 128,JN 71,JN 0,R 135,JN 81,JN 0,R 142,JN 102,JN 0,R 149,JN 116,JN 0,R 156,JN 124,JN 0,R 161,JN 130,JN 0,R 168,JN 145,JN 0,R 175,JN 173,JN 0,R 195,JN 179,JN 0,R 202,JN 187,JN 0,R 209,JN 197,JN 0,R 216,JN 201,JN 0,R 223,JN 213,JN 0,R 230]
def yp:Obj:=oQ (.type l0) [U Yl 501,U Af 502,U EY 503,U gad 504] 0
def Ap:Obj:=pF Ft Ft (dA 59)
def Im:Obj:=cF Ft Ft 498 173 1 0 0 3 190 true 191 .none (R 192) (R 193) (R 194) 505
def Jm:Obj:=gF Ft Ft (dA 59) .none Jf 462 195
def Bp:Obj:=oQ (.type l0) [U Ze 511] 0
def Cp:Obj:=pF Ht Ht (dA 60)
def Km:Obj:=cF Ht Ht 508 179 1 0 0 3 197 true 198 .none (R 199) (R 200) (R 201) 512
def Lm:Obj:=gF Ht Ht (dA 60) .none Jf 462 202
def Dp:Obj:=oQ (.type l0) [U Fo 518] 0
def Ep:Obj:=pF It It (dA 61)
def Mm:Obj:=cF It It 515 187 1 0 0 3 204 true 205 .none (R 206) (R 207) (R 208) 519
def Nm:Obj:=gF It It (dA 61) .none Jf 462 209
def Fp:Obj:=oQ (.type l0) [U Yl 525,U dQ 526] 0
def Gp:Obj:=pF Jt Jt (dA 62)
def Om:Obj:=cF Jt Jt 522 197 2 0 0 3 211 true 212 .none (R 213) (R 214) (R 215) 527
def Pm:Obj:=gF Jt Jt (dA 62) .none Jf 462 216
def Hp:Obj:=oQ (.type l0) [U Fo 533,U dQ 534,U Yl 535,U EY 536,U eQ 537,U Ou 538] 0
def Ip:Obj:=pF Kt Kt (dA 63)
def Qm:Obj:=cF Kt Kt 530 201 1 0 0 3 218 true 219 .none (R 220) (R 221) (R 222) 539
def Rm:Obj:=gF Kt Kt (dA 63) .none Jf 462 223
def Jp:Obj:=oQ (.type l0) [U Fo 545,U Yl 546,U dQ 547,U had 548] 0
def Kp:Obj:=pF Mt Mt (dA 64)
def Sm:Obj:=cF Mt Mt 542 213 3 0 0 3 225 true 226 .none (R 227) (R 228) (R 229) 549
def Um:Obj:=gF Mt Mt (dA 64) .none Jf 462 230
def pr9(P:Params):List DictEntry:=pr8 P++ [K P mq 624 (R 283)]
def kac(P:Params):Obj:=oD (.type l3) ((K P s5 165 (U Jf 462))::pr9 P) 76
def lac:Obj:=oF .none [JN 10,JN 0,R 20,JN 14,JN 0,R 41,JN 16,JN 0,R 53,JN 18,JN 0,R 65,JN 20,JN 0,R 72,JN 22,JN 0,R 79,JN 24,JN 0,R 86,JN 26,JN 0,R 93,JN 28,JN 0,R 100,JN 49,JN 0,R 107,JN 59,JN 0,R 114,JN 65,JN 0,R 121,JN 67,JN 0,R 128,JN 71,JN 0,R 135,JN 81,JN 0,R 142,JN 102,JN 0,R 149,JN 116,JN 0,R 156,JN 124,JN 0,R 161,JN 130,JN 0,R 168,JN 145,JN 0,R 175,JN 173,JN 0,R 195,JN 179,JN 0,R 202,JN 187,JN 0,R 209,JN 197,JN 0,R 216,JN 201,JN 0,R 223,JN 213,JN 0,R 230,JN 218,JN 0,R 237]
def Sac(P:Params):List DictEntry:= [K P PG 561 (U mq 560),K P Vl 563 (I 218 562),K P Gf 570 (R 245),K P EG 578 (R 252),K P FG 586 (R 259),K P GG 596 (R 266),K P Ou 604 (R 273),K P HG 611 (R 280),K P Wl 617 (R 281)]
def Lp(P:Params):Obj:=oD (.type l3) ((K P Ul 559 (U Jf 462))::Sac P) 10
def js:Obj:=oF .none [JN 220,JN 4,R 244,JN 227,JN 4,R 251,JN 233,JN 4,R 258,JN 244,JN 4,R 265,JN 254,JN 4,R 272,JN 261,JN 4,R 279]
def Mp:Obj:=cF mq mq 554 218 0 0 0 0 235 false 236 .none .none .none .none 557
def As:Obj:=⟨.type l2,none,.plain,⟨[some (R 237),some (R 3),some (R 234),none,some (U Jf 462),none,some (R 0)]⟩⟩
def Bs:Obj:=oQ (.type l0) [U Xl 567] 0
def Cs:Obj:=pF Gf fQ (mA 65 0)
def Np:Obj:=cF Gf fQ 564 220 1 0 0 3 239 true 240 .none (R 241) (R 242) (R 243) 568
def Pp:Obj:=gF Gf fQ (mA 65 0) .none Jf 462 244
def Ds:Obj:=oQ (.type l0) [U Xl 574,U Fo 575] 0
def Es:Obj:=pF EG gQ (mA 65 1)
def Qp:Obj:=cF EG gQ 571 227 2 0 0 3 246 true 247 .none (R 248) (R 249) (R 250) 576
def Rp:Obj:=gF EG gQ (mA 65 1) .none Jf 462 251
def Fs:Obj:=oQ (.type l0) [U Xl 582,U Fo 583] 0
def Gs:Obj:=pF FG jQ (mA 65 2)
def Sp:Obj:=cF FG jQ 579 233 2 0 0 3 253 true 254 .none (R 255) (R 256) (R 257) 584
def Tp:Obj:=gF FG jQ (mA 65 2) .none Jf 462 258
def Hs:Obj:=oQ (.type l0) [U Xl 590,U Fo 591,U kN 592,U eQ 593] 0
def Js:Obj:=pF GG kQ (mA 65 3)
def Vp:Obj:=cF GG kQ 587 244 2 0 0 3 260 true 261 .none (R 262) (R 263) (R 264) 594
def Xp:Obj:=gF GG kQ (mA 65 3) .none Jf 462 265
def Ks:Obj:=oQ (.type l0) [U Xl 600,U Ze 601] 0
def Ls:Obj:=pF Ou lQ (mA 65 4)
def Yp:Obj:=cF Ou lQ 597 254 1 0 0 3 267 true 268 .none (R 269) (R 270) (R 271) 602
def Zp:Obj:=gF Ou lQ (mA 65 4) .none Jf 462 272
def Ms:Obj:=oQ (.type l0) [U Xl 608] 0
def Qs:Obj:=pF HG mQ (mA 65 5)
def aq:Obj:=cF HG mQ 605 261 1 0 0 3 274 true 275 .none (R 276) (R 277) (R 278) 609
def bq:Obj:=gF HG mQ (mA 65 5) .none Jf 462 279
def Ss:Obj:=oQ (.type l0) [U Hf 612,U iad 613,U jad 614,U FY 615,U PI 616] 0
def Uac(P:Params):List DictEntry:= [K P Vl 563 (I 218 562),K P Gf 570 (R 245),K P EG 578 (R 252),K P FG 586 (R 259),K P GG 596 (R 266),K P Ou 604 (R 273),K P HG 611 (R 280),K P Wl 617 (R 281),K P Nt 619 (R 284),K P ew 621 (R 285),K P s7 622 .none]
def cq(P:Params):Obj:=oD (.type l3) ((K P Ul 559 (U Jf 462))::Uac P) 4
def dq:Obj:=⟨.type l8,none,.cls ⟨mq,[.type Wk],[R 283,.type Wk],282,mq,true,[],[],false,none,false⟩,⟨[none,none,some (U mq 552),some (U mq 560),some (.builtin cS),some (.bool true)]⟩⟩
def fq:Obj:=oF (.type yy) [U Nt 618,R 283,.builtin fS,.builtin gS]
def gq:Obj:=oF (.type yy) [U ew 620,R 283,.builtin BM,.none]
def Ts:Obj:=oF (.type uF) [R 283,R 283,R 283]
def Us:Obj:=oF (.type l6) [.builtin vF,R 283]
def bY(P:Params):List DictEntry:=pr9 P++ [K P nq 664 (R 312),K P Ot 671 (R 323),K P GY 675 (U HY 674),K P IY 677 (I 10 676),K P JY 679 (I 1023 678),K P Pt 689 (R 330),K P Qt 697 (R 337)]
def mac(P:Params):Obj:=oD (.type l3) ((K P s5 165 (U je 672))::bY P) 83
def nac:Obj:=oF .none [JN 10,JN 0,R 20,JN 14,JN 0,R 41,JN 16,JN 0,R 53,JN 18,JN 0,R 65,JN 20,JN 0,R 72,JN 22,JN 0,R 79,JN 24,JN 0,R 86,JN 26,JN 0,R 93,JN 28,JN 0,R 100,JN 49,JN 0,R 107,JN 59,JN 0,R 114,JN 65,JN 0,R 121,JN 67,JN 0,R 128,JN 71,JN 0,R 135,JN 81,JN 0,R 142,JN 102,JN 0,R 149,JN 116,JN 0,R 156,JN 124,JN 0,R 161,JN 130,JN 0,R 168,JN 145,JN 0,R 175,JN 173,JN 0,R 195,JN 179,JN 0,R 202,JN 187,JN 0,R 209,JN 197,JN 0,R 216,JN 201,JN 0,R 223,JN 213,JN 0,R 230,JN 218,JN 0,R 237,JN 264,JN 0,R 293,JN 278,JN 0,R 322,JN 284,JN 0,R 329,JN 295,JN 0,R 336]
def Vac(P:Params):List DictEntry:= [K P PG 634 (U nq 633),K P Vl 636 (I 264 635),K P Gf 643 (R 301),K P Xg 655 (R 309),K P Wl 657 (R 310)]
def Vs(P:Params):Obj:=oD (.type l3) ((K P Ul 632 (U Jf 462))::Vac P) 6
def Nw:Obj:=oF .none [JN 266,JN 4,R 300,JN 269,JN 4,R 308]
def Ws:Obj:=cF nq nq 627 264 0 0 0 0 291 false 292 .none .none .none .none 630
def Ow:Obj:=⟨.type l2,none,.plain,⟨[some (R 293),some (R 3),some (R 290),none,some (U Jf 462),none,some (R 0)]⟩⟩
def Pw:Obj:=oQ (.type l0) [U Xl 640] 0
def Qw:Obj:=pF Gf nQ (mA 66 0)
def Xs:Obj:=cF Gf nQ 637 266 1 0 0 3 295 true 296 .none (R 297) (R 298) (R 299) 641
def Ys:Obj:=gF Gf nQ (mA 66 0) .none Jf 462 300
def ue:Obj:=oQ (.type l0) [.bool false] 0
def Rw:Obj:=oQ (.type l0) [U Xl 647,U Pd 648,U IG 649,U Af 650,U Fo 651,U Ze 652] 0
def Sw:Obj:=pF Xg pQ (mA 66 1)
def Zs:Obj:=cF Xg pQ 644 269 3 0 0 3 303 true 304 .none (R 305) (R 306) (R 307) 653
def bt:Obj:=gF Xg pQ (mA 66 1) (R 302) Jf 462 308
def Tw:Obj:=oQ (.type l0) [U kad 656] 0
def Wac(P:Params):List DictEntry:= [K P Vl 636 (I 264 635),K P Gf 643 (R 301),K P Xg 655 (R 309),K P Wl 657 (R 310),K P Nt 659 (R 313),K P ew 661 (R 314),K P s7 662 .none]
def ct(P:Params):Obj:=oD (.type l3) ((K P Ul 632 (U Jf 462))::Wac P) 4
def dt:Obj:=⟨.type l8,none,.cls ⟨nq,[.type Wk],[R 312,.type Wk],311,nq,true,[],[],false,none,false⟩,⟨[none,none,some (U nq 625),some (U nq 633),some (.builtin cS),some (.bool true)]⟩⟩
def ft:Obj:=oF (.type yy) [U Nt 658,R 312,.builtin fS,.builtin gS]
def jt:Obj:=oF (.type yy) [U ew 660,R 312,.builtin BM,.none]
def Uw:Obj:=oF (.type uF) [R 312,R 312,R 312]
def Vw:Obj:=oF (.type l6) [.builtin vF,R 312]
def Ww:Obj:=oQ (.type l0) [U Pd 668] 0
def Xw:Obj:=pF Ot Ot (dA 67)
def nt:Obj:=cF Ot Ot 665 278 1 0 0 3 317 true 318 .none (R 319) (R 320) (R 321) 669
def ot:Obj:=gF Ot Ot (dA 67) .none Jf 462 322
def Yw:Obj:=oQ (.type l0) [U Ny 683,U Af 684,U Ze 685,U lad 686] 0
def Zw:Obj:=pF Pt Pt (dA 72)
def qt:Obj:=cF Pt Pt 680 284 1 0 0 3 324 true 325 .none (R 326) (R 327) (R 328) 687
def rt:Obj:=gF Pt Pt (dA 72) .none je 672 329
def ax:Obj:=oQ (.type l0) [U qQ 693,U JG 694] 0
def cx:Obj:=pF Qt Qt (dA 73)
def vt:Obj:=cF Qt Qt 690 295 2 0 0 3 331 true 332 .none (R 333) (R 334) (R 335) 695
def wt:Obj:=gF Qt Qt (dA 73) .none je 672 336
def cY(P:Params):List DictEntry:=bY P++ [K P Rt 705 (R 344),K P Tt 714 (R 351),K P Ut 725 (R 359),K P Wt 736 (R 366),K P Yt 744 (R 373),K P Zt 757 (R 381),K P au 769 (R 389)]
def oac(P:Params):Obj:=oD (.type l3) ((K P s5 165 (U je 672))::cY P) 90
def pac:Obj:=oF .none [JN 10,JN 0,R 20,JN 14,JN 0,R 41,JN 16,JN 0,R 53,JN 18,JN 0,R 65,JN 20,JN 0,R 72,JN 22,JN 0,R 79,JN 24,JN 0,R 86,JN 26,JN 0,R 93,JN 28,JN 0,R 100,JN 49,JN 0,R 107,JN 59,JN 0,R 114,JN 65,JN 0,R 121,JN 67,JN 0,R 128,JN 71,JN 0,R 135,JN 81,JN 0,R 142,JN 102,JN 0,R 149,JN 116,JN 0,R 156,JN 124,JN 0,R 161,JN 130,JN 0,R 168,JN 145,JN 0,R 175,JN 173,JN 0,R 195,JN 179,JN 0,R 202,JN 187,JN 0,R 209,JN 197,JN 0,R 216,JN 201,JN 0,R 223,JN 213,JN 0,R 230,JN 218,JN 0,R 237,JN 264,JN 0,R 293,JN 278,JN 0,R 322,JN 284,JN 0,R 329,JN 295,JN 0,R 336,JN 297,JN 0,R 343,JN 299,JN 0,R 350,JN 301,JN 0,R 358,JN 306,JN 0,R 365,JN 319,JN 0,R 372,JN 325,JN 0,R 380,JN 335,JN 0,R 388]
def qA:Obj:=oQ (.type l0) [U HS 701,U ke 702] 0
def rA:Obj:=pF Rt Rt (dA 74)
def dx:Obj:=cF Rt Rt 698 297 2 0 0 3 338 true 339 .none (R 340) (R 341) (R 342) 703
def fx:Obj:=gF Rt Rt (dA 74) .none je 672 343
def sA:Obj:=oQ (.type l0) [U Pd 709,U Hf 710,U ke 711] 0
def tA:Obj:=pF Tt Tt (dA 75)
def jx:Obj:=cF Tt Tt 706 299 3 0 0 3 345 true 346 .none (R 347) (R 348) (R 349) 712
def mx:Obj:=gF Tt Tt (dA 75) .none je 672 350
def di:Obj:=oQ (.type l0) [U HY 674,.bool false] 0
def uA:Obj:=oQ (.type l0) [U Ny 718,U ke 719,U KY 720,U Af 721,U HS 722] 0
def vA:Obj:=pF Ut Ut (dA 76)
def nx:Obj:=cF Ut Ut 715 301 3 0 0 3 353 true 354 .none (R 355) (R 356) (R 357) 723
def px:Obj:=gF Ut Ut (dA 76) (R 352) je 672 358
def xA:Obj:=oQ (.type l0) [U Pd 729,U Hf 730,U ke 731,U HS 732,U Gx 733] 0
def yA:Obj:=pF Wt Wt (dA 77)
def qx:Obj:=cF Wt Wt 726 306 3 0 0 3 360 true 361 .none (R 362) (R 363) (R 364) 734
def rx:Obj:=gF Wt Wt (dA 77) .none je 672 365
def zA:Obj:=oQ (.type l0) [U Pd 740,U ke 741] 0
def AA:Obj:=pF Yt Yt (dA 78)
def ux:Obj:=cF Yt Yt 737 319 2 0 0 3 367 true 368 .none (R 369) (R 370) (R 371) 742
def wx:Obj:=gF Yt Yt (dA 78) .none je 672 372
def BA:Obj:=oQ (.type l0) [U Pd 748,U ke 749,U Hf 750,U Af 751,U Ze 752,U Gx 753,U KG 754] 0
def CA:Obj:=pF Zt Zt (dA 79)
def yx:Obj:=cF Zt Zt 745 325 2 0 0 3 375 true 376 .none (R 377) (R 378) (R 379) 755
def zx:Obj:=gF Zt Zt (dA 79) (R 374) je 672 380
def DA:Obj:=oQ (.type l0) [U Pd 761,U ke 762,U Hf 763,U Af 764,U Ze 765,U KG 766] 0
def EA:Obj:=pF au au (dA 80)
def Ax:Obj:=cF au au 758 335 2 0 0 3 383 true 384 .none (R 385) (R 386) (R 387) 767
def Bx:Obj:=gF au au (dA 80) (R 382) je 672 388
def dY(P:Params):List DictEntry:=cY P++ [K P oq 829 (R 422),K P bu 841 (R 434),K P cu 852 (R 441)]
def qac(P:Params):Obj:=oD (.type l3) ((K P s5 165 (U je 672))::dY P) 93
def rac:Obj:=oF .none [JN 10,JN 0,R 20,JN 14,JN 0,R 41,JN 16,JN 0,R 53,JN 18,JN 0,R 65,JN 20,JN 0,R 72,JN 22,JN 0,R 79,JN 24,JN 0,R 86,JN 26,JN 0,R 93,JN 28,JN 0,R 100,JN 49,JN 0,R 107,JN 59,JN 0,R 114,JN 65,JN 0,R 121,JN 67,JN 0,R 128,JN 71,JN 0,R 135,JN 81,JN 0,R 142,JN 102,JN 0,R 149,JN 116,JN 0,R 156,JN 124,JN 0,R 161,JN 130,JN 0,R 168,JN 145,JN 0,R 175,JN 173,JN 0,R 195,JN 179,JN 0,R 202,JN 187,JN 0,R 209,JN 197,JN 0,R 216,JN 201,JN 0,R 223,JN 213,JN 0,R 230,JN 218,JN 0,R 237,JN 264,JN 0,R 293,JN 278,JN 0,R 322,JN 284,JN 0,R 329,JN 295,JN 0,R 336,JN 297,JN 0,R 343,JN 299,JN 0,R 350,JN 301,JN 0,R 358,JN 306,JN 0,R 365,JN 319,JN 0,R 372,JN 325,JN 0,R 380,JN 335,JN 0,R 388,JN 342,JN 0,R 395,JN 368,JN 0,R 433,JN 375,JN 0,R 440]
def Xac(P:Params):List DictEntry:= [K P PG 779 (U oq 778),K P Vl 781 (I 342 780),K P Gf 790 (R 404),K P LG 801 (R 411),K P Xg 817 (R 419),K P Wl 822 (R 420)]
def FA(P:Params):Obj:=oD (.type l3) ((K P Ul 777 (U je 672))::Xac P) 7
def CF:Obj:=oF .none [JN 344,JN 4,R 403,JN 350,JN 4,R 410,JN 354,JN 4,R 418]
def GA:Obj:=cF oq oq 772 342 0 0 0 0 393 false 394 .none .none .none .none 775
def DF:Obj:=⟨.type l2,none,.plain,⟨[some (R 395),some (R 3),some (R 392),none,some (U je 672),none,some (R 0)]⟩⟩
def HA:Obj:=oQ (.type l0) [.none,.bool true] 0
def EF:Obj:=oQ (.type l0) [U Xl 785,U ke 786,U UK 787] 0
def FF:Obj:=pF Gf tQ (mA 81 0)
def JA:Obj:=cF Gf tQ 782 344 3 0 0 3 398 true 399 .none (R 400) (R 401) (R 402) 788
def LA:Obj:=gF Gf tQ (mA 81 0) (R 397) je 672 403
def GF:Obj:=oQ (.type l0) [U Xl 794,U Pd 795,U Hf 796,U ke 797,U Yl 798] 0
def IF:Obj:=pF LG uQ (mA 81 1)
def MA:Obj:=cF LG uQ 791 350 4 0 0 3 405 true 406 .none (R 407) (R 408) (R 409) 799
def NA:Obj:=gF LG uQ (mA 81 1) .none je 672 410
def JF:Obj:=oQ (.type l0) [U Xl 805,U Pd 806,U IG 807,U LY 808,U Af 809,U Hf 810,U ke 811,U Ze 812,U Gx 813,U KG 814] 0
def LF:Obj:=pF Xg wQ (mA 81 2)
def OA:Obj:=cF Xg wQ 802 354 3 0 0 3 413 true 414 .none (R 415) (R 416) (R 417) 815
def PA:Obj:=gF Xg wQ (mA 81 2) (R 412) je 672 418
def MF:Obj:=oQ (.type l0) [U UK 818,U FY 819,U ke 820,U mad 821] 0
def Yac(P:Params):List DictEntry:= [K P Vl 781 (I 342 780),K P Gf 790 (R 404),K P LG 801 (R 411),K P Xg 817 (R 419),K P Wl 822 (R 420),K P Nt 824 (R 423),K P ew 826 (R 424),K P s7 827 .none]
def QA(P:Params):Obj:=oD (.type l3) ((K P Ul 777 (U je 672))::Yac P) 4
def RA:Obj:=⟨.type l8,none,.cls ⟨oq,[.type Wk],[R 422,.type Wk],421,oq,true,[],[],false,none,false⟩,⟨[none,none,some (U oq 770),some (U oq 778),some (.builtin cS),some (.bool true)]⟩⟩
def TA:Obj:=oF (.type yy) [U Nt 823,R 422,.builtin fS,.builtin gS]
def UA:Obj:=oF (.type yy) [U ew 825,R 422,.builtin BM,.none]
def NF:Obj:=oF (.type uF) [R 422,R 422,R 422]
def OF:Obj:=oF (.type l6) [.builtin vF,R 422]
def PF:Obj:=oQ (.type l0) [U Ny 833,U ke 834,U KY 835,U Af 836,U Ze 837,U MY 838] 0
def QF:Obj:=pF bu bu (dA 82)
def VA:Obj:=cF bu bu 830 368 3 0 0 3 428 true 429 .none (R 430) (R 431) (R 432) 839
def WA:Obj:=gF bu bu (dA 82) (R 427) je 672 433
def RF:Obj:=oQ (.type l0) [U Pd 845,U Hf 846,U ke 847,U MY 848,U Ze 849] 0
def TF:Obj:=pF cu cu (dA 83)
def XA:Obj:=cF cu cu 842 375 3 0 0 3 435 true 436 .none (R 437) (R 438) (R 439) 850
def ZA:Obj:=gF cu cu (dA 83) .none je 672 440
def eY(P:Params):List DictEntry:=dY P++ [K P eu 860 (R 448),K P fu 873 (R 456),K P gu 885 (R 464),K P NY 889 (U nad 888),K P OY 891 (U oad 890),K P PY 893 (U qad 892),K P QY 895 (U rad 894),K P RY 897 (U sad 896),K P SY 899 (U tad 898),K P TY 901 (U uad 900),K P UY 903 (U vad 902),K P VY 905 (I 128 904),K P WY 907 (I 65536 906),K P lZ 909 (I 55296 908),K P mZ 911 (I 56320 910),K P iu 919 (R 471),K P ju 928 (R 478),K P ku 935 (R 485),K P lu 950 (R 492),K P nu 962 (R 499)]
def sac(P:Params):Obj:=oD (.type l3) ((K P s5 165 (U Bf 886))::eY P) 113
def tac:Obj:=oF .none [JN 10,JN 0,R 20,JN 14,JN 0,R 41,JN 16,JN 0,R 53,JN 18,JN 0,R 65,JN 20,JN 0,R 72,JN 22,JN 0,R 79,JN 24,JN 0,R 86,JN 26,JN 0,R 93,JN 28,JN 0,R 100,JN 49,JN 0,R 107,JN 59,JN 0,R 114,JN 65,JN 0,R 121,JN 67,JN 0,R 128,JN 71,JN 0,R 135,JN 81,JN 0,R 142,JN 102,JN 0,R 149,JN 116,JN 0,R 156,JN 124,JN 0,R 161,JN 130,JN 0,R 168,JN 145,JN 0,R 175,JN 173,JN 0,R 195,JN 179,JN 0,R 202,JN 187,JN 0,R 209,JN 197,JN 0,R 216,JN 201,JN 0,R 223,JN 213,JN 0,R 230,JN 218,JN 0,R 237,JN 264,JN 0,R 293,JN 278,JN 0,R 322,JN 284,JN 0,R 329,JN 295,JN 0,R 336,JN 297,JN 0,R 343,JN 299,JN 0,R 350,JN 301,JN 0,R 358,JN 306,JN 0,R 365,JN 319,JN 0,R 372,JN 325,JN 0,R 380,JN 335,JN 0,R 388,JN 342,JN 0,R 395,JN 368,JN 0,R 433,JN 375,JN 0,R 440,JN 385,JN 0,R 447,JN 391,JN 0,R 455,JN 401,JN 0,R 463,JN 421,JN 0,R 470,JN 430,JN 0,R 477,JN 437,JN 0,R 484,JN 447,JN 0,R 491,JN 464,JN 0,R 498]
def YJ:Obj:=oQ (.type l0) [U Pd 856,U ke 857] 0
def ZJ:Obj:=pF eu eu (dA 84)
def VF:Obj:=cF eu eu 853 385 2 0 0 3 442 true 443 .none (R 444) (R 445) (R 446) 858
def XF:Obj:=gF eu eu (dA 84) .none je 672 447
def aK:Obj:=oQ (.type l0) [U Pd 864,U ke 865,U Hf 866,U Af 867,U Ze 868,U Gx 869,U KG 870] 0
def bK:Obj:=pF fu fu (dA 85)
def ZF:Obj:=cF fu fu 861 391 2 0 0 3 450 true 451 .none (R 452) (R 453) (R 454) 871
def aG:Obj:=gF fu fu (dA 85) (R 449) je 672 455
def cK:Obj:=oQ (.type l0) [U Pd 877,U ke 878,U Hf 879,U Af 880,U Ze 881,U KG 882] 0
def dK:Obj:=pF gu gu (dA 86)
def bG:Obj:=cF gu gu 874 401 2 0 0 3 458 true 459 .none (R 460) (R 461) (R 462) 883
def cG:Obj:=gF gu gu (dA 86) (R 457) je 672 463
def fK:Obj:=oQ (.type l0) [U Ze 915,U LY 916] 0
def gK:Obj:=pF iu iu (dA 100)
def dG:Obj:=cF iu iu 912 421 1 0 0 3 465 true 466 .none (R 467) (R 468) (R 469) 917
def eG:Obj:=gF iu iu (dA 100) .none Bf 886 470
def iK:Obj:=oQ (.type l0) [U Ny 923,U Af 924,U Ze 925] 0
def jK:Obj:=pF ju ju (dA 101)
def fG:Obj:=cF ju ju 920 430 1 0 0 3 472 true 473 .none (R 474) (R 475) (R 476) 926
def gG:Obj:=gF ju ju (dA 101) .none Bf 886 477
def kK:Obj:=oQ (.type l0) [U Fo 932] 0
def lK:Obj:=pF ku ku (dA 102)
def iG:Obj:=cF ku ku 929 437 1 0 0 3 479 true 480 .none (R 481) (R 482) (R 483) 933
def jG:Obj:=gF ku ku (dA 102) .none Bf 886 484
def mK:Obj:=oQ (.type l0) [U Pd 939,U Hf 940,U wad 941,U Yl 942,U JG 943,U qQ 944,U Ze 945,U Gx 946,U Fo 947] 0
def nK:Obj:=pF lu lu (dA 103)
def kG:Obj:=cF lu lu 936 447 2 0 0 3 486 true 487 .none (R 488) (R 489) (R 490) 948
def lG:Obj:=gF lu lu (dA 103) .none Bf 886 491
def oK:Obj:=oQ (.type l0) [U Pd 954,U Af 955,U Hf 956,U Yl 957,U Ze 958,U jB 959] 0
def pK:Obj:=pF nu nu (dA 104)
def mG:Obj:=cF nu nu 951 464 1 0 0 3 493 true 494 .none (R 495) (R 496) (R 497) 960
def nG:Obj:=gF nu nu (dA 104) .none Bf 886 498
def fY(P:Params):List DictEntry:=eY P++ [K P ou 974 (R 506),K P pq 1020 (R 532),K P qu 1028 (R 543),K P uu 1036 (R 550),K P wu 1045 (R 557)]
def uac(P:Params):Obj:=oD (.type l3) ((K P s5 165 (U Bf 886))::fY P) 118
def vac:Obj:=oF .none [JN 10,JN 0,R 20,JN 14,JN 0,R 41,JN 16,JN 0,R 53,JN 18,JN 0,R 65,JN 20,JN 0,R 72,JN 22,JN 0,R 79,JN 24,JN 0,R 86,JN 26,JN 0,R 93,JN 28,JN 0,R 100,JN 49,JN 0,R 107,JN 59,JN 0,R 114,JN 65,JN 0,R 121,JN 67,JN 0,R 128,JN 71,JN 0,R 135,JN 81,JN 0,R 142,JN 102,JN 0,R 149,JN 116,JN 0,R 156,JN 124,JN 0,R 161,JN 130,JN 0,R 168,JN 145,JN 0,R 175,JN 173,JN 0,R 195,JN 179,JN 0,R 202,JN 187,JN 0,R 209,JN 197,JN 0,R 216,JN 201,JN 0,R 223,JN 213,JN 0,R 230,JN 218,JN 0,R 237,JN 264,JN 0,R 293,JN 278,JN 0,R 322,JN 284,JN 0,R 329,JN 295,JN 0,R 336,JN 297,JN 0,R 343,JN 299,JN 0,R 350,JN 301,JN 0,R 358,JN 306,JN 0,R 365,JN 319,JN 0,R 372,JN 325,JN 0,R 380,JN 335,JN 0,R 388,JN 342,JN 0,R 395,JN 368,JN 0,R 433,JN 375,JN 0,R 440,JN 385,JN 0,R 447,JN 391,JN 0,R 455,JN 401,JN 0,R 463,JN 421,JN 0,R 470,JN 430,JN 0,R 477,JN 437,JN 0,R 484,JN 447,JN 0,R 491,JN 464,JN 0,R 498,JN 473,JN 0,R 505,JN 480,JN 0,R 512,JN 500,JN 0,R 542,JN 502,JN 0,R 549,JN 507,JN 0,R 556]
def UO:Obj:=oQ (.type l0) [U Pd 966,U Af 967,U Hf 968,U Yl 969,U Ze 970,U jB 971] 0
def VO:Obj:=pF ou ou (dA 105)
def qK:Obj:=cF ou ou 963 473 1 0 0 3 500 true 501 .none (R 502) (R 503) (R 504) 972
def rK:Obj:=gF ou ou (dA 105) .none Bf 886 505
def Zac(P:Params):List DictEntry:= [K P PG 984 (U pq 983),K P Vl 986 (I 480 985),K P Gf 994 (R 521),K P Xg 1009 (R 529),K P Wl 1013 (R 530)]
def tK(P:Params):Obj:=oD (.type l3) ((K P Ul 982 (U Bf 886))::Zac P) 6
def WO:Obj:=oF .none [JN 482,JN 4,R 520,JN 487,JN 4,R 528]
def uK:Obj:=cF pq pq 977 480 0 0 0 0 510 false 511 .none .none .none .none 980
def XO:Obj:=⟨.type l2,none,.plain,⟨[some (R 512),some (R 3),some (R 509),none,some (U Bf 886),none,some (R 0)]⟩⟩
def YO:Obj:=oQ (.type l0) [U Xl 990,U UK 991] 0
def ZO:Obj:=pF Gf yQ (mA 106 0)
def vK:Obj:=cF Gf yQ 987 482 2 0 0 3 515 true 516 .none (R 517) (R 518) (R 519) 992
def wK:Obj:=gF Gf yQ (mA 106 0) (R 514) Bf 886 520
def bP:Obj:=oQ (.type l0) [U Xl 998,U Pd 999,U IG 1000,U xad 1001,U Af 1002,U Hf 1003,U Yl 1004,U Ze 1005,U jB 1006] 0
def cP:Obj:=pF Xg zQ (mA 106 1)
def xK:Obj:=cF Xg zQ 995 487 3 0 0 3 523 true 524 .none (R 525) (R 526) (R 527) 1007
def yK:Obj:=gF Xg zQ (mA 106 1) (R 522) Bf 886 528
def dP:Obj:=oQ (.type l0) [U UK 1010,U PI 1011,U yad 1012] 0
def aad(P:Params):List DictEntry:= [K P Vl 986 (I 480 985),K P Gf 994 (R 521),K P Xg 1009 (R 529),K P Wl 1013 (R 530),K P Nt 1015 (R 533),K P ew 1017 (R 534),K P s7 1018 .none]
def zK(P:Params):Obj:=oD (.type l3) ((K P Ul 982 (U Bf 886))::aad P) 4
def AK:Obj:=⟨.type l8,none,.cls ⟨pq,[.type Wk],[R 532,.type Wk],531,pq,true,[],[],false,none,false⟩,⟨[none,none,some (U pq 975),some (U pq 983),some (.builtin cS),some (.bool true)]⟩⟩
def BK:Obj:=oF (.type yy) [U Nt 1014,R 532,.builtin fS,.builtin gS]
def CK:Obj:=oF (.type yy) [U ew 1016,R 532,.builtin BM,.none]
def eP:Obj:=oF (.type uF) [R 532,R 532,R 532]
def fP:Obj:=oF (.type l6) [.builtin vF,R 532]
def gP:Obj:=oQ (.type l0) [U qQ 1024,U JG 1025] 0
def iP:Obj:=pF qu qu (dA 107)
def DK:Obj:=cF qu qu 1021 500 2 0 0 3 537 true 538 .none (R 539) (R 540) (R 541) 1026
def EK:Obj:=gF qu qu (dA 107) .none Bf 886 542
def jP:Obj:=oQ (.type l0) [U Pd 1032,U Hf 1033] 0
def kP:Obj:=pF uu uu (dA 108)
def FK:Obj:=cF uu uu 1029 502 2 0 0 3 544 true 545 .none (R 546) (R 547) (R 548) 1034
def GK:Obj:=gF uu uu (dA 108) .none Bf 886 549
def lP:Obj:=oQ (.type l0) [U Pd 1040,U Hf 1041,U Ze 1042] 0
def nP:Obj:=pF wu wu (dA 109)
def IK:Obj:=cF wu wu 1037 507 2 0 0 3 551 true 552 .none (R 553) (R 554) (R 555) 1043
def JK:Obj:=gF wu wu (dA 109) .none Bf 886 556
def gY(P:Params):List DictEntry:=fY P++ [K P xu 1058 (R 564),K P yu 1071 (R 571),K P zu 1083 (R 578),K P nZ 1150 (R 583),K P oZ 1159 (R 584),K P pZ 1161 (I 10 1160),K P Au 1167 (R 589),K P Bu 1176 (R 596),K P Cu 1186 (R 603),K P Du 1195 (R 610),K P Eu 1205 (R 617)]
def wac(P:Params):Obj:=oD (.type l3) ((K P s5 165 (U tg 1084))::gY P) 129
def xac:Obj:=oF .none [JN 10,JN 0,R 20,JN 14,JN 0,R 41,JN 16,JN 0,R 53,JN 18,JN 0,R 65,JN 20,JN 0,R 72,JN 22,JN 0,R 79,JN 24,JN 0,R 86,JN 26,JN 0,R 93,JN 28,JN 0,R 100,JN 49,JN 0,R 107,JN 59,JN 0,R 114,JN 65,JN 0,R 121,JN 67,JN 0,R 128,JN 71,JN 0,R 135,JN 81,JN 0,R 142,JN 102,JN 0,R 149,JN 116,JN 0,R 156,JN 124,JN 0,R 161,JN 130,JN 0,R 168,JN 145,JN 0,R 175,JN 173,JN 0,R 195,JN 179,JN 0,R 202,JN 187,JN 0,R 209,JN 197,JN 0,R 216,JN 201,JN 0,R 223,JN 213,JN 0,R 230,JN 218,JN 0,R 237,JN 264,JN 0,R 293,JN 278,JN 0,R 322,JN 284,JN 0,R 329,JN 295,JN 0,R 336,JN 297,JN 0,R 343,JN 299,JN 0,R 350,JN 301,JN 0,R 358,JN 306,JN 0,R 365,JN 319,JN 0,R 372,JN 325,JN 0,R 380,JN 335,JN 0,R 388,JN 342,JN 0,R 395,JN 368,JN 0,R 433,JN 375,JN 0,R 440,JN 385,JN 0,R 447,JN 391,JN 0,R 455,JN 401,JN 0,R 463,JN 421,JN 0,R 470,JN 430,JN 0,R 477,JN 437,JN 0,R 484,JN 447,JN 0,R 491,JN 464,JN 0,R 498,JN 473,JN 0,R 505,JN 480,JN 0,R 512,JN 500,JN 0,R 542,JN 502,JN 0,R 549,JN 507,JN 0,R 556,JN 512,JN 0,R 563,JN 530,JN 0,R 570,JN 549,JN 0,R 577,JN 564,JN 0,R 588,JN 566,JN 0,R 595,JN 573,JN 0,R 602,JN 578,JN 0,R 609,JN 594,JN 0,R 616]
def bX:Obj:=oQ (.type l0) [U Pd 1049,U Af 1050,U Hf 1051,U Yl 1052,U Ze 1053,U jB 1054,U JG 1055] 0
def cX:Obj:=pF xu xu (dA 110)
def oP:Obj:=cF xu xu 1046 512 1 0 0 3 558 true 559 .none (R 560) (R 561) (R 562) 1056
def pP:Obj:=gF xu xu (dA 110) .none Bf 886 563
def dX:Obj:=oQ (.type l0) [U Pd 1062,U Af 1063,U Hf 1064,U Yl 1065,U Ze 1066,U jB 1067,U JG 1068] 0
def fX:Obj:=pF yu yu (dA 111)
def qP:Obj:=cF yu yu 1059 530 1 0 0 3 565 true 566 .none (R 567) (R 568) (R 569) 1069
def rP:Obj:=gF yu yu (dA 111) .none Bf 886 570
def gX:Obj:=oQ (.type l0) [U Pd 1075,U Af 1076,U Hf 1077,U Yl 1078,U Ze 1079,U jB 1080] 0
def iX:Obj:=pF zu zu (dA 112)
def sP:Obj:=cF zu zu 1072 549 1 0 0 3 572 true 573 .none (R 574) (R 575) (R 576) 1081
def tP:Obj:=gF zu zu (dA 112) .none Bf 886 577
def uP:Obj:=oQ (.type xI) [I 65 1086,I 10 1087,I 128 1088,I 191 1089,I 194 1090,I 192 1091,I 224 1092,I 160 1093,I 237 1094,I 159 1095,I 240 1096,I 144 1097,I 244 1098,I 143 1099,I 176 1100,I 0 1101] 0
def vP:Obj:=oQ (.type xI) [I 43 1102,I 38 1103,I 45 1104,I 65 1105,I 79 1106,I 107 1107,I 50 1108,I 68 1109,I 47 1110,I 44 1111,I 126 1112,I 32 1113,I 48 1114,I 51 1115,I 101 1116,I 10 1117] 0
def xP:Obj:=oQ (.type xI) [I 144 1118,I 80 1119,I 208 1120,I 211 1121,I 251 1122,I 254 1123,I 33 1124,I 79 1125,I 255 1126,I 32 1127,I 13 1128,I 10 1129,I 5 1130,I 28 1131,I 128 1132,I 7 1133] 0
def yP:Obj:=oQ (.type xI) [I 0 1134,I 65 1135,I 216 1136,I 220 1137,I 254 1138,I 255 1139,I 10 1140,I 16 1141,I 219 1142,I 223 1143,I 61 1144,I 1 1145,I 128 1146,I 32 1147,I 13 1148,I 43 1149] 0
def zP:Obj:=oQ (.type xI) [R 579,R 580,R 581,R 582] 0
def AP:Obj:=oQ (.type xI) [I 65 1151,I 233 1152,I 8364 1153,I 128512 1154,I 1114111 1155,I 65279 1156,I 0 1157,I 65533 1158] 0
def jX:Obj:=pF Au Au (dA 117)
def BP:Obj:=cF Au Au 1162 564 1 0 0 3 585 true 586 .none .none .none (R 587) 1165
def CP:Obj:=gF Au Au (dA 117) .none tg 1084 588
def kX:Obj:=oQ (.type l0) [U qZ 1171,U Yl 1172,U zad 1173] 0
def lX:Obj:=pF Bu Bu (dA 118)
def DP:Obj:=cF Bu Bu 1168 566 2 0 0 3 590 true 591 .none (R 592) (R 593) (R 594) 1174
def EP:Obj:=gF Bu Bu (dA 118) .none tg 1084 595
def mX:Obj:=oQ (.type l0) [U qZ 1180,U Aad 1181,U Af 1182,U eQ 1183] 0
def nX:Obj:=pF Cu Cu (dA 119)
def FP:Obj:=cF Cu Cu 1177 573 2 0 0 3 597 true 598 .none (R 599) (R 600) (R 601) 1184
def GP:Obj:=gF Cu Cu (dA 119) .none tg 1084 602
def oX:Obj:=oQ (.type l0) [U Pd 1190,U MG 1191,U ke 1192] 0
def pX:Obj:=pF Du Du (dA 120)
def HP:Obj:=cF Du Du 1187 578 3 0 0 3 604 true 605 .none (R 606) (R 607) (R 608) 1193
def IP:Obj:=gF Du Du (dA 120) .none tg 1084 609
def rX:Obj:=oQ (.type l0) [U Pd 1199,U MG 1200,U ke 1201,U rZ 1202] 0
def sX:Obj:=pF Eu Eu (dA 121)
def JP:Obj:=cF Eu Eu 1196 594 3 0 0 3 611 true 612 .none (R 613) (R 614) (R 615) 1203
def KP:Obj:=gF Eu Eu (dA 121) .none tg 1084 616
def cad(P:Params):List DictEntry:=gY P++ [K P Fu 1214 (R 624),K P Gu 1220 (R 629),K P Hu 1230 (R 636),K P Iu 1246 (R 643),K P Ju 1258 (R 650),K P Ku 1269 (R 657),K P Lu 1288 (R 664),K P Mu 1298 (R 671),K P Nu 1311 (R 678),K P Hx 1317 (R 683)]
def tX(P:Params):Obj:=oD (.type l3) ((K P s5 165 (U tg 1084))::cad P) 139
def yac:Obj:=oF .none [JN 10,JN 0,R 20,JN 14,JN 0,R 41,JN 16,JN 0,R 53,JN 18,JN 0,R 65,JN 20,JN 0,R 72,JN 22,JN 0,R 79,JN 24,JN 0,R 86,JN 26,JN 0,R 93,JN 28,JN 0,R 100,JN 49,JN 0,R 107,JN 59,JN 0,R 114,JN 65,JN 0,R 121,JN 67,JN 0,R 128,JN 71,JN 0,R 135,JN 81,JN 0,R 142,JN 102,JN 0,R 149,JN 116,JN 0,R 156,JN 124,JN 0,R 161,JN 130,JN 0,R 168,JN 145,JN 0,R 175,JN 173,JN 0,R 195,JN 179,JN 0,R 202,JN 187,JN 0,R 209,JN 197,JN 0,R 216,JN 201,JN 0,R 223,JN 213,JN 0,R 230,JN 218,JN 0,R 237,JN 264,JN 0,R 293,JN 278,JN 0,R 322,JN 284,JN 0,R 329,JN 295,JN 0,R 336,JN 297,JN 0,R 343,JN 299,JN 0,R 350,JN 301,JN 0,R 358,JN 306,JN 0,R 365,JN 319,JN 0,R 372,JN 325,JN 0,R 380,JN 335,JN 0,R 388,JN 342,JN 0,R 395,JN 368,JN 0,R 433,JN 375,JN 0,R 440,JN 385,JN 0,R 447,JN 391,JN 0,R 455,JN 401,JN 0,R 463,JN 421,JN 0,R 470,JN 430,JN 0,R 477,JN 437,JN 0,R 484,JN 447,JN 0,R 491,JN 464,JN 0,R 498,JN 473,JN 0,R 505,JN 480,JN 0,R 512,JN 500,JN 0,R 542,JN 502,JN 0,R 549,JN 507,JN 0,R 556,JN 512,JN 0,R 563,JN 530,JN 0,R 570,JN 549,JN 0,R 577,JN 564,JN 0,R 588,JN 566,JN 0,R 595,JN 573,JN 0,R 602,JN 578,JN 0,R 609,JN 594,JN 0,R 616,JN 599,JN 0,R 623,JN 605,JN 0,R 628,JN 607,JN 0,R 635,JN 612,JN 0,R 642,JN 621,JN 0,R 649,JN 626,JN 0,R 656,JN 638,JN 0,R 663,JN 658,JN 0,R 670,JN 663,JN 0,R 677,JN 672,JN 0,R 682]
def zac:Obj:=oQ (.type l0) [U Pd 1209,U MG 1210,U ke 1211] 0
def Aac:Obj:=pF Fu Fu (dA 122)
def uX:Obj:=cF Fu Fu 1206 599 3 0 0 3 618 true 619 .none (R 620) (R 621) (R 622) 1212
def vX:Obj:=gF Fu Fu (dA 122) .none tg 1084 623
def Bac:Obj:=pF Gu Gu (dA 123)
def wX:Obj:=cF Gu Gu 1215 605 2 0 0 3 625 true 626 .none .none .none (R 627) 1218
def xX:Obj:=gF Gu Gu (dA 123) .none tg 1084 628
def Cac:Obj:=oQ (.type l0) [U NG 1224,U VK 1225,U Af 1226,U OG 1227] 0
def Dac:Obj:=pF Hu Hu (dA 124)
def yX:Obj:=cF Hu Hu 1221 607 2 0 0 3 630 true 631 .none (R 632) (R 633) (R 634) 1228
def zX:Obj:=gF Hu Hu (dA 124) .none tg 1084 635
def Eac:Obj:=oQ (.type l0) [U NG 1234,U VK 1235,U MG 1236,U ke 1237,U Ny 1238,U sZ 1239,U kN 1240,U OG 1241,U Ou 1242,U PI 1243] 0
def Fac:Obj:=pF Iu Iu (dA 125)
def AX:Obj:=cF Iu Iu 1231 612 4 0 0 3 637 true 638 .none (R 639) (R 640) (R 641) 1244
def BX:Obj:=gF Iu Iu (dA 125) .none tg 1084 642
def Gac:Obj:=oQ (.type l0) [U NG 1250,U VK 1251,U MG 1252,U ke 1253,U Ny 1254,U OG 1255] 0
def Hac:Obj:=pF Ju Ju (dA 126)
def CX:Obj:=cF Ju Ju 1247 621 4 0 0 3 644 true 645 .none (R 646) (R 647) (R 648) 1256
def DX:Obj:=gF Ju Ju (dA 126) .none tg 1084 649
def Iac:Obj:=oQ (.type l0) [U NG 1262,U ke 1263,U AQ 1264,U VK 1265,U OG 1266] 0
def Jac:Obj:=pF Ku Ku (dA 127)
def EX:Obj:=cF Ku Ku 1259 626 2 0 0 3 651 true 652 .none (R 653) (R 654) (R 655) 1267
def FX:Obj:=gF Ku Ku (dA 127) .none tg 1084 656
def Kac:Obj:=oQ (.type l0) [U NG 1273,U AQ 1274,U Bad 1275,U Cad 1276,U sZ 1277,U s85 1278,U kN 1279,U OG 1280,U IG 1281,U tZ 1282,U Ou 1283,U PI 1284,U Dad 1285] 0
def Lac:Obj:=pF Lu Lu (dA 128)
def GX:Obj:=cF Lu Lu 1270 638 1 0 0 3 658 true 659 .none (R 660) (R 661) (R 662) 1286
def HX:Obj:=gF Lu Lu (dA 128) .none tg 1084 663
def Mac:Obj:=oQ (.type l0) [U AQ 1292,U tZ 1293,U IG 1294,U rZ 1295] 0
def Nac:Obj:=pF Mu Mu (dA 129)
def IX:Obj:=cF Mu Mu 1289 658 3 0 0 3 665 true 666 .none (R 667) (R 668) (R 669) 1296
def JX:Obj:=gF Mu Mu (dA 129) .none tg 1084 670
def Oac:Obj:=oQ (.type l0) [U Ead 1302,U Fad 1303,U Pd 1304,U ke 1305,U Gad 1306,U Had 1307,U Ou 1308] 0
def Pac:Obj:=pF Nu Nu (dA 130)
def LX:Obj:=cF Nu Nu 1299 663 4 0 0 3 672 true 673 .none (R 674) (R 675) (R 676) 1309
def MX:Obj:=gF Nu Nu (dA 130) .none tg 1084 677
def Qac:Obj:=pF Hx Hx (dA 131)
def NX:Obj:=cF Hx Hx 1312 672 1 0 0 3 679 true 680 .none .none .none (R 681) 1315
def OX:Obj:=gF Hx Hx (dA 131) .none tg 1084 682
def hA(P:Params):Heap:=⟨⟨[boot_o_0 P,boot_o_1 P,boot_o_2 P,boot_o_3 P,boot_o_4 P,boot_o_5 P,boot_o_6 P,boot_o_7 P,boot_o_8 P,boot_o_9 P,boot_o_10 P,o0,o1,o2,o3]⟩,XN⟩
def t0(P:Params):BT:=N (boot_o_0 P) (N (boot_o_1 P) (N (boot_o_3 P) (N0 (boot_o_7 P)) (N0 o0)) (N (boot_o_5 P) (N0 (boot_o_9 P)) (N0 o2))) (N (boot_o_2 P) (N (boot_o_4 P) (N0 (boot_o_8 P)) (N0 o1)) (N (boot_o_6 P) (N0 (boot_o_10 P)) (N0 o3)))
def U5(P:Params):BT:=N o7 (N0 (lj P)) Y
def j6:BT:=N0 o0
def Y5:BT:=N Ii (N0 jk) Y
def u6:BT:=N0 fk
def W5(P:Params):BT:=N (o9 P) (N0 mj) Y
def m6:BT:=N0 dk
def g6:BT:=N0 ck
def y6:BT:=N0 Ph
def V5:BT:=N o8 (N0 o20) Y
def k6:BT:=N0 o1
def Z5:BT:=N0 jj
def x6:BT:=N0 kj
def X5:BT:=N o0 (N0 ik) Y
def n6:BT:=N0 o0
def i6:BT:=N0 Tc
def A6:BT:=N0 gk
def t1(P:Params):BT:=N (boot_o_0 P) (N (boot_o_1 P) (N (o5 P) (N (boot_o_7 P) (U5 P) j6) (N o0 Y5 u6)) (N (boot_o_5 P) (N (boot_o_9 P) (W5 P) m6) (N o2 g6 y6))) (N (o4 P) (N (boot_o_4 P) (N (boot_o_8 P) V5 k6) (N o6 Z5 x6)) (N (boot_o_6 P) (N (boot_o_10 P) X5 n6) (N o3 i6 A6)))
def B6(P:Params):BT:=N o7 (N0 (lj P)) (N0 il)
def K6:BT:=N o0 (N0 o0) Y
def G6:BT:=N Ii (N0 jk) Y
def O6:BT:=N fk (N0 o0) Y
def E6(P:Params):BT:=N (o9 P) (N0 mj) Y
def M6:BT:=N dk (N0 qk) Y
def I6:BT:=N ck (N0 o8) Y
def Q6:BT:=N Ph (N0 sk) Y
def C6:BT:=N o8 (N0 o26) Y
def L6:BT:=N o1 (N0 o1) Y
def H6:BT:=N jj (N0 Xe) Y
def P6(P:Params):BT:=N kj (N0 (rk P)) Y
def F6:BT:=N o0 (N0 ik) Y
def N6:BT:=N o0 (N0 Zk) Y
def J6(P:Params):BT:=N Tc (N0 (nk P)) Y
def R6:BT:=N gk (N0 bl) Y
def t2(P:Params):BT:=N (boot_o_0 P) (N (boot_o_1 P) (N (o24 P) (N (boot_o_7 P) (B6 P) K6) (N o0 G6 O6)) (N (boot_o_5 P) (N (boot_o_9 P) (E6 P) M6) (N o2 I6 Q6))) (N (o4 P) (N (boot_o_4 P) (N (boot_o_8 P) C6 L6) (N o25 H6 (P6 P))) (N (boot_o_6 P) (N (boot_o_10 P) F6 N6) (N o3 (J6 P) R6)))
def S6(P:Params):BT:=N o7 (N (lj P) (N0 o0) (N0 o0)) (N il (N0 El) Y)
def g7:BT:=N o0 (N o0 (N0 Mn) Y) (N o0 (N0 Il) Y)
def W6:BT:=N Ii (N jk (N0 o0) (N0 Vn)) (N o0 (N0 Qn) Y)
def m7:BT:=N fk (N o0 (N0 o1) Y) (N Hn (N0 o0) Y)
def U6(P:Params):BT:=N (o9 P) (N mj (N0 zl) (N0 Un)) (N o8 (N0 o0) Y)
def j7:BT:=N dk (N qk (N0 Dl) Y) (N yl (N0 o1) Y)
def Y6:BT:=N ck (N o8 (N0 Ln) (N0 Ml)) (N kl (N0 Rn) Y)
def u7:BT:=N Ph (N sk (N0 o0) Y) (N o1 (N0 Jl) Y)
def T6:BT:=N o8 (N uk (N0 Kn) (N0 o1)) (N Xe (N0 Gl) Y)
def i7(P:Params):BT:=N o1 (N o1 (N0 Bl) Y) (N (ql P) (N0 o0) Y)
def X6:BT:=N jj (N Xe (N0 o1) (N0 Ll)) (N o1 (N0 o0) Y)
def n7(P:Params):BT:=N kj (N (rk P) (N0 Nn) Y) (N o0 (N0 Tn) Y)
def V6(P:Params):BT:=N o0 (N ik (N0 Al) (N0 o0)) (N (jl P) (N0 o1) Y)
def k7:BT:=N o0 (N Zk (N0 o0) Y) (N Gn (N0 Sn) Y)
def Z6(P:Params):BT:=N Tc (N (nk P) (N0 o0) Y) (N En (N0 Hl) Y)
def x7:BT:=N gk (N bl (N0 Pn) Y) (N Jn (N0 Kl) Y)
def t3(P:Params):BT:=N (boot_o_0 P) (N (boot_o_1 P) (N (o35 P) (N (boot_o_7 P) (S6 P) g7) (N o0 W6 m7)) (N (boot_o_5 P) (N (boot_o_9 P) (U6 P) j7) (N o2 Y6 u7))) (N (o4 P) (N (boot_o_4 P) (N (boot_o_8 P) T6 (i7 P)) (N o36 X6 (n7 P))) (N (boot_o_6 P) (N (boot_o_10 P) (V6 P) k7) (N o3 (Z6 P) x7)))
def y7(P:Params):BT:=N o7 (N (lj P) (N o0 (N0 Tq) Y) (N0 o0)) (N il (N El (N0 uo) Y) (N0 Oq))
def I7:BT:=N o0 (N o0 (N Mn (N0 qo) Y) (N0 o1)) (N o0 (N0 Il) (N0 o0))
def E7:BT:=N Ii (N jk (N o0 (N0 o1) Y) (N0 Vn)) (N o0 (N Qn (N0 o0) Y) (N0 Zn))
def M7:BT:=N fk (N o0 (N o1 (N0 Wq) Y) (N0 Wn)) (N Hn (N0 o0) (N0 o0))
def B7(P:Params):BT:=N (o9 P) (N mj (N zl (N0 oo) Y) (N0 Un)) (N o8 (N o0 (N0 o1) Y) (N0 Pq))
def K7:BT:=N dk (N qk (N Dl (N0 o0) Y) (N0 o0)) (N yl (N0 o1) (N0 ao))
def G7:BT:=N ck (N o8 (N Ln (N0 o0) Y) (N0 Ml)) (N kl (N Rn (N0 vo) Y) (N0 o1))
def O7:BT:=N Ph (N sk (N o0 (N0 Xq) Y) (N0 o0)) (N o1 (N0 Jl) (N0 Sq))
def A7:BT:=N o8 (N uk (N Kn (N0 eo) Y) (N0 o1)) (N Xe (N Gl (N0 o0) Y) (N0 o0))
def J7(P:Params):BT:=N o1 (N o1 (N Bl (N0 ro) Y) (N0 Mq)) (N (ql P) (N0 o0) (N0 Rq))
def F7:BT:=N jj (N Xe (N o1 (N0 Uq) Y) (N0 Ll)) (N o1 (N o0 (N0 Zq) Y) (N0 o0))
def N7(P:Params):BT:=N kj (N (rk P) (N Nn (N0 o0) Y) (N0 Xn)) (N o0 (N0 Tn) (N0 o1))
def C7(P:Params):BT:=N o0 (N ik (N Al (N0 o0) Y) (N0 o0)) (N (jl P) (N o1 (N0 Yq) Y) (N0 Yn))
def L7:BT:=N o0 (N Zk (N o0 (N0 o1) Y) (N0 Nq)) (N Gn (N0 Sn) (N0 bo))
def H7(P:Params):BT:=N Tc (N (nk P) (N o0 (N0 Vq) Y) (N0 o0)) (N En (N Hl (N0 wo) Y) (N0 Qq))
def P7:BT:=N gk (N bl (N Pn (N0 so) Y) (N0 o1)) (N Jn (N0 Kl) (N0 o0))
def t4(P:Params):BT:=N (boot_o_0 P) (N (boot_o_1 P) (N (o69 P) (N (boot_o_7 P) (y7 P) I7) (N o0 E7 M7)) (N (boot_o_5 P) (N (boot_o_9 P) (B7 P) K7) (N o2 G7 O7))) (N (o4 P) (N (boot_o_4 P) (N (boot_o_8 P) A7 (J7 P)) (N o70 F7 (N7 P))) (N (boot_o_6 P) (N (boot_o_10 P) (C7 P) L7) (N o3 (H7 P) P7)))
def Q7(P:Params):BT:=N o7 (N (lj P) (N o0 (N0 Tq) Y) (N o0 (N0 o1) Y)) (N il (N El (N0 uo) Y) (N Oq (N0 bj) Y))
def a8:BT:=N o0 (N o0 (N Mn (N0 qo) Y) (N o1 (N0 Zj) Y)) (N o0 (N Il (N0 o0) Y) (N0 o0))
def W7:BT:=N Ii (N jk (N o0 (N0 o1) Y) (N Vn (N0 o0) Y)) (N o0 (N Qn (N0 o0) Y) (N0 Zn))
def j8:BT:=N fk (N o0 (N o1 (N0 Wq) Y) (N Wn (N0 o1) Y)) (N Hn (N o0 (N0 Wj) Y) (N0 o0))
def T7(P:Params):BT:=N (o9 P) (N mj (N zl (N0 oo) Y) (N Un (N0 Xi) Y)) (N o8 (N o0 (N0 o1) Y) (N Pq (N0 dj) Y))
def d8:BT:=N dk (N qk (N Dl (N0 o0) Y) (N o0 (N0 aj) Y)) (N yl (N o1 (N0 Vj) Y) (N0 ao))
def Y7:BT:=N ck (N o8 (N Ln (N0 o0) Y) (N Ml (N0 Yj) Y)) (N kl (N Rn (N0 vo) Y) (N0 o1))
def m8:BT:=N Ph (N sk (N o0 (N0 Xq) Y) (N o0 (N0 o0) Y)) (N o1 (N Jl (N0 Wi) Y) (N0 Sq))
def S7:BT:=N o8 (N uk (N Kn (N0 eo) Y) (N o1 (N0 Xj) Y)) (N Xe (N Gl (N0 o0) Y) (N o0 (N0 cj) Y))
def b8(P:Params):BT:=N o1 (N o1 (N Bl (N0 ro) Y) (N Mq (N0 Zi) Y)) (N (ql P) (N o0 (N0 o1) Y) (N0 Rq))
def X7:BT:=N jj (N Xe (N o1 (N0 Uq) Y) (N Ll (N0 o1) Y)) (N o1 (N o0 (N0 Zq) Y) (N0 o0))
def k8(P:Params):BT:=N kj (N (rk P) (N Nn (N0 o0) Y) (N Xn (N0 ak) Y)) (N o0 (N Tn (N0 Vi) Y) (N0 o1))
def V7(P:Params):BT:=N o0 (N ik (N Al (N0 o0) Y) (N o0 (N0 Yi) Y)) (N (jl P) (N o1 (N0 Yq) Y) (N0 Yn))
def i8:BT:=N o0 (N Zk (N o0 (N0 o1) Y) (N Nq (N0 o0) Y)) (N Gn (N Sn (N0 o0) Y) (N0 bo))
def Z7(P:Params):BT:=N Tc (N (nk P) (N o0 (N0 Vq) Y) (N o0 (N0 o0) Y)) (N En (N Hl (N0 wo) Y) (N0 Qq))
def n8:BT:=N gk (N bl (N Pn (N0 so) Y) (N o1 (N0 bk) Y)) (N Jn (N Kl (N0 o0) Y) (N0 o0))
def t5(P:Params):BT:=N (boot_o_0 P) (N (boot_o_1 P) (N (o99 P) (N (boot_o_7 P) (Q7 P) a8) (N o0 W7 j8)) (N (boot_o_5 P) (N (boot_o_9 P) (T7 P) d8) (N o2 Y7 m8))) (N (o4 P) (N (boot_o_4 P) (N (boot_o_8 P) S7 (b8 P)) (N aX X7 (k8 P))) (N (boot_o_6 P) (N (boot_o_10 P) (V7 P) i8) (N o3 (Z7 P) n8)))
def x8(P:Params):BT:=N o7 (N (lj P) (N o0 (N0 Tq) Y) (N o0 (N0 o1) Y)) (N il (N El (N0 uo) Y) (N Oq (N0 bj) Y))
def H8:BT:=N o0 (N o0 (N Mn (N0 qo) Y) (N o1 (N0 Zj) Y)) (N o0 (N Il (N0 o0) Y) (N o0 (N0 We) Y))
def C8:BT:=N Ii (N jk (N o0 (N0 o1) Y) (N Vn (N0 o0) Y)) (N o0 (N Qn (N0 o0) Y) (N Zn (N0 Cm) Y))
def L8:BT:=N fk (N o0 (N o1 (N0 Wq) Y) (N Wn (N0 o1) Y)) (N Hn (N o0 (N0 Wj) Y) (N o0 (N0 We) Y))
def A8(P:Params):BT:=N (o9 P) (N mj (N zl (N0 oo) Y) (N Un (N0 Xi) Y)) (N o8 (N o0 (N0 o1) Y) (N Pq (N0 dj) Y))
def J8:BT:=N dk (N qk (N Dl (N0 o0) Y) (N o0 (N0 aj) Y)) (N yl (N o1 (N0 Vj) Y) (N ao (N0 Fm) Y))
def F8:BT:=N ck (N o8 (N Ln (N0 o0) Y) (N Ml (N0 Yj) Y)) (N kl (N Rn (N0 vo) Y) (N o1 (N0 Dm) Y))
def N8:BT:=N Ph (N sk (N o0 (N0 Xq) Y) (N o0 (N0 o0) Y)) (N o1 (N Jl (N0 Wi) Y) (N Sq (N0 Hm) Y))
def y8:BT:=N o8 (N uk (N Kn (N0 eo) Y) (N o1 (N0 Xj) Y)) (N Xe (N Gl (N0 o0) Y) (N o0 (N0 cj) Y))
def I8(P:Params):BT:=N o1 (N o1 (N Bl (N0 ro) Y) (N Mq (N0 Zi) Y)) (N (ql P) (N o0 (N0 o1) Y) (N Rq (N0 o0) Y))
def E8:BT:=N jj (N Xe (N o1 (N0 Uq) Y) (N Ll (N0 o1) Y)) (N o1 (N o0 (N0 Zq) Y) (N o0 (N0 o0) Y))
def M8(P:Params):BT:=N kj (N (rk P) (N Nn (N0 o0) Y) (N Xn (N0 ak) Y)) (N o0 (N Tn (N0 Vi) Y) (N o1 (N0 o0) Y))
def B8(P:Params):BT:=N o0 (N ik (N Al (N0 o0) Y) (N o0 (N0 Yi) Y)) (N (jl P) (N o1 (N0 Yq) Y) (N Yn (N0 Bm) Y))
def K8:BT:=N o0 (N Zk (N o0 (N0 o1) Y) (N Nq (N0 o0) Y)) (N Gn (N Sn (N0 o0) Y) (N bo (N0 Gm) Y))
def G8(P:Params):BT:=N Tc (N (nk P) (N o0 (N0 Vq) Y) (N o0 (N0 o0) Y)) (N En (N Hl (N0 wo) Y) (N Qq (N0 Em) Y))
def O8:BT:=N gk (N bl (N Pn (N0 so) Y) (N o1 (N0 bk) Y)) (N Jn (N Kl (N0 o0) Y) (N0 o0))
def t6(P:Params):BT:=N (boot_o_0 P) (N (boot_o_1 P) (N (hac P) (N (boot_o_7 P) (x8 P) H8) (N o0 C8 L8)) (N (boot_o_5 P) (N (boot_o_9 P) (A8 P) J8) (N o2 F8 N8))) (N (o4 P) (N (boot_o_4 P) (N (boot_o_8 P) y8 (I8 P)) (N aX E8 (M8 P))) (N (boot_o_6 P) (N (boot_o_10 P) (B8 P) K8) (N o3 (G8 P) O8)))
def P8(P:Params):BT:=N o7 (N (lj P) (N o0 (N0 Tq) (N0 o1)) (N o0 (N0 o1) (N0 Qm))) (N il (N El (N0 uo) (N0 o0)) (N Oq (N0 bj) Y))
def a9:BT:=N o0 (N o0 (N Mn (N0 qo) (N0 Bp)) (N o1 (N0 Zj) (N0 Um))) (N o0 (N Il (N0 o0) (N0 Gp)) (N o0 (N0 We) Y))
def W8:BT:=N Ii (N jk (N o0 (N0 o1) (N0 Im)) (N Vn (N0 o0) (N0 Jp))) (N o0 (N Qn (N0 o0) (N0 o0)) (N Zn (N0 Cm) Y))
def i9:BT:=N fk (N o0 (N o1 (N0 Wq) (N0 Lm)) (N Wn (N0 o1) Y)) (N Hn (N o0 (N0 Wj) (N0 o1)) (N o0 (N0 We) Y))
def U8(P:Params):BT:=N (o9 P) (N mj (N zl (N0 oo) (N0 o0)) (N Un (N0 Xi) (N0 o0))) (N o8 (N o0 (N0 o1) (N0 Mm)) (N Pq (N0 dj) Y))
def d9:BT:=N dk (N qk (N Dl (N0 o0) (N0 Cp)) (N o0 (N0 aj) Y)) (N yl (N o1 (N0 Vj) (N0 Pm)) (N ao (N0 Fm) Y))
def Y8:BT:=N ck (N o8 (N Ln (N0 o0) (N0 o0)) (N Ml (N0 Yj) (N0 Kp))) (N kl (N Rn (N0 vo) (N0 Fp)) (N o1 (N0 Dm) Y))
def k9:BT:=N Ph (N sk (N o0 (N0 Xq) (N0 o1)) (N o0 (N0 o0) Y)) (N o1 (N Jl (N0 Wi) (N0 o0)) (N Sq (N0 Hm) Y))
def Q8:BT:=N o8 (N uk (N Kn (N0 eo) (N0 yp)) (N o1 (N0 Xj) (N0 Rm))) (N Xe (N Gl (N0 o0) (N0 Ep)) (N o0 (N0 cj) Y))
def b9(P:Params):BT:=N o1 (N o1 (N Bl (N0 ro) (N0 o0)) (N Mq (N0 Zi) Y)) (N (ql P) (N o0 (N0 o1) (N0 Om)) (N Rq (N0 o0) Y))
def X8:BT:=N jj (N Xe (N o1 (N0 Uq) (N0 Jm)) (N Ll (N0 o1) (N0 o0))) (N o1 (N o0 (N0 Zq) (N0 o1)) (N o0 (N0 o0) Y))
def j9(P:Params):BT:=N kj (N (rk P) (N Nn (N0 o0) (N0 o0)) (N Xn (N0 ak) Y)) (N o0 (N Tn (N0 Vi) (N0 Hp)) (N o1 (N0 o0) Y))
def V8(P:Params):BT:=N o0 (N ik (N Al (N0 o0) (N0 Ap)) (N o0 (N0 Yi) (N0 o1))) (N (jl P) (N o1 (N0 Yq) (N0 Nm)) (N Yn (N0 Bm) Y))
def g9:BT:=N o0 (N Zk (N o0 (N0 o1) (N0 Km)) (N Nq (N0 o0) Y)) (N Gn (N Sn (N0 o0) (N0 o0)) (N bo (N0 Gm) Y))
def Z8(P:Params):BT:=N Tc (N (nk P) (N o0 (N0 Vq) (N0 o1)) (N o0 (N0 o0) (N0 Sm))) (N En (N Hl (N0 wo) (N0 o0)) (N Qq (N0 Em) Y))
def m9:BT:=N gk (N bl (N Pn (N0 so) (N0 Dp)) (N o1 (N0 bk) Y)) (N Jn (N Kl (N0 o0) (N0 Ip)) (N o0 (N0 o0) Y))
def t7(P:Params):BT:=N (boot_o_0 P) (N (boot_o_1 P) (N (iac P) (N (boot_o_7 P) (P8 P) a9) (N o0 W8 i9)) (N (boot_o_5 P) (N (boot_o_9 P) (U8 P) d9) (N o2 Y8 k9))) (N (o4 P) (N (boot_o_4 P) (N (boot_o_8 P) Q8 (b9 P)) (N jac X8 (j9 P))) (N (boot_o_6 P) (N (boot_o_10 P) (V8 P) g9) (N o3 (Z8 P) m9)))
def n9(P:Params):BT:=N o7 (N (lj P) (N o0 (N Tq (N0 Fs) Y) (N0 o1)) (N o0 (N o1 (N0 Us) Y) (N0 Qm))) (N il (N El (N uo (N0 Ls) Y) (N0 o0)) (N Oq (N0 bj) (N0 o0)))
def C9:BT:=N o0 (N o0 (N Mn (N qo (N0 o0) Y) (N0 Bp)) (N o1 (N0 Zj) (N0 Um))) (N o0 (N Il (N o0 (N0 aq) Y) (N0 Gp)) (N o0 (N0 We) (N0 o1)))
def x9:BT:=N Ii (N jk (N o0 (N o1 (N0 Tp) Y) (N0 Im)) (N Vn (N0 o0) (N0 Jp))) (N o0 (N Qn (N o0 (N0 o1) Y) (N0 o0)) (N Zn (N0 Cm) (N0 Cs)))
def G9:BT:=N fk (N o0 (N o1 (N Wq (N0 o0) Y) (N0 Lm)) (N Wn (N0 o1) (N0 o0))) (N Hn (N o0 (N Wj (N0 dq) Y) (N0 o1)) (N o0 (N0 We) (N0 Qp)))
def u9(P:Params):BT:=N (o9 P) (N mj (N zl (N oo (N0 Gs) Y) (N0 o0)) (N Un (N0 Xi) (N0 o0))) (N o8 (N o0 (N o1 (N0 Zp) Y) (N0 Mm)) (N Pq (N0 dj) (N0 Bs)))
def E9:BT:=N dk (N qk (N Dl (N o0 (N0 Vp) Y) (N0 Cp)) (N o0 (N0 aj) (N0 o8))) (N yl (N o1 (N Vj (N0 Ss) Y) (N0 Pm)) (N ao (N0 Fm) (N0 o0)))
def A9:BT:=N ck (N o8 (N Ln (N o0 (N0 o1) Y) (N0 o0)) (N Ml (N0 Yj) (N0 Kp))) (N kl (N Rn (N vo (N0 o0) Y) (N0 Fp)) (N o1 (N0 Dm) (N0 Pp)))
def I9:BT:=N Ph (N sk (N o0 (N Xq (N0 Ks) Y) (N0 o1)) (N o0 (N0 o0) (N0 Mp))) (N o1 (N Jl (N Wi (N0 gq) Y) (N0 o0)) (N Sq (N0 Hm) (N0 o0)))
def p9:BT:=N o8 (N uk (N Kn (N eo (N0 o0) Y) (N0 yp)) (N o1 (N0 Xj) (N0 Rm))) (N Xe (N Gl (N o0 (N0 Yp) Y) (N0 Ep)) (N o0 (N0 cj) (N0 o1)))
def D9(P:Params):BT:=N o1 (N o1 (N Bl (N ro (N0 Js) Y) (N0 o0)) (N Mq (N0 Zi) (N0 o0))) (N (ql P) (N o0 (N o1 (N0 bq) Y) (N0 Om)) (N Rq (N0 o0) (N0 Ds)))
def y9:BT:=N jj (N Xe (N o1 (N Uq (N0 o0) Y) (N0 Jm)) (N Ll (N0 o1) (N0 o0))) (N o1 (N o0 (N Zq (N0 Ms) Y) (N0 o1)) (N o0 (N0 o0) (N0 Np)))
def H9(P:Params):BT:=N kj (N (rk P) (N Nn (N o0 (N0 o1) Y) (N0 o0)) (N Xn (N0 ak) (N0 js))) (N o0 (N Tn (N Vi (N0 fq) Y) (N0 Hp)) (N o1 (N0 o0) (N0 Rp)))
def v9(P:Params):BT:=N o0 (N ik (N Al (N o0 (N0 Sp) Y) (N0 Ap)) (N o0 (N0 Yi) (N0 o1))) (N (jl P) (N o1 (N Yq (N0 o0) Y) (N0 Nm)) (N Yn (N0 Bm) (N0 o0)))
def F9(P:Params):BT:=N o0 (N Zk (N o0 (N o1 (N0 Xp) Y) (N0 Km)) (N Nq (N0 o0) (N0 (Lp P)))) (N Gn (N Sn (N o0 (N0 (cq P)) Y) (N0 o0)) (N bo (N0 Gm) (N0 Es)))
def B9(P:Params):BT:=N Tc (N (nk P) (N o0 (N Vq (N0 Hs) Y) (N0 o1)) (N o0 (N0 o0) (N0 Sm))) (N En (N Hl (N wo (N0 Qs) Y) (N0 o0)) (N Qq (N0 Em) (N0 o0)))
def J9:BT:=N gk (N bl (N Pn (N so (N0 o0) Y) (N0 Dp)) (N o1 (N0 bk) (N0 As))) (N Jn (N Kl (N o0 (N0 Ts) Y) (N0 Ip)) (N o0 (N0 o0) (N0 o1)))
def t8(P:Params):BT:=N (boot_o_0 P) (N (boot_o_1 P) (N (kac P) (N (boot_o_7 P) (n9 P) C9) (N o0 x9 G9)) (N (boot_o_5 P) (N (boot_o_9 P) (u9 P) E9) (N o2 A9 I9))) (N (o4 P) (N (boot_o_4 P) (N (boot_o_8 P) p9 (D9 P)) (N lac y9 (H9 P))) (N (boot_o_6 P) (N (boot_o_10 P) (v9 P) (F9 P)) (N o3 (B9 P) J9)))
def K9(P:Params):BT:=N o7 (N (lj P) (N o0 (N Tq (N0 Fs) Y) (N o1 (N0 Ww) Y)) (N o0 (N o1 (N0 Us) Y) (N0 Qm))) (N il (N El (N uo (N0 Ls) Y) (N o0 (N0 cx) Y)) (N Oq (N bj (N0 o0) Y) (N0 o0)))
def S9(P:Params):BT:=N o0 (N o0 (N Mn (N qo (N0 o0) Y) (N Bp (N0 o0) Y)) (N o1 (N Zj (N0 o0) Y) (N0 Um))) (N o0 (N Il (N o0 (N0 aq) Y) (N0 Gp)) (N o0 (N We (N0 (ct P)) Y) (N0 o1)))
def O9:BT:=N Ii (N jk (N o0 (N o1 (N0 Tp) Y) (N Im (N0 ot) Y)) (N Vn (N o0 (N0 o0) Y) (N0 Jp))) (N o0 (N Qn (N o0 (N0 o1) Y) (N0 o0)) (N Zn (N Cm (N0 Sw) Y) (N0 Cs)))
def X9:BT:=N fk (N o0 (N o1 (N Wq (N0 o0) Y) (N Lm (N0 o0) Y)) (N Wn (N o1 (N0 Qw) Y) (N0 o0))) (N Hn (N o0 (N Wj (N0 dq) Y) (N0 o1)) (N o0 (N We (N0 Uw) Y) (N0 Qp)))
def M9(P:Params):BT:=N (o9 P) (N mj (N zl (N oo (N0 Gs) Y) (N o0 (N0 Xw) Y)) (N Un (N Xi (N0 o8) Y) (N0 o0))) (N o8 (N o0 (N o1 (N0 Zp) Y) (N Mm (N0 wt) Y)) (N Pq (N dj (N0 Rw) Y) (N0 Bs)))
def U9:BT:=N dk (N qk (N Dl (N o0 (N0 Vp) Y) (N Cp (N0 qt) Y)) (N o0 (N aj (N0 Pw) Y) (N0 o8))) (N yl (N o1 (N Vj (N0 Ss) Y) (N0 Pm)) (N ao (N Fm (N0 ft) Y) (N0 o0)))
def Q9:BT:=N ck (N o8 (N Ln (N o0 (N0 o1) Y) (N o0 (N0 o1) Y)) (N Ml (N Yj (N0 Ws) Y) (N0 Kp))) (N kl (N Rn (N vo (N0 o0) Y) (N0 Fp)) (N o1 (N Dm (N0 bt) Y) (N0 Pp)))
def Z9:BT:=N Ph (N sk (N o0 (N Xq (N0 Ks) Y) (N o1 (N0 ax) Y)) (N o0 (N o0 (N0 Ys) Y) (N0 Mp))) (N o1 (N Jl (N Wi (N0 gq) Y) (N0 o0)) (N Sq (N Hm (N0 o0) Y) (N0 o0)))
def L9:BT:=N o8 (N uk (N Kn (N eo (N0 o0) Y) (N yp (N0 o0) Y)) (N o1 (N Xj (N0 o0) Y) (N0 Rm))) (N Xe (N Gl (N o0 (N0 Yp) Y) (N Ep (N0 vt) Y)) (N o0 (N cj (N0 o1) Y) (N0 o1)))
def T9(P:Params):BT:=N o1 (N o1 (N Bl (N ro (N0 Js) Y) (N o0 (N0 Zw) Y)) (N Mq (N Zi (N0 o1) Y) (N0 o0))) (N (ql P) (N o0 (N o1 (N0 bq) Y) (N0 Om)) (N Rq (N o0 (N0 dt) Y) (N0 Ds)))
def P9:BT:=N jj (N Xe (N o1 (N Uq (N0 o0) Y) (N Jm (N0 o0) Y)) (N Ll (N o1 (N0 Nw) Y) (N0 o0))) (N o1 (N o0 (N Zq (N0 Ms) Y) (N0 o1)) (N o0 (N o0 (N0 Zs) Y) (N0 Np)))
def Y9(P:Params):BT:=N kj (N (rk P) (N Nn (N o0 (N0 o1) Y) (N o0 (N0 o1) Y)) (N Xn (N ak (N0 Xs) Y) (N0 js))) (N o0 (N Tn (N Vi (N0 fq) Y) (N0 Hp)) (N o1 (N o0 (N0 Vw) Y) (N0 Rp)))
def N9(P:Params):BT:=N o0 (N ik (N Al (N o0 (N0 Sp) Y) (N Ap (N0 nt) Y)) (N o0 (N Yi (N0 (Vs P)) Y) (N0 o1))) (N (jl P) (N o1 (N Yq (N0 o0) Y) (N0 Nm)) (N Yn (N Bm (N0 o0) Y) (N0 o0)))
def V9(P:Params):BT:=N o0 (N Zk (N o0 (N o1 (N0 Xp) Y) (N Km (N0 rt) Y)) (N Nq (N o0 (N0 o0) Y) (N0 (Lp P)))) (N Gn (N Sn (N o0 (N0 (cq P)) Y) (N0 o0)) (N bo (N Gm (N0 jt) Y) (N0 Es)))
def R9(P:Params):BT:=N Tc (N (nk P) (N o0 (N Vq (N0 Hs) Y) (N o1 (N0 Yw) Y)) (N o0 (N o0 (N0 Ow) Y) (N0 Sm))) (N En (N Hl (N wo (N0 Qs) Y) (N0 o0)) (N Qq (N Em (N0 Tw) Y) (N0 o0)))
def aaa:BT:=N gk (N bl (N Pn (N so (N0 o0) Y) (N Dp (N0 o0) Y)) (N o1 (N bk (N0 ue) Y) (N0 As))) (N Jn (N Kl (N o0 (N0 Ts) Y) (N0 Ip)) (N o0 (N o0 (N0 o1) Y) (N0 o1)))
def t9(P:Params):BT:=N (boot_o_0 P) (N (boot_o_1 P) (N (mac P) (N (boot_o_7 P) (K9 P) (S9 P)) (N o0 O9 X9)) (N (boot_o_5 P) (N (boot_o_9 P) (M9 P) U9) (N o2 Q9 Z9))) (N (o4 P) (N (boot_o_4 P) (N (boot_o_8 P) L9 (T9 P)) (N nac P9 (Y9 P))) (N (boot_o_6 P) (N (boot_o_10 P) (N9 P) (V9 P)) (N o3 (R9 P) aaa)))
def WZ(P:Params):BT:=N o7 (N (lj P) (N o0 (N Tq (N0 Fs) (N0 o0)) (N o1 (N0 Ww) Y)) (N o0 (N o1 (N0 Us) Y) (N Qm (N0 mx) Y))) (N il (N El (N uo (N0 Ls) Y) (N o0 (N0 cx) Y)) (N Oq (N bj (N0 o0) Y) (N o0 (N0 o0) Y)))
def u0(P:Params):BT:=N o0 (N o0 (N Mn (N qo (N0 o0) Y) (N Bp (N0 o0) Y)) (N o1 (N Zj (N0 o0) Y) (N Um (N0 px) Y))) (N o0 (N Il (N o0 (N0 aq) Y) (N Gp (N0 dx) Y)) (N o0 (N We (N0 (ct P)) Y) (N o1 (N0 o0) Y)))
def b0:BT:=N Ii (N jk (N o0 (N o1 (N0 Tp) (N0 EA)) (N Im (N0 ot) Y)) (N Vn (N o0 (N0 o0) Y) (N Jp (N0 uA) Y))) (N o0 (N Qn (N o0 (N0 o1) Y) (N o0 (N0 o1) Y)) (N Zn (N Cm (N0 Sw) Y) (N Cs (N0 AA) Y)))
def B0:BT:=N fk (N o0 (N o1 (N Wq (N0 o0) Y) (N Lm (N0 o0) Y)) (N Wn (N o1 (N0 Qw) Y) (N o0 (N0 o0) Y))) (N Hn (N o0 (N Wj (N0 dq) Y) (N o1 (N0 sA) Y)) (N o0 (N We (N0 Uw) Y) (N Qp (N0 CA) Y)))
def YZ(P:Params):BT:=N (o9 P) (N mj (N zl (N oo (N0 Gs) (N0 DA)) (N o0 (N0 Xw) Y)) (N Un (N Xi (N0 o8) Y) (N o0 (N0 o0) Y))) (N o8 (N o0 (N o1 (N0 Zp) Y) (N Mm (N0 wt) Y)) (N Pq (N dj (N0 Rw) Y) (N Bs (N0 zA) Y)))
def y0:BT:=N dk (N qk (N Dl (N o0 (N0 Vp) Y) (N Cp (N0 qt) Y)) (N o0 (N aj (N0 Pw) Y) (N o8 (N0 o1) Y))) (N yl (N o1 (N Vj (N0 Ss) Y) (N Pm (N0 o0) Y)) (N ao (N Fm (N0 ft) Y) (N o0 (N0 BA) Y)))
def n0:BT:=N ck (N o8 (N Ln (N o0 (N0 o1) (N0 Bx)) (N o0 (N0 o1) Y)) (N Ml (N Yj (N0 Ws) Y) (N Kp (N0 vA) Y))) (N kl (N Rn (N vo (N0 o0) Y) (N Fp (N0 o0) Y)) (N o1 (N Dm (N0 bt) Y) (N Pp (N0 wx) Y)))
def E0:BT:=N Ph (N sk (N o0 (N Xq (N0 Ks) Y) (N o1 (N0 ax) Y)) (N o0 (N o0 (N0 Ys) Y) (N Mp (N0 qx) Y))) (N o1 (N Jl (N Wi (N0 gq) Y) (N o0 (N0 tA) Y)) (N Sq (N Hm (N0 o0) Y) (N o0 (N0 zx) Y)))
def XZ:BT:=N o8 (N uk (N Kn (N eo (N0 o0) (N0 o1)) (N yp (N0 o0) Y)) (N o1 (N Xj (N0 o0) Y) (N Rm (N0 di) Y))) (N Xe (N Gl (N o0 (N0 Yp) Y) (N Ep (N0 vt) Y)) (N o0 (N cj (N0 o1) Y) (N o1 (N0 o1) Y)))
def w0(P:Params):BT:=N o1 (N o1 (N Bl (N ro (N0 Js) Y) (N o0 (N0 Zw) Y)) (N Mq (N Zi (N0 o1) Y) (N o0 (N0 o0) Y))) (N (ql P) (N o0 (N o1 (N0 bq) Y) (N Om (N0 fx) Y)) (N Rq (N o0 (N0 dt) Y) (N Ds (N0 o1) Y)))
def j0:BT:=N jj (N Xe (N o1 (N Uq (N0 o0) (N0 Ax)) (N Jm (N0 o0) Y)) (N Ll (N o1 (N0 Nw) Y) (N o0 (N0 o0) Y))) (N o1 (N o0 (N Zq (N0 Ms) Y) (N o1 (N0 qA) Y)) (N o0 (N o0 (N0 Zs) Y) (N Np (N0 ux) Y)))
def C0(P:Params):BT:=N kj (N (rk P) (N Nn (N o0 (N0 o1) Y) (N o0 (N0 o1) Y)) (N Xn (N ak (N0 Xs) Y) (N js (N0 yA) Y))) (N o0 (N Tn (N Vi (N0 fq) Y) (N Hp (N0 o0) Y)) (N o1 (N o0 (N0 Vw) Y) (N Rp (N0 yx) Y)))
def ZZ(P:Params):BT:=N o0 (N ik (N Al (N o0 (N0 Sp) (N0 o0)) (N Ap (N0 nt) Y)) (N o0 (N Yi (N0 (Vs P)) Y) (N o1 (N0 o1) Y))) (N (jl P) (N o1 (N Yq (N0 o0) Y) (N Nm (N0 o0) Y)) (N Yn (N Bm (N0 o0) Y) (N o0 (N0 o0) Y)))
def A0(P:Params):BT:=N o0 (N Zk (N o0 (N o1 (N0 Xp) Y) (N Km (N0 rt) Y)) (N Nq (N o0 (N0 o0) Y) (N (Lp P) (N0 xA) Y))) (N Gn (N Sn (N o0 (N0 (cq P)) Y) (N o0 (N0 o1) Y)) (N bo (N Gm (N0 jt) Y) (N Es (N0 o0) Y)))
def q0(P:Params):BT:=N Tc (N (nk P) (N o0 (N Vq (N0 Hs) Y) (N o1 (N0 Yw) Y)) (N o0 (N o0 (N0 Ow) Y) (N Sm (N0 nx) Y))) (N En (N Hl (N wo (N0 Qs) Y) (N o0 (N0 rA) Y)) (N Qq (N Em (N0 Tw) Y) (N o0 (N0 Tc) Y)))
def F0:BT:=N gk (N bl (N Pn (N so (N0 o0) Y) (N Dp (N0 o0) Y)) (N o1 (N bk (N0 ue) Y) (N As (N0 rx) Y))) (N Jn (N Kl (N o0 (N0 Ts) Y) (N Ip (N0 jx) Y)) (N o0 (N o0 (N0 o1) Y) (N o1 (N0 Tc) Y)))
def KS(P:Params):BT:=N (boot_o_0 P) (N (boot_o_1 P) (N (oac P) (N (boot_o_7 P) (WZ P) (u0 P)) (N o0 b0 B0)) (N (boot_o_5 P) (N (boot_o_9 P) (YZ P) y0) (N o2 n0 E0))) (N (o4 P) (N (boot_o_4 P) (N (boot_o_8 P) XZ (w0 P)) (N pac j0 (C0 P))) (N (boot_o_6 P) (N (boot_o_10 P) (ZZ P) (A0 P)) (N o3 (q0 P) F0)))
def G0(P:Params):BT:=N o7 (N (lj P) (N o0 (N Tq (N0 Fs) (N0 o0)) (N o1 (N0 Ww) Y)) (N o0 (N o1 (N0 Us) (N0 JF)) (N Qm (N0 mx) Y))) (N il (N El (N uo (N0 Ls) (N0 o1)) (N o0 (N0 cx) Y)) (N Oq (N bj (N0 o0) (N0 o0)) (N o0 (N0 o0) Y)))
def Q0(P:Params):BT:=N o0 (N o0 (N Mn (N qo (N0 o0) (N0 o8)) (N Bp (N0 o0) Y)) (N o1 (N Zj (N0 o0) (N0 TA)) (N Um (N0 px) Y))) (N o0 (N Il (N o0 (N0 aq) (N0 GF)) (N Gp (N0 dx) Y)) (N o0 (N We (N0 (ct P)) (N0 TF)) (N o1 (N0 o0) Y)))
def K0:BT:=N Ii (N jk (N o0 (N o1 (N0 Tp) (N0 EA)) (N Im (N0 ot) Y)) (N Vn (N o0 (N0 o0) (N0 PA)) (N Jp (N0 uA) Y))) (N o0 (N Qn (N o0 (N0 o1) (N0 JA)) (N o0 (N0 o1) Y)) (N Zn (N Cm (N0 Sw) (N0 o0)) (N Cs (N0 AA) Y)))
def V0:BT:=N fk (N o0 (N o1 (N Wq (N0 o0) (N0 GA)) (N Lm (N0 o0) Y)) (N Wn (N o1 (N0 Qw) (N0 di)) (N o0 (N0 o0) Y))) (N Hn (N o0 (N Wj (N0 dq) (N0 NA)) (N o1 (N0 sA) Y)) (N o0 (N We (N0 Uw) Y) (N Qp (N0 CA) Y)))
def I0(P:Params):BT:=N (o9 P) (N mj (N zl (N oo (N0 Gs) (N0 DA)) (N o0 (N0 Xw) Y)) (N Un (N Xi (N0 o8) (N0 LF)) (N o0 (N0 o0) Y))) (N o8 (N o0 (N o1 (N0 Zp) (N0 o0)) (N Mm (N0 wt) Y)) (N Pq (N dj (N0 Rw) (N0 VA)) (N Bs (N0 zA) Y)))
def S0:BT:=N dk (N qk (N Dl (N o0 (N0 Vp) (N0 o0)) (N Cp (N0 qt) Y)) (N o0 (N aj (N0 Pw) (N0 NF)) (N o8 (N0 o1) Y))) (N yl (N o1 (N Vj (N0 Ss) (N0 IF)) (N Pm (N0 o0) Y)) (N ao (N Fm (N0 ft) (N0 ZA)) (N o0 (N0 BA) Y)))
def O0(P:Params):BT:=N ck (N o8 (N Ln (N o0 (N0 o1) (N0 Bx)) (N o0 (N0 o1) Y)) (N Ml (N Yj (N0 Ws) (N0 (QA P))) (N Kp (N0 vA) Y))) (N kl (N Rn (N vo (N0 o0) (N0 o0)) (N Fp (N0 o0) Y)) (N o1 (N Dm (N0 bt) (N0 RF)) (N Pp (N0 wx) Y)))
def X0:BT:=N Ph (N sk (N o0 (N Xq (N0 Ks) (N0 HA)) (N o1 (N0 ax) Y)) (N o0 (N o0 (N0 Ys) (N0 o1)) (N Mp (N0 qx) Y))) (N o1 (N Jl (N Wi (N0 gq) (N0 o0)) (N o0 (N0 tA) Y)) (N Sq (N Hm (N0 o0) Y) (N o0 (N0 zx) Y)))
def H0:BT:=N o8 (N uk (N Kn (N eo (N0 o0) (N0 o1)) (N yp (N0 o0) Y)) (N o1 (N Xj (N0 o0) (N0 o0)) (N Rm (N0 di) Y))) (N Xe (N Gl (N o0 (N0 Yp) (N0 EF)) (N Ep (N0 vt) Y)) (N o0 (N cj (N0 o1) (N0 QF)) (N o1 (N0 o1) Y)))
def R0(P:Params):BT:=N o1 (N o1 (N Bl (N ro (N0 Js) (N0 (FA P))) (N o0 (N0 Zw) Y)) (N Mq (N Zi (N0 o1) (N0 UA)) (N o0 (N0 o0) Y))) (N (ql P) (N o0 (N o1 (N0 bq) (N0 o0)) (N Om (N0 fx) Y)) (N Rq (N o0 (N0 dt) (N0 XA)) (N Ds (N0 o1) Y)))
def M0:BT:=N jj (N Xe (N o1 (N Uq (N0 o0) (N0 Ax)) (N Jm (N0 o0) Y)) (N Ll (N o1 (N0 Nw) (N0 MF)) (N o0 (N0 o0) Y))) (N o1 (N o0 (N Zq (N0 Ms) (N0 LA)) (N o1 (N0 qA) Y)) (N o0 (N o0 (N0 Zs) (N0 o1)) (N Np (N0 ux) Y)))
def W0(P:Params):BT:=N kj (N (rk P) (N Nn (N o0 (N0 o1) (N0 DF)) (N o0 (N0 o1) Y)) (N Xn (N ak (N0 Xs) (N0 o0)) (N js (N0 yA) Y))) (N o0 (N Tn (N Vi (N0 fq) (N0 ue)) (N Hp (N0 o0) Y)) (N o1 (N o0 (N0 Vw) Y) (N Rp (N0 yx) Y)))
def J0(P:Params):BT:=N o0 (N ik (N Al (N o0 (N0 Sp) (N0 o0)) (N Ap (N0 nt) Y)) (N o0 (N Yi (N0 (Vs P)) (N0 OA)) (N o1 (N0 o1) Y))) (N (jl P) (N o1 (N Yq (N0 o0) (N0 FF)) (N Nm (N0 o0) Y)) (N Yn (N Bm (N0 o0) (N0 WA)) (N o0 (N0 o0) Y)))
def U0(P:Params):BT:=N o0 (N Zk (N o0 (N o1 (N0 Xp) (N0 CF)) (N Km (N0 rt) Y)) (N Nq (N o0 (N0 o0) (N0 OF)) (N (Lp P) (N0 xA) Y))) (N Gn (N Sn (N o0 (N0 (cq P)) (N0 MA)) (N o0 (N0 o1) Y)) (N bo (N Gm (N0 jt) Y) (N Es (N0 o0) Y)))
def P0(P:Params):BT:=N Tc (N (nk P) (N o0 (N Vq (N0 Hs) (N0 o0)) (N o1 (N0 Yw) Y)) (N o0 (N o0 (N0 Ow) (N0 RA)) (N Sm (N0 nx) Y))) (N En (N Hl (N wo (N0 Qs) (N0 o1)) (N o0 (N0 rA) Y)) (N Qq (N Em (N0 Tw) (N0 o0)) (N o0 (N0 Tc) Y)))
def Y0:BT:=N gk (N bl (N Pn (N so (N0 o0) (N0 o0)) (N Dp (N0 o0) Y)) (N o1 (N bk (N0 ue) (N0 PF)) (N As (N0 rx) Y))) (N Jn (N Kl (N o0 (N0 Ts) (N0 o1)) (N Ip (N0 jx) Y)) (N o0 (N o0 (N0 o1) Y) (N o1 (N0 Tc) Y)))
def LS(P:Params):BT:=N (boot_o_0 P) (N (boot_o_1 P) (N (qac P) (N (boot_o_7 P) (G0 P) (Q0 P)) (N o0 K0 V0)) (N (boot_o_5 P) (N (boot_o_9 P) (I0 P) S0) (N o2 (O0 P) X0))) (N (o4 P) (N (boot_o_4 P) (N (boot_o_8 P) H0 (R0 P)) (N rac M0 (W0 P))) (N (boot_o_6 P) (N (boot_o_10 P) (J0 P) (U0 P)) (N o3 (P0 P) Y0)))
def Z0(P:Params):BT:=N o7 (N (lj P) (N o0 (N Tq (N0 Fs) (N0 o0)) (N o1 (N0 Ww) (N0 VF))) (N o0 (N o1 (N0 Us) (N0 JF)) (N Qm (N0 mx) (N0 o0)))) (N il (N El (N uo (N0 Ls) (N0 o1)) (N o0 (N0 cx) (N0 bG))) (N Oq (N bj (N0 o0) (N0 o0)) (N o0 (N0 o0) (N0 oK))))
def J1(P:Params):BT:=N o0 (N o0 (N Mn (N qo (N0 o0) (N0 o8)) (N Bp (N0 o0) (N0 ZF))) (N o1 (N Zj (N0 o0) (N0 TA)) (N Um (N0 px) (N0 o1)))) (N o0 (N Il (N o0 (N0 aq) (N0 GF)) (N Gp (N0 dx) (N0 eG))) (N o0 (N We (N0 (ct P)) (N0 TF)) (N o1 (N0 o0) Y)))
def E1:BT:=N Ii (N jk (N o0 (N o1 (N0 Tp) (N0 EA)) (N Im (N0 ot) (N0 o1))) (N Vn (N o0 (N0 o0) (N0 PA)) (N Jp (N0 uA) (N0 lK)))) (N o0 (N Qn (N o0 (N0 o1) (N0 JA)) (N o0 (N0 o1) (N0 fK))) (N Zn (N Cm (N0 Sw) (N0 o0)) (N Cs (N0 AA) (N0 nG))))
def O1:BT:=N fk (N o0 (N o1 (N Wq (N0 o0) (N0 GA)) (N Lm (N0 o0) (N0 o1))) (N Wn (N o1 (N0 Qw) (N0 di)) (N o0 (N0 o0) (N0 kG)))) (N Hn (N o0 (N Wj (N0 dq) (N0 NA)) (N o1 (N0 sA) (N0 o0))) (N o0 (N We (N0 Uw) (N0 o1)) (N Qp (N0 CA) Y)))
def B1(P:Params):BT:=N (o9 P) (N mj (N zl (N oo (N0 Gs) (N0 DA)) (N o0 (N0 Xw) (N0 Tc))) (N Un (N Xi (N0 o8) (N0 LF)) (N o0 (N0 o0) (N0 kK)))) (N o8 (N o0 (N o1 (N0 Zp) (N0 o0)) (N Mm (N0 wt) (N0 o0))) (N Pq (N dj (N0 Rw) (N0 VA)) (N Bs (N0 zA) (N0 pK))))
def M1:BT:=N dk (N qk (N Dl (N o0 (N0 Vp) (N0 o0)) (N Cp (N0 qt) (N0 Tc))) (N o0 (N aj (N0 Pw) (N0 NF)) (N o8 (N0 o1) (N0 o0)))) (N yl (N o1 (N Vj (N0 Ss) (N0 IF)) (N Pm (N0 o0) (N0 o1))) (N ao (N Fm (N0 ft) (N0 ZA)) (N o0 (N0 BA) Y)))
def G1(P:Params):BT:=N ck (N o8 (N Ln (N o0 (N0 o1) (N0 Bx)) (N o0 (N0 o1) (N0 o0))) (N Ml (N Yj (N0 Ws) (N0 (QA P))) (N Kp (N0 vA) (N0 jG)))) (N kl (N Rn (N vo (N0 o0) (N0 o0)) (N Fp (N0 o0) (N0 gK))) (N o1 (N Dm (N0 bt) (N0 RF)) (N Pp (N0 wx) Y)))
def Q1:BT:=N Ph (N sk (N o0 (N Xq (N0 Ks) (N0 HA)) (N o1 (N0 ax) (N0 o0))) (N o0 (N o0 (N0 Ys) (N0 o1)) (N Mp (N0 qx) (N0 o0)))) (N o1 (N Jl (N Wi (N0 gq) (N0 o0)) (N o0 (N0 tA) (N0 fG))) (N Sq (N Hm (N0 o0) (N0 o0)) (N o0 (N0 zx) Y)))
def A1:BT:=N o8 (N uk (N Kn (N eo (N0 o0) (N0 o1)) (N yp (N0 o0) (N0 XF))) (N o1 (N Xj (N0 o0) (N0 o0)) (N Rm (N0 di) (N0 o1)))) (N Xe (N Gl (N o0 (N0 Yp) (N0 EF)) (N Ep (N0 vt) (N0 cG))) (N o0 (N cj (N0 o1) (N0 QF)) (N o1 (N0 o1) (N0 o0))))
def K1(P:Params):BT:=N o1 (N o1 (N Bl (N ro (N0 Js) (N0 (FA P))) (N o0 (N0 Zw) (N0 aG))) (N Mq (N Zi (N0 o1) (N0 UA)) (N o0 (N0 o0) (N0 mK)))) (N (ql P) (N o0 (N o1 (N0 bq) (N0 o0)) (N Om (N0 fx) (N0 o0))) (N Rq (N o0 (N0 dt) (N0 XA)) (N Ds (N0 o1) Y)))
def F1:BT:=N jj (N Xe (N o1 (N Uq (N0 o0) (N0 Ax)) (N Jm (N0 o0) (N0 aK))) (N Ll (N o1 (N0 Nw) (N0 MF)) (N o0 (N0 o0) (N0 iG)))) (N o1 (N o0 (N Zq (N0 Ms) (N0 LA)) (N o1 (N0 qA) (N0 o0))) (N o0 (N o0 (N0 Zs) (N0 o1)) (N Np (N0 ux) Y)))
def P1(P:Params):BT:=N kj (N (rk P) (N Nn (N o0 (N0 o1) (N0 DF)) (N o0 (N0 o1) (N0 cK))) (N Xn (N ak (N0 Xs) (N0 o0)) (N js (N0 yA) (N0 lG)))) (N o0 (N Tn (N Vi (N0 fq) (N0 ue)) (N Hp (N0 o0) (N0 jK))) (N o1 (N o0 (N0 Vw) (N0 YJ)) (N Rp (N0 yx) Y)))
def C1(P:Params):BT:=N o0 (N ik (N Al (N o0 (N0 Sp) (N0 o0)) (N Ap (N0 nt) (N0 o0))) (N o0 (N Yi (N0 (Vs P)) (N0 OA)) (N o1 (N0 o1) (N0 o0)))) (N (jl P) (N o1 (N Yq (N0 o0) (N0 FF)) (N Nm (N0 o0) (N0 o1))) (N Yn (N Bm (N0 o0) (N0 WA)) (N o0 (N0 o0) (N0 mG))))
def N1(P:Params):BT:=N o0 (N Zk (N o0 (N o1 (N0 Xp) (N0 CF)) (N Km (N0 rt) (N0 o0))) (N Nq (N o0 (N0 o0) (N0 OF)) (N (Lp P) (N0 xA) (N0 nK)))) (N Gn (N Sn (N o0 (N0 (cq P)) (N0 MA)) (N o0 (N0 o1) (N0 iK))) (N bo (N Gm (N0 jt) (N0 o0)) (N Es (N0 o0) Y)))
def I1(P:Params):BT:=N Tc (N (nk P) (N o0 (N Vq (N0 Hs) (N0 o0)) (N o1 (N0 Yw) (N0 bK))) (N o0 (N o0 (N0 Ow) (N0 RA)) (N Sm (N0 nx) (N0 o0)))) (N En (N Hl (N wo (N0 Qs) (N0 o1)) (N o0 (N0 rA) (N0 dG))) (N Qq (N Em (N0 Tw) (N0 o0)) (N o0 (N0 Tc) Y)))
def R1:BT:=N gk (N bl (N Pn (N so (N0 o0) (N0 o0)) (N Dp (N0 o0) (N0 dK))) (N o1 (N bk (N0 ue) (N0 PF)) (N As (N0 rx) (N0 o1)))) (N Jn (N Kl (N o0 (N0 Ts) (N0 o1)) (N Ip (N0 jx) (N0 gG))) (N o0 (N o0 (N0 o1) (N0 ZJ)) (N o1 (N0 Tc) Y)))
def MS(P:Params):BT:=N (boot_o_0 P) (N (boot_o_1 P) (N (sac P) (N (boot_o_7 P) (Z0 P) (J1 P)) (N o0 E1 O1)) (N (boot_o_5 P) (N (boot_o_9 P) (B1 P) M1) (N o2 (G1 P) Q1))) (N (o4 P) (N (boot_o_4 P) (N (boot_o_8 P) A1 (K1 P)) (N tac F1 (P1 P))) (N (boot_o_6 P) (N (boot_o_10 P) (C1 P) (N1 P)) (N o3 (I1 P) R1)))
def S1(P:Params):BT:=N o7 (N (lj P) (N o0 (N Tq (N Fs (N0 WO) Y) (N0 o0)) (N o1 (N0 Ww) (N0 VF))) (N o0 (N o1 (N Us (N0 EK) Y) (N0 JF)) (N Qm (N0 mx) (N0 o0)))) (N il (N El (N uo (N Ls (N0 cP) Y) (N0 o1)) (N o0 (N0 cx) (N0 bG))) (N Oq (N bj (N0 o0) (N0 o0)) (N o0 (N0 o0) (N0 oK))))
def C2(P:Params):BT:=N o0 (N o0 (N Mn (N qo (N o0 (N0 ZO) Y) (N0 o8)) (N Bp (N0 o0) (N0 ZF))) (N o1 (N Zj (N o0 (N0 o0) Y) (N0 TA)) (N Um (N0 px) (N0 o1)))) (N o0 (N Il (N o0 (N aq (N0 eP) Y) (N0 GF)) (N Gp (N0 dx) (N0 eG))) (N o0 (N We (N0 (ct P)) (N0 TF)) (N o1 (N0 o0) (N0 o0))))
def Y1(P:Params):BT:=N Ii (N jk (N o0 (N o1 (N Tp (N0 o0) Y) (N0 EA)) (N Im (N0 ot) (N0 o1))) (N Vn (N o0 (N o0 (N0 o0) Y) (N0 PA)) (N Jp (N0 uA) (N0 lK)))) (N o0 (N Qn (N o0 (N o1 (N0 (zK P)) Y) (N0 JA)) (N o0 (N0 o1) (N0 fK))) (N Zn (N Cm (N0 Sw) (N0 o0)) (N Cs (N0 AA) (N0 nG))))
def I2:BT:=N fk (N o0 (N o1 (N Wq (N o0 (N0 o0) Y) (N0 GA)) (N Lm (N0 o0) (N0 o1))) (N Wn (N o1 (N Qw (N0 nP) Y) (N0 di)) (N o0 (N0 o0) (N0 kG)))) (N Hn (N o0 (N Wj (N dq (N0 gP) Y) (N0 NA)) (N o1 (N0 sA) (N0 o0))) (N o0 (N We (N0 Uw) (N0 o1)) (N Qp (N0 CA) (N0 o0))))
def V1(P:Params):BT:=N (o9 P) (N mj (N zl (N oo (N Gs (N0 XO) Y) (N0 DA)) (N o0 (N0 Xw) (N0 Tc))) (N Un (N Xi (N o8 (N0 o1) Y) (N0 LF)) (N o0 (N0 o0) (N0 kK)))) (N o8 (N o0 (N o1 (N Zp (N0 yK) Y) (N0 o0)) (N Mm (N0 wt) (N0 o0))) (N Pq (N dj (N0 Rw) (N0 VA)) (N Bs (N0 zA) (N0 pK))))
def F2:BT:=N dk (N qk (N Dl (N o0 (N Vp (N0 wK) Y) (N0 o0)) (N Cp (N0 qt) (N0 Tc))) (N o0 (N aj (N Pw (N0 lP) Y) (N0 NF)) (N o8 (N0 o1) (N0 o0)))) (N yl (N o1 (N Vj (N Ss (N0 o0) Y) (N0 IF)) (N Pm (N0 o0) (N0 o1))) (N ao (N Fm (N0 ft) (N0 ZA)) (N o0 (N0 BA) (N0 qK))))
def A2(P:Params):BT:=N ck (N o8 (N Ln (N o0 (N o1 (N0 YO) Y) (N0 Bx)) (N o0 (N0 o1) (N0 o0))) (N Ml (N Yj (N Ws (N0 FK) Y) (N0 (QA P))) (N Kp (N0 vA) (N0 jG)))) (N kl (N Rn (N vo (N o0 (N0 BK) Y) (N0 o0)) (N Fp (N0 o0) (N0 gK))) (N o1 (N Dm (N0 bt) (N0 RF)) (N Pp (N0 wx) (N0 o1))))
def K2(P:Params):BT:=N Ph (N sk (N o0 (N Xq (N Ks (N0 bP) Y) (N0 HA)) (N o1 (N0 ax) (N0 o0))) (N o0 (N o0 (N Ys (N0 JK) Y) (N0 o1)) (N Mp (N0 qx) (N0 o0)))) (N o1 (N Jl (N Wi (N gq (N0 iP) Y) (N0 o0)) (N o0 (N0 tA) (N0 fG))) (N Sq (N Hm (N0 o0) (N0 o0)) (N o0 (N0 zx) (N0 (tK P)))))
def U1:BT:=N o8 (N uk (N Kn (N eo (N o0 (N0 uK) Y) (N0 o1)) (N yp (N0 o0) (N0 XF))) (N o1 (N Xj (N o0 (N0 o0) Y) (N0 o0)) (N Rm (N0 di) (N0 o1)))) (N Xe (N Gl (N o0 (N Yp (N0 xK) Y) (N0 EF)) (N Ep (N0 vt) (N0 cG))) (N o0 (N cj (N0 o1) (N0 QF)) (N o1 (N0 o1) (N0 o0))))
def E2(P:Params):BT:=N o1 (N o1 (N Bl (N ro (N Js (N0 vK) Y) (N0 (FA P))) (N o0 (N0 Zw) (N0 aG))) (N Mq (N Zi (N o1 (N0 o1) Y) (N0 UA)) (N o0 (N0 o0) (N0 mK)))) (N (ql P) (N o0 (N o1 (N bq (N0 fP) Y) (N0 o0)) (N Om (N0 fx) (N0 o0))) (N Rq (N o0 (N0 dt) (N0 XA)) (N Ds (N0 o1) (N0 VO))))
def Z1:BT:=N jj (N Xe (N o1 (N Uq (N o0 (N0 o1) Y) (N0 Ax)) (N Jm (N0 o0) (N0 aK))) (N Ll (N o1 (N Nw (N0 kP) Y) (N0 MF)) (N o0 (N0 o0) (N0 iG)))) (N o1 (N o0 (N Zq (N Ms (N0 AK) Y) (N0 LA)) (N o1 (N0 qA) (N0 o0))) (N o0 (N o0 (N0 Zs) (N0 o1)) (N Np (N0 ux) (N0 o0))))
def J2(P:Params):BT:=N kj (N (rk P) (N Nn (N o0 (N o1 (N0 o1) Y) (N0 DF)) (N o0 (N0 o1) (N0 cK))) (N Xn (N ak (N Xs (N0 IK) Y) (N0 o0)) (N js (N0 yA) (N0 lG)))) (N o0 (N Tn (N Vi (N fq (N0 o0) Y) (N0 ue)) (N Hp (N0 o0) (N0 jK))) (N o1 (N o0 (N0 Vw) (N0 YJ)) (N Rp (N0 yx) (N0 o8))))
def X1(P:Params):BT:=N o0 (N ik (N Al (N o0 (N Sp (N0 ue) Y) (N0 o0)) (N Ap (N0 nt) (N0 o0))) (N o0 (N Yi (N (Vs P) (N0 jP) Y) (N0 OA)) (N o1 (N0 o1) (N0 o0)))) (N (jl P) (N o1 (N Yq (N o0 (N0 dP) Y) (N0 FF)) (N Nm (N0 o0) (N0 o1))) (N Yn (N Bm (N0 o0) (N0 WA)) (N o0 (N0 o0) (N0 mG))))
def G2(P:Params):BT:=N o0 (N Zk (N o0 (N o1 (N Xp (N0 ue) Y) (N0 CF)) (N Km (N0 rt) (N0 o0))) (N Nq (N o0 (N o0 (N0 o0) Y) (N0 OF)) (N (Lp P) (N0 xA) (N0 nK)))) (N Gn (N Sn (N o0 (N (cq P) (N0 o1) Y) (N0 MA)) (N o0 (N0 o1) (N0 iK))) (N bo (N Gm (N0 jt) (N0 o0)) (N Es (N0 o0) (N0 rK))))
def B2(P:Params):BT:=N Tc (N (nk P) (N o0 (N Vq (N Hs (N0 o0) Y) (N0 o0)) (N o1 (N0 Yw) (N0 bK))) (N o0 (N o0 (N Ow (N0 GK) Y) (N0 RA)) (N Sm (N0 nx) (N0 o0)))) (N En (N Hl (N wo (N Qs (N0 CK) Y) (N0 o1)) (N o0 (N0 rA) (N0 dG))) (N Qq (N Em (N0 Tw) (N0 o0)) (N o0 (N0 Tc) (N0 UO))))
def N2:BT:=N gk (N bl (N Pn (N so (N o0 (N0 o0) Y) (N0 o0)) (N Dp (N0 o0) (N0 dK))) (N o1 (N bk (N0 ue) (N0 PF)) (N As (N0 rx) (N0 o1)))) (N Jn (N Kl (N o0 (N Ts (N0 DK) Y) (N0 o1)) (N Ip (N0 jx) (N0 gG))) (N o0 (N o0 (N0 o1) (N0 ZJ)) (N o1 (N0 Tc) (N0 o0))))
def NS(P:Params):BT:=N (boot_o_0 P) (N (boot_o_1 P) (N (uac P) (N (boot_o_7 P) (S1 P) (C2 P)) (N o0 (Y1 P) I2)) (N (boot_o_5 P) (N (boot_o_9 P) (V1 P) F2) (N o2 (A2 P) (K2 P)))) (N (o4 P) (N (boot_o_4 P) (N (boot_o_8 P) U1 (E2 P)) (N vac Z1 (J2 P))) (N (boot_o_6 P) (N (boot_o_10 P) (X1 P) (G2 P)) (N o3 (B2 P) N2)))
def O2(P:Params):BT:=N o7 (N (lj P) (N o0 (N Tq (N Fs (N0 WO) Y) (N0 o0)) (N o1 (N Ww (N0 o0) Y) (N0 VF))) (N o0 (N o1 (N Us (N0 EK) Y) (N0 JF)) (N Qm (N mx (N0 o0) Y) (N0 o0)))) (N il (N El (N uo (N Ls (N0 cP) Y) (N0 o1)) (N o0 (N cx (N0 o1) Y) (N0 bG))) (N Oq (N bj (N o0 (N0 o1) Y) (N0 o0)) (N o0 (N0 o0) (N0 oK))))
def Y2(P:Params):BT:=N o0 (N o0 (N Mn (N qo (N o0 (N0 ZO) Y) (N0 o8)) (N Bp (N o0 (N0 zP) Y) (N0 ZF))) (N o1 (N Zj (N o0 (N0 o0) Y) (N0 TA)) (N Um (N px (N0 sX) Y) (N0 o1)))) (N o0 (N Il (N o0 (N aq (N0 eP) Y) (N0 GF)) (N Gp (N dx (N0 mX) Y) (N0 eG))) (N o0 (N We (N (ct P) (N0 dX) Y) (N0 TF)) (N o1 (N0 o0) (N0 o0))))
def S2(P:Params):BT:=N Ii (N jk (N o0 (N o1 (N Tp (N0 o0) Y) (N0 EA)) (N Im (N ot (N0 uP) Y) (N0 o1))) (N Vn (N o0 (N o0 (N0 o0) Y) (N0 PA)) (N Jp (N uA (N0 o0) Y) (N0 lK)))) (N o0 (N Qn (N o0 (N o1 (N0 (zK P)) Y) (N0 JA)) (N o0 (N o1 (N0 DP) Y) (N0 fK))) (N Zn (N Cm (N Sw (N0 oP) Y) (N0 o0)) (N Cs (N0 AA) (N0 nG))))
def B3:BT:=N fk (N o0 (N o1 (N Wq (N o0 (N0 o0) Y) (N0 GA)) (N Lm (N o0 (N0 jX) Y) (N0 o1))) (N Wn (N o1 (N Qw (N0 nP) Y) (N0 di)) (N o0 (N0 o0) (N0 kG)))) (N Hn (N o0 (N Wj (N dq (N0 gP) Y) (N0 NA)) (N o1 (N sA (N0 GP) Y) (N0 o0))) (N o0 (N We (N Uw (N0 rP) Y) (N0 o1)) (N Qp (N0 CA) (N0 o0))))
def Q2(P:Params):BT:=N (o9 P) (N mj (N zl (N oo (N Gs (N0 XO) Y) (N0 DA)) (N o0 (N Xw (N0 sP) Y) (N0 Tc))) (N Un (N Xi (N o8 (N0 o1) Y) (N0 LF)) (N o0 (N o0 (N0 HP) Y) (N0 kK)))) (N o8 (N o0 (N o1 (N Zp (N0 yK) Y) (N0 o0)) (N Mm (N wt (N0 o0) Y) (N0 o0))) (N Pq (N dj (N Rw (N0 o0) Y) (N0 VA)) (N Bs (N0 zA) (N0 pK))))
def u3:BT:=N dk (N qk (N Dl (N o0 (N Vp (N0 wK) Y) (N0 o0)) (N Cp (N qt (N0 o0) Y) (N0 Tc))) (N o0 (N aj (N Pw (N0 lP) Y) (N0 NF)) (N o8 (N o1 (N0 KP) Y) (N0 o0)))) (N yl (N o1 (N Vj (N Ss (N0 o0) Y) (N0 IF)) (N Pm (N o0 (N0 nX) Y) (N0 o1))) (N ao (N Fm (N ft (N0 fX) Y) (N0 ZA)) (N o0 (N0 BA) (N0 qK))))
def V2(P:Params):BT:=N ck (N o8 (N Ln (N o0 (N o1 (N0 YO) Y) (N0 Bx)) (N o0 (N o1 (N0 xP) Y) (N0 o0))) (N Ml (N Yj (N Ws (N0 FK) Y) (N0 (QA P))) (N Kp (N vA (N0 rX) Y) (N0 jG)))) (N kl (N Rn (N vo (N o0 (N0 BK) Y) (N0 o0)) (N Fp (N o0 (N0 o0) Y) (N0 gK))) (N o1 (N Dm (N bt (N0 o0) Y) (N0 RF)) (N Pp (N0 wx) (N0 o1))))
def E3(P:Params):BT:=N Ph (N sk (N o0 (N Xq (N Ks (N0 bP) Y) (N0 HA)) (N o1 (N ax (N0 CP) Y) (N0 o0))) (N o0 (N o0 (N Ys (N0 JK) Y) (N0 o1)) (N Mp (N0 qx) (N0 o0)))) (N o1 (N Jl (N Wi (N gq (N0 iP) Y) (N0 o0)) (N o0 (N tA (N0 o1) Y) (N0 fG))) (N Sq (N Hm (N o0 (N0 o1) Y) (N0 o0)) (N o0 (N0 zx) (N0 (tK P)))))
def P2:BT:=N o8 (N uk (N Kn (N eo (N o0 (N0 uK) Y) (N0 o1)) (N yp (N o0 (N0 iX) Y) (N0 XF))) (N o1 (N Xj (N o0 (N0 o0) Y) (N0 o0)) (N Rm (N di (N0 pX) Y) (N0 o1)))) (N Xe (N Gl (N o0 (N Yp (N0 xK) Y) (N0 EF)) (N Ep (N vt (N0 kX) Y) (N0 cG))) (N o0 (N cj (N o1 (N0 bX) Y) (N0 QF)) (N o1 (N0 o1) (N0 o0))))
def Z2(P:Params):BT:=N o1 (N o1 (N Bl (N ro (N Js (N0 vK) Y) (N0 (FA P))) (N o0 (N Zw (N0 AP) Y) (N0 aG))) (N Mq (N Zi (N o1 (N0 o1) Y) (N0 UA)) (N o0 (N o0 (N0 JP) Y) (N0 mK)))) (N (ql P) (N o0 (N o1 (N bq (N0 fP) Y) (N0 o0)) (N Om (N fx (N0 o0) Y) (N0 o0))) (N Rq (N o0 (N dt (N0 o0) Y) (N0 XA)) (N Ds (N0 o1) (N0 VO))))
def U2:BT:=N jj (N Xe (N o1 (N Uq (N o0 (N0 o1) Y) (N0 Ax)) (N Jm (N o0 (N0 vP) Y) (N0 aK))) (N Ll (N o1 (N Nw (N0 kP) Y) (N0 MF)) (N o0 (N o0 (N0 o1) Y) (N0 iG)))) (N o1 (N o0 (N Zq (N Ms (N0 AK) Y) (N0 LA)) (N o1 (N qA (N0 EP) Y) (N0 o0))) (N o0 (N o0 (N Zs (N0 pP) Y) (N0 o1)) (N Np (N0 ux) (N0 o0))))
def C3(P:Params):BT:=N kj (N (rk P) (N Nn (N o0 (N o1 (N0 o1) Y) (N0 DF)) (N o0 (N o1 (N0 BP) Y) (N0 cK))) (N Xn (N ak (N Xs (N0 IK) Y) (N0 o0)) (N js (N0 yA) (N0 lG)))) (N o0 (N Tn (N Vi (N fq (N0 o0) Y) (N0 ue)) (N Hp (N o0 (N0 o0) Y) (N0 jK))) (N o1 (N o0 (N Vw (N0 o0) Y) (N0 YJ)) (N Rp (N0 yx) (N0 o8))))
def R2(P:Params):BT:=N o0 (N ik (N Al (N o0 (N Sp (N0 ue) Y) (N0 o0)) (N Ap (N nt (N0 tP) Y) (N0 o0))) (N o0 (N Yi (N (Vs P) (N0 jP) Y) (N0 OA)) (N o1 (N o1 (N0 IP) Y) (N0 o0)))) (N (jl P) (N o1 (N Yq (N o0 (N0 dP) Y) (N0 FF)) (N Nm (N o0 (N0 lX) Y) (N0 o1))) (N Yn (N Bm (N o0 (N0 cX) Y) (N0 WA)) (N o0 (N0 o0) (N0 mG))))
def A3(P:Params):BT:=N o0 (N Zk (N o0 (N o1 (N Xp (N0 ue) Y) (N0 CF)) (N Km (N rt (N0 o1) Y) (N0 o0))) (N Nq (N o0 (N o0 (N0 o0) Y) (N0 OF)) (N (Lp P) (N0 xA) (N0 nK)))) (N Gn (N Sn (N o0 (N (cq P) (N0 o1) Y) (N0 MA)) (N o0 (N o1 (N0 FP) Y) (N0 iK))) (N bo (N Gm (N jt (N0 qP) Y) (N0 o0)) (N Es (N0 o0) (N0 rK))))
def X2(P:Params):BT:=N Tc (N (nk P) (N o0 (N Vq (N Hs (N0 o0) Y) (N0 o0)) (N o1 (N Yw (N0 yP) Y) (N0 bK))) (N o0 (N o0 (N Ow (N0 GK) Y) (N0 RA)) (N Sm (N nx (N0 o0) Y) (N0 o0)))) (N En (N Hl (N wo (N Qs (N0 CK) Y) (N0 o1)) (N o0 (N rA (N0 o1) Y) (N0 dG))) (N Qq (N Em (N Tw (N0 o1) Y) (N0 o0)) (N o0 (N0 Tc) (N0 UO))))
def F3:BT:=N gk (N bl (N Pn (N so (N o0 (N0 o0) Y) (N0 o0)) (N Dp (N o0 (N0 o0) Y) (N0 dK))) (N o1 (N bk (N ue (N0 o0) Y) (N0 PF)) (N As (N0 rx) (N0 o1)))) (N Jn (N Kl (N o0 (N Ts (N0 DK) Y) (N0 o1)) (N Ip (N jx (N0 oX) Y) (N0 gG))) (N o0 (N o0 (N o1 (N0 gX) Y) (N0 ZJ)) (N o1 (N0 Tc) (N0 o0))))
def OS(P:Params):BT:=N (boot_o_0 P) (N (boot_o_1 P) (N (wac P) (N (boot_o_7 P) (O2 P) (Y2 P)) (N o0 (S2 P) B3)) (N (boot_o_5 P) (N (boot_o_9 P) (Q2 P) u3) (N o2 (V2 P) (E3 P)))) (N (o4 P) (N (boot_o_4 P) (N (boot_o_8 P) P2 (Z2 P)) (N xac U2 (C3 P))) (N (boot_o_6 P) (N (boot_o_10 P) (R2 P) (A3 P)) (N o3 (X2 P) F3)))
def G3(P:Params):BT:=N o7 (N (lj P) (N o0 (N Tq (N Fs (N0 WO) Y) (N o0 (N0 Eac) Y)) (N o1 (N Ww (N0 o0) Y) (N0 VF))) (N o0 (N o1 (N Us (N0 EK) Y) (N JF (N0 JX) Y)) (N Qm (N mx (N0 o0) Y) (N0 o0)))) (N il (N El (N uo (N Ls (N0 cP) Y) (N o1 (N0 Jac) Y)) (N o0 (N cx (N0 o1) Y) (N0 bG))) (N Oq (N bj (N o0 (N0 o1) Y) (N0 o0)) (N o0 (N o0 (N0 uX) Y) (N0 oK))))
def R3(P:Params):BT:=N o0 (N o0 (N Mn (N qo (N o0 (N0 ZO) Y) (N o8 (N0 o0) Y)) (N Bp (N o0 (N0 zP) Y) (N0 ZF))) (N o1 (N Zj (N o0 (N0 o0) Y) (N TA (N0 o0) Y)) (N Um (N px (N0 sX) Y) (N0 o1)))) (N o0 (N Il (N o0 (N aq (N0 eP) Y) (N GF (N0 GX) Y)) (N Gp (N dx (N0 mX) Y) (N0 eG))) (N o0 (N We (N (ct P) (N0 dX) Y) (N0 TF)) (N o1 (N o0 (N0 o1) Y) (N0 o0))))
def M3(P:Params):BT:=N Ii (N jk (N o0 (N o1 (N Tp (N0 o0) Y) (N EA (N0 BX) Y)) (N Im (N ot (N0 uP) Y) (N0 o1))) (N Vn (N o0 (N o0 (N0 o0) Y) (N PA (N0 o0) Y)) (N Jp (N uA (N0 o0) Y) (N0 lK)))) (N o0 (N Qn (N o0 (N o1 (N0 (zK P)) Y) (N JA (N0 o1) Y)) (N o0 (N o1 (N0 DP) Y) (N0 fK))) (N Zn (N Cm (N Sw (N0 oP) Y) (N0 o0)) (N Cs (N AA (N0 Bac) Y) (N0 nG))))
def X3:BT:=N fk (N o0 (N o1 (N Wq (N o0 (N0 o0) Y) (N GA (N0 o0) Y)) (N Lm (N o0 (N0 jX) Y) (N0 o1))) (N Wn (N o1 (N Qw (N0 nP) Y) (N di (N0 OX) Y)) (N o0 (N o0 (N0 o1) Y) (N0 kG)))) (N Hn (N o0 (N Wj (N dq (N0 gP) Y) (N NA (N0 Mac) Y)) (N o1 (N sA (N0 GP) Y) (N0 o0))) (N o0 (N We (N Uw (N0 rP) Y) (N0 o1)) (N Qp (N CA (N0 yX) Y) (N0 o0))))
def J3(P:Params):BT:=N (o9 P) (N mj (N zl (N oo (N Gs (N0 XO) Y) (N DA (N0 Fac) Y)) (N o0 (N Xw (N0 sP) Y) (N0 Tc))) (N Un (N Xi (N o8 (N0 o1) Y) (N LF (N0 o1) Y)) (N o0 (N o0 (N0 HP) Y) (N0 kK)))) (N o8 (N o0 (N o1 (N Zp (N0 yK) Y) (N o0 (N0 FX) Y)) (N Mm (N wt (N0 o0) Y) (N0 o0))) (N Pq (N dj (N Rw (N0 o0) Y) (N0 VA)) (N Bs (N zA (N0 o0) Y) (N0 pK))))
def U3:BT:=N dk (N qk (N Dl (N o0 (N Vp (N0 wK) Y) (N o0 (N0 CX) Y)) (N Cp (N qt (N0 o0) Y) (N0 Tc))) (N o0 (N aj (N Pw (N0 lP) Y) (N NF (N0 Qac) Y)) (N o8 (N o1 (N0 KP) Y) (N0 o0)))) (N yl (N o1 (N Vj (N Ss (N0 o0) Y) (N IF (N0 o0) Y)) (N Pm (N o0 (N0 nX) Y) (N0 o1))) (N ao (N Fm (N ft (N0 fX) Y) (N0 ZA)) (N o0 (N BA (N0 o0) Y) (N0 qK))))
def O3(P:Params):BT:=N ck (N o8 (N Ln (N o0 (N o1 (N0 YO) Y) (N Bx (N0 o1) Y)) (N o0 (N o1 (N0 xP) Y) (N0 o0))) (N Ml (N Yj (N Ws (N0 FK) Y) (N (QA P) (N0 LX) Y)) (N Kp (N vA (N0 rX) Y) (N0 jG)))) (N kl (N Rn (N vo (N o0 (N0 BK) Y) (N o0 (N0 o0) Y)) (N Fp (N o0 (N0 o0) Y) (N0 gK))) (N o1 (N Dm (N bt (N0 o0) Y) (N0 RF)) (N Pp (N wx (N0 xX) Y) (N0 o1))))
def Z3(P:Params):BT:=N Ph (N sk (N o0 (N Xq (N Ks (N0 bP) Y) (N HA (N0 Iac) Y)) (N o1 (N ax (N0 CP) Y) (N0 o0))) (N o0 (N o0 (N Ys (N0 JK) Y) (N0 o1)) (N Mp (N qx (N0 o0) Y) (N0 o0)))) (N o1 (N Jl (N Wi (N gq (N0 iP) Y) (N o0 (N0 Nac) Y)) (N o0 (N tA (N0 o1) Y) (N0 fG))) (N Sq (N Hm (N o0 (N0 o1) Y) (N0 o0)) (N o0 (N zx (N0 o0) Y) (N0 (tK P)))))
def I3:BT:=N o8 (N uk (N Kn (N eo (N o0 (N0 uK) Y) (N o1 (N0 o0) Y)) (N yp (N o0 (N0 iX) Y) (N0 XF))) (N o1 (N Xj (N o0 (N0 o0) Y) (N o0 (N0 o0) Y)) (N Rm (N di (N0 pX) Y) (N0 o1)))) (N Xe (N Gl (N o0 (N Yp (N0 xK) Y) (N EF (N0 EX) Y)) (N Ep (N vt (N0 kX) Y) (N0 cG))) (N o0 (N cj (N o1 (N0 bX) Y) (N0 QF)) (N o1 (N o1 (N0 vX) Y) (N0 o0))))
def S3(P:Params):BT:=N o1 (N o1 (N Bl (N ro (N Js (N0 vK) Y) (N (FA P) (N0 Hac) Y)) (N o0 (N Zw (N0 AP) Y) (N0 aG))) (N Mq (N Zi (N o1 (N0 o1) Y) (N UA (N0 o1) Y)) (N o0 (N o0 (N0 JP) Y) (N0 mK)))) (N (ql P) (N o0 (N o1 (N bq (N0 fP) Y) (N o0 (N0 HX) Y)) (N Om (N fx (N0 o0) Y) (N0 o0))) (N Rq (N o0 (N dt (N0 o0) Y) (N0 XA)) (N Ds (N o1 (N0 Cac) Y) (N0 VO))))
def N3:BT:=N jj (N Xe (N o1 (N Uq (N o0 (N0 o1) Y) (N Ax (N0 o0) Y)) (N Jm (N o0 (N0 vP) Y) (N0 aK))) (N Ll (N o1 (N Nw (N0 kP) Y) (N MF (N0 Pac) Y)) (N o0 (N o0 (N0 o1) Y) (N0 iG)))) (N o1 (N o0 (N Zq (N Ms (N0 AK) Y) (N LA (N0 Kac) Y)) (N o1 (N qA (N0 EP) Y) (N0 o0))) (N o0 (N o0 (N Zs (N0 pP) Y) (N0 o1)) (N Np (N ux (N0 wX) Y) (N0 o0))))
def Y3(P:Params):BT:=N kj (N (rk P) (N Nn (N o0 (N o1 (N0 o1) Y) (N DF (N0 o1) Y)) (N o0 (N o1 (N0 BP) Y) (N0 cK))) (N Xn (N ak (N Xs (N0 IK) Y) (N0 o0)) (N js (N yA (N0 zac) Y) (N0 lG)))) (N o0 (N Tn (N Vi (N fq (N0 o0) Y) (N ue (N0 o0) Y)) (N Hp (N o0 (N0 o0) Y) (N0 jK))) (N o1 (N o0 (N Vw (N0 o0) Y) (N0 YJ)) (N Rp (N yx (N0 zX) Y) (N0 o8))))
def K3(P:Params):BT:=N o0 (N ik (N Al (N o0 (N Sp (N0 ue) Y) (N o0 (N0 AX) Y)) (N Ap (N nt (N0 tP) Y) (N0 o0))) (N o0 (N Yi (N (Vs P) (N0 jP) Y) (N OA (N0 Oac) Y)) (N o1 (N o1 (N0 IP) Y) (N0 o0)))) (N (jl P) (N o1 (N Yq (N o0 (N0 dP) Y) (N FF (N0 o0) Y)) (N Nm (N o0 (N0 lX) Y) (N0 o1))) (N Yn (N Bm (N o0 (N0 cX) Y) (N0 WA)) (N o0 (N o0 (N0 o1) Y) (N0 mG))))
def V3(P:Params):BT:=N o0 (N Zk (N o0 (N o1 (N Xp (N0 ue) Y) (N CF (N0 DX) Y)) (N Km (N rt (N0 o1) Y) (N0 o0))) (N Nq (N o0 (N o0 (N0 o0) Y) (N OF (N0 NX) Y)) (N (Lp P) (N xA (N0 o0) Y) (N0 nK)))) (N Gn (N Sn (N o0 (N (cq P) (N0 o1) Y) (N MA (N0 o1) Y)) (N o0 (N o1 (N0 FP) Y) (N0 iK))) (N bo (N Gm (N jt (N0 qP) Y) (N0 o0)) (N Es (N o0 (N0 Dac) Y) (N0 rK))))
def Q3(P:Params):BT:=N Tc (N (nk P) (N o0 (N Vq (N Hs (N0 o0) Y) (N o0 (N0 Gac) Y)) (N o1 (N Yw (N0 yP) Y) (N0 bK))) (N o0 (N o0 (N Ow (N0 GK) Y) (N RA (N0 MX) Y)) (N Sm (N nx (N0 o0) Y) (N0 o0)))) (N En (N Hl (N wo (N Qs (N0 CK) Y) (N o1 (N0 Lac) Y)) (N o0 (N rA (N0 o1) Y) (N0 dG))) (N Qq (N Em (N Tw (N0 o1) Y) (N0 o0)) (N o0 (N Tc (N0 o0) Y) (N0 UO))))
def g4:BT:=N gk (N bl (N Pn (N so (N o0 (N0 o0) Y) (N o0 (N0 o0) Y)) (N Dp (N o0 (N0 o0) Y) (N0 dK))) (N o1 (N bk (N ue (N0 o0) Y) (N0 PF)) (N As (N rx (N0 Aac) Y) (N0 o1)))) (N Jn (N Kl (N o0 (N Ts (N0 DK) Y) (N o1 (N0 IX) Y)) (N Ip (N jx (N0 oX) Y) (N0 gG))) (N o0 (N o0 (N o1 (N0 gX) Y) (N0 ZJ)) (N o1 (N Tc (N0 o1) Y) (N0 o0))))
def PS(P:Params):BT:=N (boot_o_0 P) (N (boot_o_1 P) (N (tX P) (N (boot_o_7 P) (G3 P) (R3 P)) (N o0 (M3 P) X3)) (N (boot_o_5 P) (N (boot_o_9 P) (J3 P) U3) (N o2 (O3 P) (Z3 P)))) (N (o4 P) (N (boot_o_4 P) (N (boot_o_8 P) I3 (S3 P)) (N yac N3 (Y3 P))) (N (boot_o_6 P) (N (boot_o_10 P) (K3 P) (V3 P)) (N o3 (Q3 P) g4)))
def q1(w:World):(λos=>SR TT TP w 11 vc 1 311 (SS (t0 w.params) 15 187 os) (piecesOf (seg TP 0 10) (EN TP) (CE TP) ⟨0,0,0,0⟩ FB))=(λos=>some (Flow.next,SS (t1 w.params) 36 234 os,CE TP,⟨10,0,13,24⟩)):=by kernel_rfl
def q2(w:World):(λos=>SR TT TP w 11 vc 1 214 (SS (t1 w.params) 36 234 os) (piecesOf (seg TP 10 1) (EN TP) (CE TP) ⟨10,0,13,24⟩ FB))=(λos=>some (Flow.next,SS (t2 w.params) 48 250 os,CE TP,⟨14,0,15,8⟩)):=by kernel_rfl
def q3(w:World):(λos=>SR TT TP w 11 vc 1 398 (SS (t2 w.params) 48 250 os) (piecesOf (seg TP 11 8) (EN TP) (CE TP) ⟨14,0,15,8⟩ FB))=(λos=>some (Flow.next,SS (t3 w.params) 102 311 os,CE TP,⟨32,0,32,8⟩)):=by kernel_rfl
def q4(w:World):(λos=>SR TT TP w 11 vc 1 375 (SS (t3 w.params) 102 311 os) (piecesOf (seg TP 19 23) (EN TP) (CE TP) ⟨32,0,32,8⟩ FB))=(λos=>some (Flow.next,SS (t4 w.params) 151 419 os,CE TP,⟨102,0,115,57⟩)):=by kernel_rfl
def q5(w:World):(λos=>SR TT TP w 11 vc 1 224 (SS (t4 w.params) 151 419 os) (piecesOf (seg TP 42 14) (EN TP) (CE TP) ⟨102,0,115,57⟩ FB))=(λos=>some (Flow.next,SS (t5 w.params) 178 484 os,CE TP,⟨169,0,169,10⟩)):=by kernel_rfl
def aU(w:World):(λos=>SR TT TP (w.withFollow "special-get-raises" false) 11 vc 1 214 (SS (t5 (w.withFollow "special-get-raises" false).params) 178 484 os) (piecesOf (seg TP 56 3) (EN TP) (CE TP) ⟨169,0,169,10⟩ FB))=(λos=>some (Flow.next,SS (t6 (w.withFollow "special-get-raises" false).params) 190 498 os,CE TP,⟨172,14,172,25⟩)):=by kernel_rfl
def iY(w:World):(λos=>SR TT TP (w.withFollow "special-get-raises" true) 11 vc 1 214 (SS (t5 (w.withFollow "special-get-raises" true).params) 178 484 os) (piecesOf (seg TP 56 3) (EN TP) (CE TP) ⟨169,0,169,10⟩ FB))=(λos=>some (Flow.next,SS (t6 (w.withFollow "special-get-raises" true).params) 190 498 os,CE TP,⟨172,14,172,25⟩)):=by kernel_rfl
def q6(w:World):(λos=>SR TT TP w 11 vc 1 214 (SS (t5 w.params) 178 484 os) (piecesOf (seg TP 56 3) (EN TP) (CE TP) ⟨169,0,169,10⟩ FB))=(λos=>some (Flow.next,SS (t6 w.params) 190 498 os,CE TP,⟨172,14,172,25⟩)):=byRow2 "special-get-raises" (P:=λw=>(λos=>SR TT TP w 11 vc 1 214 (SS (t5 w.params) 178 484 os) (piecesOf (seg TP 56 3) (EN TP) (CE TP) ⟨169,0,169,10⟩ FB))=(λos=>some (Flow.next,SS (t6 w.params) 190 498 os,CE TP,⟨172,14,172,25⟩))) aU iY w
def q7(w:World):(λos=>SR TT TP w 11 vc 1 187 (SS (t6 w.params) 190 498 os) (piecesOf (seg TP 59 6) (EN TP) (CE TP) ⟨172,14,172,25⟩ FB))=(λos=>some (Flow.next,SS (t7 w.params) 232 552 os,CE TP,⟨213,0,217,51⟩)):=by kernel_rfl
def q8(w:World):(λos=>SR TT TP w 11 vc 1 387 (SS (t7 w.params) 232 552 os) (piecesOf (seg TP 65 1) (EN TP) (CE TP) ⟨213,0,217,51⟩ FB))=(λos=>some (Flow.next,SS (t8 w.params) 288 625 os,CE TP,⟨218,0,263,54⟩)):=by kernel_rfl
def q9(w:World):(λos=>SR TT TP w 11 vc 1 386 (SS (t8 w.params) 288 625 os) (piecesOf (seg TP 66 8) (EN TP) (CE TP) ⟨218,0,263,54⟩ FB))=(λos=>some (Flow.next,SS (t9 w.params) 338 698 os,CE TP,⟨295,0,296,79⟩)):=by kernel_rfl
def q10(w:World):(λos=>SR TT TP w 11 vc 1 232 (SS (t9 w.params) 338 698 os) (piecesOf (seg TP 74 7) (EN TP) (CE TP) ⟨295,0,296,79⟩ FB))=(λos=>some (Flow.next,SS (KS w.params) 390 770 os,CE TP,⟨335,0,341,16⟩)):=by kernel_rfl
def q11(w:World):(λos=>SR TT TP w 11 vc 1 374 (SS (KS w.params) 390 770 os) (piecesOf (seg TP 81 3) (EN TP) (CE TP) ⟨335,0,341,16⟩ FB))=(λos=>some (Flow.next,SS (LS w.params) 442 853 os,CE TP,⟨375,0,384,74⟩)):=by kernel_rfl
def q12(w:World):(λos=>SR TT TP w 11 vc 1 380 (SS (LS w.params) 442 853 os) (piecesOf (seg TP 84 21) (EN TP) (CE TP) ⟨375,0,384,74⟩ FB))=(λos=>some (Flow.next,SS (MS w.params) 500 963 os,CE TP,⟨464,0,472,16⟩)):=by kernel_rfl
def q13(w:World):(λos=>SR TT TP w 11 vc 1 391 (SS (MS w.params) 500 963 os) (piecesOf (seg TP 105 5) (EN TP) (CE TP) ⟨464,0,472,16⟩ FB))=(λos=>some (Flow.next,SS (NS w.params) 558 1046 os,CE TP,⟨507,0,511,62⟩)):=by kernel_rfl
def q14(w:World):(λos=>SR TT TP w 11 vc 1 375 (SS (NS w.params) 558 1046 os) (piecesOf (seg TP 110 12) (EN TP) (CE TP) ⟨507,0,511,62⟩ FB))=(λos=>some (Flow.next,SS (OS w.params) 618 1206 os,CE TP,⟨594,0,598,34⟩)):=by kernel_rfl
def q15(w:World):(λos=>SR TT TP w 11 vc 1 329 (SS (OS w.params) 618 1206 os) (piecesOf (seg TP 122 10) (EN TP) (CE TP) ⟨594,0,598,34⟩ FB))=(λos=>some (Flow.next,SS (PS w.params) 684 1318 os,CE TP,⟨672,0,691,65⟩)):=by kernel_rfl
noncomputable abbrev PW:Program:=pw_rg0336_01
def faa: @segRunT=SR:=te10110043849684766642
def wL:treeTable=TT:=te14364793385576792824
def GD:PW=TP:=rfl
noncomputable abbrev TG:=tw15667345088766844465
def gaa: @topGo=TG:=te15667345088766844465
noncomputable abbrev SG:=tw14374325043358763698
noncomputable abbrev DN:= @tw11892475500146522536
def baa: @denote= @DN:=te11892475500146522536
def eaa: @segRun=SG:=te14374325043358763698
noncomputable abbrev IM:=tw5923862056798008813
def caa: @importedModules=IM:=te5923862056798008813
noncomputable abbrev OP:= @tw4187177175401517315
def daa: @openSeen= @OP:=te4187177175401517315
def SJ{w:World}{n:Nat}{s s':SharedT}{pos pos':Pos}(l:Program->List Stmt)(h:SR TT TP w 11 vc 1 n s (piecesOf (l TP) (EN TP) (CE TP) pos FB)=some (Flow.next,s',CE TP,pos')):
  segRun treeTable PW w 11 vc 1 n s.abs (piecesOf (l PW) (EN PW) (CE PW) pos FB)=some (Flow.next,s'.abs,CE PW,pos'):=by
 rw [<-faa,<-wL,<-GD] at h;exact segRun_of h
def go{w:World}{N n:Nat}{s s':SharedT}{r:Shared}{a c:Nat}{pos pos':Pos}(h:SR TT TP w 11 vc 1 n s (piecesOf (seg TP a c) (EN TP) (CE TP) pos FB)=some (Flow.next,s',CE TP,pos'))(k:topRun treeTable PW w 11 vc N s'.abs (restOf ((BD PW).drop (a+c)) (EN PW) (CE PW) pos' FB)=some r):
  topRun treeTable PW w 11 vc (n+N) s.abs (restOf ((BD PW).drop a) (EN PW) (CE PW) pos FB)=some r:=by
 rw [<-Mad PW a c];exact piece_app (SJ (λp=>seg p a c) h) k
def EV:(BD PW).drop 132= []:=by kernel_rfl
abbrev HF(P:Params):Heap:=absHeap (PS P) 684 XN
abbrev FS(w:World)(os:OsState):Shared:=⟨HF w.params,⟨[]⟩,boot_drawn,1318,os⟩
def fin(w:World)(os:OsState):topRun treeTable PW w 11 vc 2 (SS (PS w.params) 684 1318 os).abs (restOf ((BD PW).drop 132) (EN PW) (CE PW) ⟨672,0,691,65⟩ FB)=some (FS w os):=by rw [EV];kernel_rfl
def ead(w:World):(λos=>TG TT TP w 11 vc 12 ⟨boot_heap w.params,⟨[]⟩,boot_drawn,boot_toks,os⟩ (topStub TP))=(λos=>some (⟨hA w.params,⟨[]⟩,boot_drawn,187,os⟩,(⟨DN TT (CE TP),CE TP,⟨0,0,0,0⟩,FB⟩:Thread))):=by kernel_rfl
def dad(w:World)(os:OsState):topGo treeTable PW w 11 vc 12 ⟨boot_heap w.params,⟨[]⟩,boot_drawn,boot_toks,os⟩ (topStub PW)=some (⟨hA w.params,⟨[]⟩,boot_drawn,187,os⟩,(⟨denote treeTable (CE PW),CE PW,⟨0,0,0,0⟩,FB⟩:Thread)):=by have h:=congrFun (ead w) os;rw [<-gaa,<-baa,<-wL,<-GD] at h;exact h
def IV(w:World):(λos=>SG TT TP w 11 vc 1 1 ⟨hA w.params,⟨[]⟩,boot_drawn,187,os⟩ (blockOf (BD TP) (EN TP) (CE TP) ⟨0,0,0,0⟩ FB))=(λos=>some (Flow.next,(SS (t0 w.params) 15 187 os).abs,CE TP,⟨0,0,0,0⟩)):=by kernel_rfl
def block(w:World)(os:OsState):segRun treeTable PW w 11 vc 1 1 ⟨hA w.params,⟨[]⟩,boot_drawn,187,os⟩ (blockOf (BD PW) (EN PW) (CE PW) ⟨0,0,0,0⟩ FB)=some (Flow.next,(SS (t0 w.params) 15 187 os).abs,CE PW,⟨0,0,0,0⟩):=by have h:=congrFun (IV w) os;rw [<-eaa,<-wL,<-GD] at h;exact h
def r15(w:World)(os:OsState):topRun treeTable PW w 11 vc 331 (SS (OS w.params) 618 1206 os).abs (restOf ((BD PW).drop 122) (EN PW) (CE PW) ⟨594,0,598,34⟩ FB)=some (FS w os):=go (N:=2) (n:=329) (a:=122) (c:=10) (s':=SS (PS w.params) 684 1318 os) (pos':=⟨672,0,691,65⟩) (congrFun (q15 w) os) (fin w os)
def r14(w:World)(os:OsState):topRun treeTable PW w 11 vc 706 (SS (NS w.params) 558 1046 os).abs (restOf ((BD PW).drop 110) (EN PW) (CE PW) ⟨507,0,511,62⟩ FB)=some (FS w os):=go (N:=331) (n:=375) (a:=110) (c:=12) (s':=SS (OS w.params) 618 1206 os) (pos':=⟨594,0,598,34⟩) (congrFun (q14 w) os) (r15 w os)
def r13(w:World)(os:OsState):topRun treeTable PW w 11 vc 1097 (SS (MS w.params) 500 963 os).abs (restOf ((BD PW).drop 105) (EN PW) (CE PW) ⟨464,0,472,16⟩ FB)=some (FS w os):=go (N:=706) (n:=391) (a:=105) (c:=5) (s':=SS (NS w.params) 558 1046 os) (pos':=⟨507,0,511,62⟩) (congrFun (q13 w) os) (r14 w os)
def r12(w:World)(os:OsState):topRun treeTable PW w 11 vc 1477 (SS (LS w.params) 442 853 os).abs (restOf ((BD PW).drop 84) (EN PW) (CE PW) ⟨375,0,384,74⟩ FB)=some (FS w os):=go (N:=1097) (n:=380) (a:=84) (c:=21) (s':=SS (MS w.params) 500 963 os) (pos':=⟨464,0,472,16⟩) (congrFun (q12 w) os) (r13 w os)
def r11(w:World)(os:OsState):topRun treeTable PW w 11 vc 1851 (SS (KS w.params) 390 770 os).abs (restOf ((BD PW).drop 81) (EN PW) (CE PW) ⟨335,0,341,16⟩ FB)=some (FS w os):=go (N:=1477) (n:=374) (a:=81) (c:=3) (s':=SS (LS w.params) 442 853 os) (pos':=⟨375,0,384,74⟩) (congrFun (q11 w) os) (r12 w os)
def r10(w:World)(os:OsState):topRun treeTable PW w 11 vc 2083 (SS (t9 w.params) 338 698 os).abs (restOf ((BD PW).drop 74) (EN PW) (CE PW) ⟨295,0,296,79⟩ FB)=some (FS w os):=go (N:=1851) (n:=232) (a:=74) (c:=7) (s':=SS (KS w.params) 390 770 os) (pos':=⟨335,0,341,16⟩) (congrFun (q10 w) os) (r11 w os)
def r9(w:World)(os:OsState):topRun treeTable PW w 11 vc 2469 (SS (t8 w.params) 288 625 os).abs (restOf ((BD PW).drop 66) (EN PW) (CE PW) ⟨218,0,263,54⟩ FB)=some (FS w os):=go (N:=2083) (n:=386) (a:=66) (c:=8) (s':=SS (t9 w.params) 338 698 os) (pos':=⟨295,0,296,79⟩) (congrFun (q9 w) os) (r10 w os)
def r8(w:World)(os:OsState):topRun treeTable PW w 11 vc 2856 (SS (t7 w.params) 232 552 os).abs (restOf ((BD PW).drop 65) (EN PW) (CE PW) ⟨213,0,217,51⟩ FB)=some (FS w os):=go (N:=2469) (n:=387) (a:=65) (c:=1) (s':=SS (t8 w.params) 288 625 os) (pos':=⟨218,0,263,54⟩) (congrFun (q8 w) os) (r9 w os)
def r7(w:World)(os:OsState):topRun treeTable PW w 11 vc 3043 (SS (t6 w.params) 190 498 os).abs (restOf ((BD PW).drop 59) (EN PW) (CE PW) ⟨172,14,172,25⟩ FB)=some (FS w os):=go (N:=2856) (n:=187) (a:=59) (c:=6) (s':=SS (t7 w.params) 232 552 os) (pos':=⟨213,0,217,51⟩) (congrFun (q7 w) os) (r8 w os)
def r6(w:World)(os:OsState):topRun treeTable PW w 11 vc 3257 (SS (t5 w.params) 178 484 os).abs (restOf ((BD PW).drop 56) (EN PW) (CE PW) ⟨169,0,169,10⟩ FB)=some (FS w os):=go (N:=3043) (n:=214) (a:=56) (c:=3) (s':=SS (t6 w.params) 190 498 os) (pos':=⟨172,14,172,25⟩) (congrFun (q6 w) os) (r7 w os)
def r5(w:World)(os:OsState):topRun treeTable PW w 11 vc 3481 (SS (t4 w.params) 151 419 os).abs (restOf ((BD PW).drop 42) (EN PW) (CE PW) ⟨102,0,115,57⟩ FB)=some (FS w os):=go (N:=3257) (n:=224) (a:=42) (c:=14) (s':=SS (t5 w.params) 178 484 os) (pos':=⟨169,0,169,10⟩) (congrFun (q5 w) os) (r6 w os)
def r4(w:World)(os:OsState):topRun treeTable PW w 11 vc 3856 (SS (t3 w.params) 102 311 os).abs (restOf ((BD PW).drop 19) (EN PW) (CE PW) ⟨32,0,32,8⟩ FB)=some (FS w os):=go (N:=3481) (n:=375) (a:=19) (c:=23) (s':=SS (t4 w.params) 151 419 os) (pos':=⟨102,0,115,57⟩) (congrFun (q4 w) os) (r5 w os)
def r3(w:World)(os:OsState):topRun treeTable PW w 11 vc 4254 (SS (t2 w.params) 48 250 os).abs (restOf ((BD PW).drop 11) (EN PW) (CE PW) ⟨14,0,15,8⟩ FB)=some (FS w os):=go (N:=3856) (n:=398) (a:=11) (c:=8) (s':=SS (t3 w.params) 102 311 os) (pos':=⟨32,0,32,8⟩) (congrFun (q3 w) os) (r4 w os)
def r2(w:World)(os:OsState):topRun treeTable PW w 11 vc 4468 (SS (t1 w.params) 36 234 os).abs (restOf ((BD PW).drop 10) (EN PW) (CE PW) ⟨10,0,13,24⟩ FB)=some (FS w os):=go (N:=4254) (n:=214) (a:=10) (c:=1) (s':=SS (t2 w.params) 48 250 os) (pos':=⟨14,0,15,8⟩) (congrFun (q2 w) os) (r3 w os)
def r1(w:World)(os:OsState):topRun treeTable PW w 11 vc 4779 (SS (t0 w.params) 15 187 os).abs (restOf ((BD PW).drop 0) (EN PW) (CE PW) ⟨0,0,0,0⟩ FB)=some (FS w os):=go (N:=4468) (n:=311) (a:=0) (c:=10) (s':=SS (t1 w.params) 36 234 os) (pos':=⟨10,0,13,24⟩) (congrFun (q1 w) os) (r2 w os)
def r0(w:World)(os:OsState):topRun treeTable PW w 11 vc 4779 (SS (t0 w.params) 15 187 os).abs (restOf (BD PW) (EN PW) (CE PW) ⟨0,0,0,0⟩ FB)=some (FS w os):=by have h:=r1 w os;rw [drop_zero] at h;exact h
noncomputable abbrev MM:Nat:=4792
def run(w:World)(os:OsState):topRun treeTable PW w 11 vc MM ⟨boot_heap w.params,⟨[]⟩,boot_drawn,boot_toks,os⟩ (topStub PW)=some (FS w os):=go_top (n:=12) (N:=4780) (dad w os) (piece_block (n:=1) (N:=4779) (block w os) (r0 w os))
def size(w:World):((boot_heap w.params).isNs mainGlobals&&(⟨[]⟩:Array GenState).size==0,(boot_heap w.params).objs.size,(boot_heap w.params).nsMap mainGlobals "__annotations__")=(true,11,vc):=by kernel_rfl
def opn:∀w:World,(fencedOpening treeTable PW w 9650).map (λs=>(s.heap,s.gens,s.drawn,s.toks))=some (boot_heap w.params,⟨[]⟩,boot_drawn,boot_toks):=boot_open (p:=PW) (by kernel_rfl) (by decide) (λs=>by kernel_rfl)
noncomputable abbrev qq(p:Program):Program:={p with main:={p.main with body:=p.main.body.drop 131}}
def Yr:List Str:= [s15,Vt,s17,s18,s19,s20,s21,s22,Hh,Li,My,gC,iC,jC,kC,lC,pC,s45,s46,s47,s48,s49,s50,s51,s52,s53,s54,s56,s58,s60,s62,s64,s66,rC,sC,tC,uC,vC,wC,xC,yC,zC,BC,EC,s96,s97,s98,s99,rY,sY,tY,uY,wY,xY,yY,zY,AY,BY,CY,DY,Ft,Ht,It,Jt,Kt,Mt,mq,nq,Ot,GY,IY,JY,Pt,Qt,Rt,Tt,Ut,Wt,Yt,Zt,au,oq,bu,cu,eu,fu,gu,NY,OY,PY,QY,RY,SY,TY,UY,VY,WY,lZ,mZ,iu,ju,ku,lu,nu,ou,pq,qu,uu,wu,xu,yu,zu,nZ,oZ,pZ,Au,Bu,Cu,Du,Eu,Fu,Gu,Hu,Iu,Ju,Ku,Lu,Mu,Nu]
def KK(P:Params):Frag:= [(3,tX P),(13,o2),(17,o9 P),(20,jj),(22,Tc),(28,kj),(29,Ph),(31,lj P),(32,uk),(33,mj),(38,nk P),(41,qk),(44,rk P),(45,sk),(50,jl P),(53,kl),(56,ql P),(57,yl),(65,zl),(66,Al),(72,Bl),(73,Dl),(79,El),(80,Gl),(86,Hl),(87,Il),(93,Jl),(94,Kl),(100,Ll),(101,Ml),(107,Wn),(108,Xn),(114,Yn),(115,Zn),(121,ao),(122,bo),(128,eo),(129,oo),(135,qo),(136,ro),(142,so),(143,uo),(149,vo),(150,wo),(156,Vi),(157,Wi),(161,Xi),(162,Yi),(168,Zi),(169,aj),(175,bj),(176,cj),(177,dj),(195,Im),(196,Jm),(202,Km),(203,Lm),(209,Mm),(210,Nm),(216,Om),(217,Pm),(223,Qm),(224,Rm),(230,Sm),(231,Um),(234,Lp P),(237,Mp),(244,Np),(245,Pp),(251,Qp),(252,Rp),(258,Sp),(259,Tp),(265,Vp),(266,Xp),(272,Yp),(273,Zp),(279,aq),(280,bq),(282,cq P),(283,dq),(284,fq),(285,gq),(290,Vs P),(293,Ws),(300,Xs),(301,Ys),(302,ue),(308,Zs),(309,bt),(311,ct P),(312,dt),(313,ft),(314,jt),(322,nt),(323,ot),(329,qt),(330,rt),(336,vt),(337,wt),(343,dx),(344,fx),(350,jx),(351,mx),(352,di),(358,nx),(359,px),(365,qx),(366,rx),(372,ux),(373,wx),(374,Tc),(380,yx),(381,zx),(382,Tc),(388,Ax),(389,Bx),(392,FA P),(395,GA),(397,HA),(403,JA),(404,LA),(410,MA),(411,NA),(412,ue),(418,OA),(419,PA),(421,QA P),(422,RA),(423,TA),(424,UA),(427,di),(433,VA),(434,WA),(440,XA),(441,ZA),(447,VF),(448,XF),(449,Tc),(455,ZF),(456,aG),(457,Tc),(463,bG),(464,cG),(470,dG),(471,eG),(477,fG),(478,gG),(484,iG),(485,jG),(491,kG),(492,lG),(498,mG),(499,nG),(505,qK),(506,rK),(509,tK P),(512,uK),(514,ue),(520,vK),(521,wK),(522,ue),(528,xK),(529,yK),(531,zK P),(532,AK),(533,BK),(534,CK),(542,DK),(543,EK),(549,FK),(550,GK),(556,IK),(557,JK),(563,oP),(564,pP),(570,qP),(571,rP),(577,sP),(578,tP),(579,uP),(580,vP),(581,xP),(582,yP),(583,zP),(584,AP),(588,BP),(589,CP),(595,DP),(596,EP),(602,FP),(603,GP),(609,HP),(610,IP),(616,JP),(617,KP),(623,uX),(624,vX),(628,wX),(629,xX),(635,yX),(636,zX),(642,AX),(643,BX),(649,CX),(650,DX),(656,EX),(657,FX),(663,GX),(664,HX),(670,IX),(671,JX),(677,LX),(678,MX),(682,NX),(683,OX)]
noncomputable def KA:List Addr:= [3,13,17,20,22,28,29,31,32,33,38,41,44,45,50,53,56,57,65,66,72,73,79,80,86,87,93,94,100,101,107,108,114,115,121,122,128,129,135,136,142,143,149,150,156,157,161,162,168,169,175,176,177,195,196,202,203,209,210,216,217,223,224,230,231,234,237,244,245,251,252,258,259,265,266,272,273,279,280,282,283,284,285,290,293,300,301,302,308,309,311,312,313,314,322,323,329,330,336,337,343,344,350,351,352,358,359,365,366,372,373,374,380,381,382,388,389,392,395,397,403,404,410,411,412,418,419,421,422,423,424,427,433,434,440,441,447,448,449,455,456,457,463,464,470,471,477,478,484,485,491,492,498,499,505,506,509,512,514,520,521,522,528,529,531,532,533,534,542,543,549,550,556,557,563,564,570,571,577,578,579,580,581,582,583,584,588,589,595,596,602,603,609,610,616,617,623,624,628,629,635,636,642,643,649,650,656,657,663,664,670,671,677,678,682,683]
def J4:∀P,KA=(KK P).map (·.1):=λP=>by kernel_rfl
noncomputable abbrev XT(q:Program):Shared->Bool:=λs=>xlAt q [] s&&recOk [] s
abbrev YF:Shared->List (Option Obj):=λs=>KA.map s.heap.get?
abbrev YA:World->List (Option Obj):=λw=>(KK w.params).map λp=>some p.2
def RW(w:World):(λos=>(staticsOk (IM TP.main.body) (boot_heap w.params) (HF w.params)&&namesBound TP (HF w.params)&&gensDone (FS w os)&&laidKept (boot_heap w.params) (HF w.params),OP (qq TP) Yr (IM TP.main.body) (XT (qq TP)) true (FS w os),YF (FS w os)))=λx=>(true,openGood (qq TP) Yr,YA w):=by kernel_rfl
def left:LeftO PW (qq PW) Yr (XT (qq PW)) YF YA 9650:=by refine LeftO.of_pieces opn size run (by decide) (λw=> ?_);have h:=RW w;rw [<-daa,<-caa,<-GD] at h;exact h
noncomputable def vN(v:Value):Bool:=beq v.ctorIdx 0
def UN(h:vN v=true){P:Value->Prop}(H:P .none):P v:= @Value.none.elim P v (eq_of_beq_eq_true h) H
def vB(v:Value)(k:Bool->Bool):Bool:=if h:v.ctorIdx=3 then @Value.bool.elim (λx=>Bool) v h k else false
def y4(h:vB v k=true){P:Value->Prop}(H:∀a,k a=true->P (.bool a)):P v:=Xb h λb h=> @Value.bool.elim (λv=>∀b,@Value.bool.elim (λx=>Bool) v b k=true->P v) v b (λa x h=>H a h) b h
def vI(v:Value)(k:Int->Tok->Bool):Bool:=if h:v.ctorIdx=4 then @Value.int.elim (λx=>Bool) v h k else false
def z4(h:vI v k=true){P:Value->Prop}(H:∀a b,k a b=true->P (.int a b)):P v:=Xb h λc h=> @Value.int.elim (λv=>∀c,@Value.int.elim (λx=>Bool) v c k=true->P v) v c (λa b x h=>H a b h) c h
def vS(v:Value)(k:Str->Tok->Bool):Bool:=if h:v.ctorIdx=6 then @Value.str.elim (λx=>Bool) v h k else false
def A4(h:vS v k=true){P:Value->Prop}(H:∀a b,k a b=true->P (.str a b)):P v:=Xb h λc h=> @Value.str.elim (λv=>∀c,@Value.str.elim (λx=>Bool) v c k=true->P v) v c (λa b x h=>H a b h) c h
def vY(v:Value)(k:Array UInt8->Tok->Bool):Bool:=if h:v.ctorIdx=7 then @Value.bytes.elim (λx=>Bool) v h k else false
def C4(h:vY v k=true){P:Value->Prop}(H:∀a b,k a b=true->P (.bytes a b)):P v:=Xb h λc h=> @Value.bytes.elim (λv=>∀c,@Value.bytes.elim (λx=>Bool) v c k=true->P v) v c (λa b x h=>H a b h) c h
def vT(v:Value)(k:String->Bool):Bool:=if h:v.ctorIdx=8 then @type.elim (λx=>Bool) v h k else false
def B4(h:vT v k=true){P:Value->Prop}(H:∀a,k a=true->P (.type a)):P v:=Xb h λb h=> @type.elim (λv=>∀b,@type.elim (λx=>Bool) v b k=true->P v) v b (λa x h=>H a h) b h
def vR(v:Value)(k:Addr->Bool):Bool:=if h:v.ctorIdx=10 then @ref.elim (λx=>Bool) v h k else false
def qH(h:vR v k=true){P:Value->Prop}(H:∀a,k a=true->P (.ref a)):P v:=Xb h λb h=> @ref.elim (λv=>∀b,@ref.elim (λx=>Bool) v b k=true->P v) v b (λa x h=>H a h) b h
def dS(d:Data)(k:Array Value->Nat->Bool):Bool:=if h:d.ctorIdx=2 then @Data.seq.elim (λx=>Bool) d h k else false
def WV(h:dS d k=true){P:Data->Prop}(H:∀a b,k a b=true->P (.seq a b)):P d:=Xb h λc h=> @Data.seq.elim (λd=>∀c,@Data.seq.elim (λx=>Bool) d c k=true->P d) d c (λa b x h=>H a b h) c h
def FD(K:Frag)(a:Addr)(k:Value->List Value->Bool):Bool:=Gy (K.lookup a) λo=>dS o.data λxs x=>k o.cls xs.toList
def Qu{K:Frag}{k:Value->List Value->Bool}(h:FD K a k=true){P:Prop}(H:∀o xs n,K.lookup a=some o->o.data= .seq xs n->k o.cls xs.toList=true->P):P:=jh h (P:=λx=>K.lookup a=x->P) (λo h e=>WV h (P:=λd=>o.data=d->P) (λxs n h d=>H o xs n e d h) rfl) rfl
def FO(s:String)(v:Value):Bool:=vT v λn=>n==s
def sF(h:FO s v=true):v= .type s:=B4 h (P:=λv=>v= .type s) λx h=>congrArg _ (beq_iff_eq.mp h)
mutual
noncomputable def EE(K:Frag):FV->Value->Bool| .none,v=>vN v| .bool b,v=>vB v λc=>b==c| .int i,v=>vI v λj x=>i==j| .str s,v=>vS v λt x=>Dc s t| .bytes l,v=>vY v λb x=>b.toList.map UInt8.toNat==l| .tup vs,v=>vR v λa=>FD K a λc xs=>FO "tuple" c&&Bn K vs xs| .lst vs,v=>vR v λa=>FD K a λc xs=>FO "list" c&&Bn K vs xs
noncomputable def Bn(K:Frag):List FV->List Value->Bool| [],l=>l.isEmpty|f::fs,l=>nj l λv vs=>EE K f v&&Bn K fs vs
end
mutual
theorem nI{K:Frag}(X:K.In h):∀{f v},EE K f v=true->wa h.get? f v| .none,x,e=>UN e .none| .bool b,x,e=>y4 e λx e=>beq_iff_eq.mp e▸ .bool b| .int i,x,e=>z4 e λx t e=>beq_iff_eq.mp e▸ .int i t| .str s,x,e=>A4 e λx t e=>vb e▸ .str s t| .bytes x,a,e=>C4 e λx t e=> .bytes t (beq_iff_eq.mp e)| .tup x,a,e=>qH e λx e=>Qu e λx x x q d e=> .tup (X _ _ q) (sF (and_eq_true_iff.mp e).1) d (Wo X (and_eq_true_iff.mp e).2)| .lst x,a,e=>qH e λx e=>Qu e λx x x q d e=> .lst (X _ _ q) (sF (and_eq_true_iff.mp e).1) d (Wo X (and_eq_true_iff.mp e).2)
theorem Wo{K:Frag}(X:K.In h):∀{f v},Bn K f v=true->Jb h.get? f v| [],x,e=>isEmpty_iff.mp e▸ .nil|x::a,y,e=>Zc e λx x e=> .cons (nI X (and_eq_true_iff.mp e).1) (Wo X (and_eq_true_iff.mp e).2)
end
def WJ:List Str->Bool| []=>true|x::l=>l.all (λy=> !Dc x y)&&WJ l
theorem XB:∀{l:List Str},WJ l=true->l.Nodup
 | [],a=> .nil|x::l,h=>by
  obtain ⟨b,c⟩:=and_eq_true_iff.mp h;refine nodup_cons.mpr ⟨λd=> ?_,XB c⟩;have:=all_eq_true.mp b x d;have e:Dc x x=true:=by unfold Dc;exact beq_self_eq_true _
  rw [e] at this;injection this
structure PD where
 glob:List Str
 fns:List Str
 cls:List Str
 ats:List Str
noncomputable def PD.tab(t:PD)(xs:List Str)(names:List (Str×NameKind)):Tab:=⟨xs,names,t.glob,t.fns,t.cls,t.ats⟩
structure FI where
 fn:Fn
 xs:List Str
 a:Addr
def QX(K:Frag)(a:Addr):Obj:=(K.lookup a).getD default
def Pe(K:Frag)(a:Addr):FuncData:=match (QX K a).data with| .func fd=>fd|x=>default
noncomputable def cv(fd:FuncData):List Stmt:=match fd.body with| .stmts b=>b|x=> []
def gy(K:Frag)(f:FI):Option Obj×Data×FuncBody×ScopeKind×Bool×Bool×Addr×Addr×List (Str×Addr)×Arguments×List Str:=(K.lookup f.a,(QX K f.a).data,(Pe K f.a).body,(Pe K f.a).scope.kind,(Pe K f.a).scope.isCoroutine,(Pe K f.a).scope.isGenerator,(Pe K f.a).globals,(Pe K f.a).builtins,(Pe K f.a).closure,(Pe K f.a).params,(Pe K f.a).params.args.map (·.arg))
def iy(K:Frag)(f:FI):Option Obj×Data×FuncBody×ScopeKind×Bool×Bool×Addr×Addr×List (Str×Addr)×Arguments×List Str:=(some (QX K f.a),.func (Pe K f.a),.stmts (cv (Pe K f.a)),.function,false,false,mainGlobals,builtinsNs,[],⟨[],(Pe K f.a).params.args,none,[],(Pe K f.a).params.kw_defaults,none,(Pe K f.a).params.defaults⟩,f.xs.take f.fn.npar)
def fW(K:Frag)(d:Value)(l:List FV):Bool:=(vN d&&l.isEmpty)||vR d λa=>FD K a λx xs=>Bn K l xs
def mJ(K:Frag)(f:FI):Bool:=codeIn K (Pe K f.a).code (Pe K f.a).qualname&&(fW K (Pe K f.a).defaults f.fn.dflt&&(WJ f.xs&&(beq f.xs.length f.fn.nslot&&(ble f.fn.npar f.fn.nslot&&(ble f.fn.dflt.length f.fn.npar&&f.xs.all λx=>Kb (Pe K f.a).scope.names x .local||Kb (Pe K f.a).scope.names x .cell)))))
def th{P:Prop}(h:(a&&b)=true)(k:a=true->b=true->P):P:=k (and_eq_true_iff.mp h).1 (and_eq_true_iff.mp h).2
abbrev vL(t:PD)(K:Frag)(f:FI):Tab:=t.tab f.xs (Pe K f.a).scope.names
def Pz{X:Ctx}{t:PD}{f:FI}(a:X.K.In X.g0)(e:gy X.K f=iy X.K f)(h:mJ X.K f=true):xr X (vL t X.K f) f.fn f.a (cv (Pe X.K f.a)):=by
 refine th h λs h=>th h λu h=>th h λw h=>th h λy h=>th h λA h=>th h λB C=> ?_;unfold gy iy at e;injection e with g e;injection e with i e;injection e with j e;injection e with k e;injection e with l e;injection e with m e;injection e with p e;injection e with e8 e;injection e with r e;injection e with b c;refine ⟨⟨_,_,_,_,_,a _ _ g,i,j,rfl,k,l,m,p,e8,r,codeRec_of a s,b,c,?_⟩,XB w,eq_of_beq_eq_true y,le_of_ble_eq_true A,le_of_ble_eq_true B,λx F=> ?_⟩
 ·rcases or_eq_true_iff.mp u with z|z;·exact .inl ⟨UN (P:=λv=>v= .none) (and_eq_true_iff.mp z).1 rfl,isEmpty_iff.mp (and_eq_true_iff.mp z).2⟩
  ·exact .inr (qH (P:=λv=>∃D o items n,v= .ref D/\X.g0.get? D=some o/\o.data= .seq items n/\Jb X.g0.get? f.fn.dflt items.toList) z λD z=>Qu z λo xs n q d z=>⟨D,o,xs,n,rfl,a _ _ q,d,Wo a z⟩)
 ·rcases or_eq_true_iff.mp (all_eq_true.mp C x F) with z|z;·exact .inl (Vb z)
  ·exact .inr (Vb z)
noncomputable def toS(l:List String):List Str:=l.map ofString
def TB:PD:=⟨toS globT,toS vJ,toS jO,toS kJ⟩
noncomputable abbrev FL:Str:=ofString "BadEncoding"
noncomputable def fnA:List Addr:= [66,73,80,87,94,101,108,115,122,129,136,143,150,157,162,169,176,196,203,210,217,224,231,323,330,337,344,351,359,366,373,381,389,434,441,448,456,464,471,478,485,492,499,506,543,550,557,564,571,578,589,596,603,610,617,624,629,636,643,650,657,664,671,678,683]
noncomputable def clA:List Addr:= [283,312,422,532]
noncomputable def meA:List (Nat×Nat×Addr):= [(0,999,245),(0,10,252),(0,6,259),(0,7,266),(0,8,273),(0,11,280),(1,999,301),(1,0,309),(2,999,404),(2,15,411),(2,0,419),(3,999,521),(3,0,529)]
def NM:GR:=⟨λc=>clA.getD c 0,λc m=>((meA.find? λx=>beq x.1 c&&beq x.2.1 m).map (·.2.2)).getD 0,λm=>if beq m 999=true then "__init__" else (toS kJ).getD m empty⟩
noncomputable def fn0:Fn:=⟨0,0,[],.skip⟩
def mM(i:Nat):FI:=⟨Bi.getD i fn0,toS (xsT.getD i []),fnA.getD i 0⟩
def rS(i:Nat):Nat×Nat×Fn:=mT.getD i (0,0,fn0)
def nM(i:Nat):FI:=⟨(rS i).2.2,toS (mxT.getD i []),NM.metA (rS i).1 (rS i).2.1⟩
def TR:FI:=⟨⟨2,2,[.none],.skip⟩,toS ["self","told"],29⟩
abbrev rF:List Nat:=range Bi.length
abbrev rM:List Nat:=range mT.length
abbrev rG:List Nat:=range JE.length
def WD(K:Frag)(f:FI):Bool:=Gd (vL TB K f) FL f.fn.body (cv (Pe K f.a))
def WR(K:Frag)(i:Nat):Value:=((nsIn K mainGlobals ((toS globT).getD i empty)).getD none).getD .none
def aac(P:Params):rF.map (λi=>gy (KK P) (mM i))=rF.map (λi=>iy (KK P) (mM i)):=by kernel_rfl
def gac(P:Params):rM.map (λi=>gy (KK P) (nM i))=rM.map (λi=>iy (KK P) (nM i)):=by kernel_rfl
def Nab(P:Params):gy (KK P) TR=iy (KK P) TR:=by kernel_rfl
def Z4(P:Params):(rF.all λi=>mJ (KK P) (mM i))=true:=by kernel_rfl
def B5(P:Params):(rM.all λi=>mJ (KK P) (nM i))=true:=by kernel_rfl
def K4(P:Params):mJ (KK P) TR=true:=by kernel_rfl
def pW(P:Params):(rF.all λi=>WD (KK P) (mM i))=true:=by kernel_rfl
def SW(P:Params):(rM.all λi=>WD (KK P) (nM i))=true:=by kernel_rfl
def j5(P:Params):rF.map (λi=>nsIn (KK P) mainGlobals ((toS vJ).getD i empty))=rF.map (λi=>some (some (.ref (fnA.getD i 0)))):=by kernel_rfl
def x5(P:Params):rG.map (λi=>nsIn (KK P) mainGlobals ((toS globT).getD i empty))=rG.map (λi=>some (some (WR (KK P) i))):=by kernel_rfl
def y5(P:Params):(rG.all λi=>EE (KK P) (JE.getD i .none) (WR (KK P) i))=true:=by kernel_rfl
def fac:(toS vJ).length=Bi.length/\(toS globT).length=JE.length:=⟨by kernel_rfl,by kernel_rfl⟩
def Gr(e:(range n).map f=(range n).map g)(h:i<n):f i=g i:=map_inj_left.mp e i (mem_range.mpr h)
def Dr(e:(range n).all f=true)(h:i<n):f i=true:=all_eq_true.mp e i (mem_range.mpr h)
def xj{l:List a}(e:l[i]? =some x):i<l.length/\l.getD i d=x:=⟨(List.getElem?_eq_some_iff.mp e).1,by rw [getD_eq_getElem?_getD,e];rfl⟩
def CV{l:List a}(h:i<l.length):l[i]? =some (l.getD i d):=by rw [getD_eq_getElem?_getD,getElem?_eq_getElem h];rfl
def Gi{K:Frag}{N:Addr}(X:K.In h)(G:h.Ns N mg)(e:nsIn K N n=some (some v)):mg n=some v:=by
 obtain ⟨o,es,k,i,a,_,g⟩:=G;unfold nsIn at e;set_option tactic.hygienic true in split at e
 ·rename_i c d b l sl q;have:=X _ _ q;rw [i] at this;(injection this with this;subst this);(injection a with a;subst a);set_option tactic.hygienic true in split at e
  ·rename_i j f;(injection e with e;injection e with e;subst e);rw [<-g];unfold nsFind findBy;rw [<-Array.find?_toList,f];rfl
  ·split at e<;>cases e
 ·injection e
def fi{l:List (Nat×Nat)}(h:(l.any λp=>beq p.1 c&&beq p.2 m)=true):(c,m)∈l:=by obtain ⟨⟨f,m'⟩,d,e⟩:=any_eq_true.mp h;obtain ⟨a,b⟩:=and_eq_true_iff.mp e;cases eq_of_beq_eq_true a;cases eq_of_beq_eq_true b;exact d
def QV(K:Frag)(C:Addr):Bool×Bool×Option (Option Value)×Option (Option Value)×Option (Option Value)×Bool×Bool:=(plainOver K C,hasDictIn K C,findIn K (.ref C) "__getattribute__",findIn K (.ref C) "__getattr__",findIn K (.ref C) "__setattr__",makesIn K C,keepIn K (.ref C))
def aT(P:Params):(Fw++BF).map (λp=>QV (KK P) (NM.clsA p.1))=(Fw++BF).map (λx=>(true,true,some (some (.builtin "object.__getattribute__")),some none,some (some (.builtin "object.__setattr__")),true,true)):=by kernel_rfl
def rT(P:Params):Fw.map (λp=>findIn (KK P) (.ref (NM.clsA p.1)) (NM.atN p.2))=Fw.map (λx=>some none):=by kernel_rfl
def VT(P:Params):BF.map (λp=>(findIn (KK P) (.ref (NM.clsA p.1)) (NM.atN p.2),typeIn (KK P) (.ref (NM.metA p.1 p.2)),keepIn (KK P) (.ref (NM.metA p.1 p.2))))=BF.map (λp=>(some (some (.ref (NM.metA p.1 p.2))),some (.type "function"),true)):=by kernel_rfl
def NT:(Fw.all λp=>Fw.all λq=> !beq p.1 q.1||beq p.2 q.2|| !Dc (NM.atN p.2) (NM.atN q.2))=true:=by kernel_rfl
noncomputable abbrev GV:List String:= ["len","list","bytes","int","sum","range","enumerate"]
def HV(P:Params):GV.map (λx=>nsIn (KK P) mainGlobals (ofString x))=GV.map (λa=>some none):=by kernel_rfl
def PV(P:Params):(range 4).map (λc=>nsIn (KK P) mainGlobals ((toS jO).getD c empty))=(range 4).map (λc=>some (some (.ref (NM.clsA c)))):=by kernel_rfl
abbrev XX(w:World)(h:Heap)(mg mb:Str->Option Value):Ctx:=⟨KK w.params,PW,w,NM,h,mg,mb,45⟩
section
variable {w:World} {h:Heap} {mg mb:Str->Option Value} {loose:List Str} {p:Program}
def YL{c m:Nat}(a:sd c m=true\/Nb c m=true):QV (KK w.params) (NM.clsA c)=(true,true,some (some (.builtin "object.__getattribute__")),some none,some (some (.builtin "object.__setattr__")),true,true):=map_inj_left.mp (aT w.params) (c,m) (mem_append.mpr (a.elim (λh=> .inl (fi h)) λh=> .inr (fi h)))
def WS(l:(KK w.params).In h)(T:TopRead p loose mg mb h):ib (XX w h mg mb):=by
 have a:∀(x:String) (v:Value),x∈GV->bootBuiltins (ofString x)=some v->ofString x≠"__name__"->mg (ofString x)=none/\mb (ofString x)=some v:=λx v t f g=>⟨ns_none_of l T.g (map_inj_left.mp (HV w.params) x t),(T.builtins _ g).trans f⟩;refine ⟨⟨l,λc m i=> ?_,λc m r=>map_inj_left.mp (rT w.params) (c,m) (fi r),λc m j=> ?_,λc j=> ?_,λc k m f g e=> ?_,rfl⟩,T.g,T.b,T.nolimit,a "len" _ (by decide) (by kernel_rfl) (by decide),a "list" _ (by decide) (by kernel_rfl) (by decide),a "bytes" _ (by decide) (by kernel_rfl) (by decide),a "int" _ (by decide) (by kernel_rfl) (by decide),a "sum" _ (by decide) (by kernel_rfl) (by decide),a "range" _ (by decide) (by kernel_rfl) (by decide),a "enumerate" _ (by decide) (by kernel_rfl) (by decide)⟩;·have e:=YL (w:=w) i;injection e with b e;injection e with d e;injection e with n e;injection e with o e;injection e with q e;refine ⟨b,d,?_,q⟩;show (findIn (KK w.params) (.ref (NM.clsA c)) "__getattribute__"==some (some (.builtin "object.__getattribute__"))&&findIn (KK w.params) (.ref (NM.clsA c)) "__getattr__"==some none)=true;rw [n,o];exact and_eq_true_iff.mpr ⟨beq_self_eq_true _,beq_self_eq_true _⟩
 ·have e:=map_inj_left.mp (VT w.params) (c,m) (fi j);injection e with b e;injection e with d e;exact ⟨b,d,e⟩
 ·have e:=YL (w:=w) (.inr j);exact ⟨congrArg (·.2.2.2.2.2.1) e,congrArg (·.2.2.2.2.2.2) e⟩
 ·rcases or_eq_true_iff.mp (all_eq_true.mp (all_eq_true.mp NT (c,k) (fi f)) (c,m) (fi g)) with z|z
  ·rcases or_eq_true_iff.mp z with z|z;·rw [show beq (c,k).1 (c,m).1=true from beq_refl c] at z;injection z
   ·exact eq_of_beq_eq_true z
  ·rw [show Dc (NM.atN (c,k).2) (NM.atN (c,m).2)=true by unfold Dc;exact beq_iff_eq.mpr (congrArg (λs:Str=>s.cps.toList) e)] at z;injection z
def ZT(a:(KK w.params).In h)(T:TopRead p loose mg mb h):KL (XX w h mg mb) (TB.tab [] []) FL:=by
 refine ⟨λg f x A B=> ?_,λf x e=> ?_,λc m fn n e=> ?_,λc x e=> ?_,λm x e=> ?_⟩;·obtain ⟨s,v⟩:=xj (d:= .none) A;have y:=(xj (d:=empty) (show (toS globT)[g]? =some x from B)).2;have q:=Gr (x5 w.params) s;have r:=Dr (y5 w.params) s;rw [y] at q;rw [v] at r;exact ⟨_,Gi a T.g q,nI a r⟩
 ·obtain ⟨j,d⟩:=xj (d:=empty) (show (toS vJ)[f]? =some x from e);rw [fac.1] at j;have q:=Gr (j5 w.params) j;rw [d] at q;have F:=Pz (X:=XX w h mg mb) (t:=TB) a (Gr (aac w.params) j) (Dr (Z4 w.params) j);obtain ⟨o,fd,_,_,_,q1,q2,_⟩:=F.fd;exact ⟨_,o,fd,_,vL TB (KK w.params) (mM f),_,CV j,Gi a T.g q,q1,q2,rfl,rfl,rfl,rfl,F,Dr (pW w.params) j⟩
 ·obtain ⟨t,u,rfl⟩:=map_eq_some_iff.mp e;obtain ⟨i,k,D⟩:=getElem_of_mem (mem_of_find?_eq_some u);have H:=find?_some u;obtain ⟨L,M⟩:=and_eq_true_iff.mp H;have F:=Pz (X:=XX w h mg mb) (t:=TB) a (Gr (gac w.params) k) (Dr (B5 w.params) k);have b:=Dr (SW w.params) k;have C:rS i=t:=(xj (l:=mT) (by rw [getElem?_eq_getElem k,D])).2;unfold WD at b;unfold nM at F b;rw [C,beq_iff_eq.mp L,beq_iff_eq.mp M] at F b;exact ⟨vL TB (KK w.params) ⟨t.2.2,toS (mxT.getD i []),NM.metA c m⟩,_,rfl,rfl,rfl,rfl,F,b⟩
 ·obtain ⟨G,d⟩:=xj (d:=empty) (show (toS jO)[c]? =some x from e);have q:=Gr (PV w.params) (show c<4 from G);rw [d] at q;exact Gi a T.g q
 ·show x=if beq m 999=true then ofString "__init__" else (toS kJ).getD m empty;obtain ⟨n,d⟩:=xj (d:=empty) (show (toS kJ)[m]? =some x from e);have n:m<17:=n;rw [if_neg (λz=>by have:=eq_of_beq_eq_true z;omega),d]
end
def Rab(names:List (Str×NameKind))(body:List Stmt):Bool:=Od body λs=>yf s λd e y=>Od d λt=>uc t λo b y=>Ra o λa y=>Ra e λc y=>Dc a "self"&&(Dc b "told"&&(Dc c "told"&&(Kb names "self" .local&&(Kb names "told" .local&&names.all λx=> !(x.2== .cell)))))
def L4(P:Params):Rab (Pe (KK P) 29).scope.names (cv (Pe (KK P) 29))=true:=by kernel_rfl
def JR(P:Params):(KK P).lookup 45=some (excClassObj Li Li 45 44 [.ref 32] [.ref 32,.type "Exception",.type "BaseException",.type "object"] true [] [] false none none (some (.ref 36)) none (some (.str Li 234)) (some (.str Li 242)) (some (.bool true)) "Exception.__new__"):=by kernel_rfl
def WL:ClassData:=⟨Hh,[.type l5],[R 32,.type l5,.type uI,.type Wk],31,Hh,true,[],[R 45,R 57],false,none,false⟩
def N4(P:Params):(KK P).lookup 32=some ⟨.type "type",none,.cls WL,uk.slots⟩:=by kernel_rfl
def M4(P:Params):(KK P).lookup 29=some Ph:=by kernel_rfl
section
variable {w:World} {h:Heap} {mg mb:Str->Option Value} {loose:List Str} {p:Program}
def DV(g:(KK w.params).In h)(T:TopRead p loose mg mb h):Xu (XX w h mg mb) FL:=by
 have i:nsOkIn (KK w.params) 44=true:=by kernel_rfl
 have k:nsOkIn (KK w.params) WL.ns=true:=by kernel_rfl
 have j:nsIn (KK w.params) 44 (ofString "__init__")=some none:=by kernel_rfl
 have r:nsIn (KK w.params) WL.ns (ofString "__init__")=some (some (.ref 29)):=by kernel_rfl
 have u:nsIn (KK w.params) mainGlobals FL=some (some (.ref 45)):=by kernel_rfl
 have F:xr (XX w h mg mb) (TB.tab ["self","told"] (Pe (KK w.params) 29).scope.names) ⟨2,2,[.none],.skip⟩ 29 (cv (Pe (KK w.params) 29)):=Pz (X:=XX w h mg mb) (t:=TB) (f:=TR) g (Nab _) (K4 _);have d:=L4 w.params;revert F d;generalize (Pe (KK w.params) 29).scope.names=names;generalize cv (Pe (KK w.params) 29)=body;intro F d;refine ⟨Gi g T.g u,?_,⟨_,32,by show clsIn (KK w.params) 45=_;unfold clsIn;rw [JR],rfl,rfl⟩,by kernel_rfl,by kernel_rfl,by kernel_rfl,by kernel_rfl,by kernel_rfl⟩;revert F;apply Ta d;intro s d;apply Hd d;intro B e A d;apply Ta d;intro t d;apply xb d;intro o b y d;apply ya d;intro a v d;apply ya d;intro c p3 d F;refine th d λl d=>th d λm d=>th d λn d=>th d λc2 d=>th d λc3 c4=> ?_;cases vb l;cases vb m;cases vb n;exact ⟨Li,Li,44,[.ref 32],[],[],false,none,none,some (.ref 36),none,some (.str Li 234),some (.str Li 242),some (.bool true),h.nsMap 44,32,_,_,WL,_,h.nsMap WL.ns,29,Ph,names,_,_,_,_,v,y,p3,A,g _ _ (JR _),.of_isNs (isNs_of_in g i),nsMap_none_of_in g i j,g _ _ (N4 _),.of_isNs (isNs_of_in g k),Gi g (.of_isNs (isNs_of_in g k)) r,g _ _ (M4 _),rfl,F,Vb c2,Vb c3,λx q z=>by have:=all_eq_true.mp c4 x q;rw [z] at this;injection this⟩
end
abbrev HK:Hook:=kHook KK KA J4
def OD:Prop:=∀ns:List Int,ns.length<=63->∃st',(ja 12).call 64 [.v (.lst (ns.map .int))] []=some (.ok (.v (.bool true)),st')
def BO:∀{vs:List Value} {ns:List Int},IntsAre vs ns->Jb G (ns.map .int) vs|x,a,h=>by induction h with|nil=>exact .nil|cons x a y b=>exact .cons (.int _ _) b
def ZM:rw_rg0336_01.row.toRowW.claim.post args (.bool true) args=true:=by exact postW_of (by wrow_shape) (by wtm_val) (by first|rfl|w_fin)
def tR(V:OD):∀d l,d.name=ofString "law"->WalkO (qq PW) Yr (XL (qq PW) []) HK.says rw_rg0336_01.row.toRowW d l (λf vs=>call f vs):=by
 intro d l t;intro w H c mg mb G Y O o pm cd M dV kV ho W q P A hg F L as k j B D z
 wrow_args k j B D z
 rename IntsAre _ _=>hI
 rename IsList _ _ _=>i
 rename ¬_=>hle
 clear W q P;have m:=kIn_of Y;have T:=topRead_of G.T;have Or:=(WX (X:=XX w c.heap mg mb) (T:=TB.tab [] []) (BE:=FL) (WS m T) (DV m T) (ZT m T) 12).1;refine (Or.call 64 (ofString "law") rfl).rec λa oF fd y ho' hd' g=> ?_;have n:(ref a)=ref O:=Option.some.inj (y.symm.trans ((congrArg mg t).symm.trans A));(injection n with n;subst n)
 rename List Int=>ns
 obtain ⟨st',C⟩:=V ns (by omega);obtain ⟨oL,u,p,nL,s⟩:=i;refine wpAny_call (g [.v (.lst (ns.map .int))] [] ⟨callerA,[],default⟩ ⟨[],c.heap.get?,c⟩ [.ref _] _ _ ⟨rfl,rfl,by decide,by decide⟩ ⟨λx x e=>e,λx x e=>e,.nil,(λx h=>nomatch h),.nil,trivial,(λx h=>nomatch h),(λx h=>nomatch h)⟩ (.cons (wa.lst u p s (BO hI)) .nil) (rb C.symm λw' v S I r=> ?_));have r:wa w'.G (.bool true) v:=r;cases r;exact GoodW.toG ⟨.inl ⟨_,.bool true,[],rfl,λx=>rfl,.bool true,ZM,λx=>⟨.nil,(λx h=>nomatch h)⟩⟩,λb o e=>I.gin _ _ (I.base _ _ e),S.rest.2,S.rest.1.trans hg⟩
def R5:tw9446332074065402090 rw_rg0336_01=true:=by
 repeat refine look_both ?_ (by decide+kernel)
 decide+kernel
def Q5:OpenLaw.wellSaid rw_rg0336_01=true:=(congrFun te9446332074065402090 _).trans R5
def head(b:OD):rw_rg0336_01.Holds:=by
 w_on
 refine holds_law Q5 λa=> ?_;refine holds_open (q:=qq PW) (loose:=Yr) (Xt:=XT (qq PW)) (XP:=XL (qq PW) []) (Yf:=Hook.obs HK) (Ya:=Hook.val HK) (YP:=Hook.says HK) (N:=9650) left (Hook.of HK) (Hook.keeps HK) (λs e=>xl_of s (and_eq_true_iff.mp e).1) XL.keeps (by rfl) (by rfl) (by rfl) (λs e=>recFacts_of (and_eq_true_iff.mp e).2) (by rfl) (by first|assumption|decide+kernel) (by decide+kernel) ⟨rfl,rfl,rfl,rfl,rfl,by decide+kernel⟩ ?hw ?hc
 case hw=>w_witness2
 case hc=>exact tR b _ _ rfl
end
end Mine
theorem PySem.Challenge.cw_rg0336_01_holds : PySem.Challenge.rw_rg0336_01.Holds :=
 Mine.head Mine.small_law
