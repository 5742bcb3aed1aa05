/- Texts beside the shared ones. -/
import Derived.Test.YtkimpcmkminffaaGreatDoorNS
import Derived.Test.YtkimpcmkminffaaGreatDoorNA
import Derived.Test.YtkimpcmkminffaaGreatDoorNB
import Derived.Test.YtkimpcmkminffaaGreatDoorNC
import Derived.Test.YtkimpcmkminffaaGreatDoorNX
import Derived.Test.YtkimpcmkminffaaGreatDoorNI
import Derived.Test.YtkimpcmkminffaaGreatDoorND
import Derived.Test.YtkimpcmkminffaaGreatDoorNE
import Derived.Test.YtkimpcmkminffaaGreatDoorWXS
import Derived.Deep.RegionHeld3
import Derived.Deep.WholeRow
import Derived.BigRegion
import Derived.RegionTactic
import Derived.Laws.StructEq
import Derived.Lib.ItoaMem
import Derived.Lib.ItoaLen
import Derived.Lib.Join
namespace Go.Proofs.YtkimpcmkminffaaGreatDoor
open Go.RowKit
open Go.RowKit Go.Shelf
open _root_.Array renaming getElem?_toList->oL,replicate->kD
open _root_.Bool renaming and_eq_true->aQ,eq_iff_iff->kC,false_eq_true->fM,not_eq_true'->nT,or_eq_true->jO
open _root_.Go.Ending renaming returned->bQ
open _root_.Go.Lib renaming cell_of_heap->aG,itoa->dQ
open _root_.List renaming all_eq_true->jA,append_assoc->iK,drop_eq_getElem_cons->aZ,getElem?_drop->iE,getElem?_eq_getElem->aP,getElem?_eq_some_iff->aO,getElem?_map->iJ,getElem?_take->rA,length_cons->aX,length_map->mD,map_cons->kP,mem_cons->dD,mem_of_getElem?->dJ,take_add_one->dN
open _root_.Nat renaming le_refl->aH,zero_add->gD
open _root_.Go.Oper renaming semAt_some->nC
open _root_.Option renaming map_eq_some_iff->aT
open _root_.Or renaming inr->nA
open _root_.Go.Region renaming noSelect->jZ
set_option maxRecDepth 100000
section
variable {P:Program} {ops:Array Oper} {Q:Exit->Act->World->Prop} {S:World->Prop}
end
section
variable {P:Program} {ops:Array Oper} {Q:Exit->Act->World->Prop} {S:World->Prop}
theorem sZ{i j:Nat}{s t:Sc}{a:Act}{w:World}(h1:a2w P ops Q S (.one i s) a w)(h2:a2w P ops Q S (.one j t) a w):a2w P ops Q S (.two i j s t) a w:=⟨h1,h2⟩
end
section
end
section
end
section
theorem tA:jQ [97,49,60,61,120,39,48,102,39,32,45,45,32,98]=some [⟨1,0,[97,49],(0,0,[])⟩,⟨3,2,[60,61],(0,0,[])⟩,⟨2,4,[120,39,48,102,39],(4,0,[15])⟩]:=by rfl
theorem tB:jQ [65]=none:=by rfl
theorem eA:bY [97,49,60,61,120,39,48,102,39,32,45,45,32,98]=0:=by unfold bY;rw[tA];rfl
theorem eB:bY [65]=250:=by unfold bY;rw[tB];rfl
end
section
def Yes(w:World)(e:Ending)(w':World):Prop:=e= .returned (.bool true)/\Bl w w'
end
section
end
section
end
section
end
section
theorem vB{k n:Int}{l:List UInt8}(h:chk k n l=0):l.length<=1000/\((k=0/\n=0/\l=[])\/(k=1/\n=0/\l=[])\/(k=1/\n=1/\l=[])\/(k=2/\l=[])\/(k=3/\n=0)\/(k=4/\n=0)):=by
 unfold chk at h;split at h
 ·omega
 ·split at h
  ·rename_i h1 h2;refine⟨by omega,?_⟩;rcases h2 with h2|⟨a,b|b,c⟩|h2|h2|h2
   ·exact Or.inl h2
   ·exact nA (Or.inl ⟨a,b,c⟩)
   ·exact nA (nA (Or.inl ⟨a,b,c⟩))
   ·exact nA (nA (nA (Or.inl h2)))
   ·exact nA (nA (nA (nA (Or.inl h2))))
   ·exact nA (nA (nA (nA (nA h2))))
  ·omega
end
section
end
section
theorem c6k{k n:Int}{l:List UInt8}(h:chk k n l=0)(hn:I64 n):(lit k n l).length<=10000:=by
 obtain⟨hl,hc⟩:=vB h;rcases hc with⟨rfl,rfl,rfl⟩|⟨rfl,rfl,rfl⟩|⟨rfl,rfl,rfl⟩|⟨rfl,rfl⟩|⟨rfl,rfl⟩|⟨rfl,rfl⟩
 ·decide
 ·decide
 ·decide
 ·have e:lit 2 n []=dQ n:=by simp[lit]
  rw[e];have:=Lib.itoa_length_le n hn.1 hn.2;omega
 ·have e:lit 3 0 l=39::(dbl l++[39]):=by simp[lit,vS]
  have:=a2n l;rw[e];simp;omega
 ·have e:lit 4 0 l=120::(39::(hexOf l++[39])):=by simp[lit,uI]
  have:(hexOf l).length=2 * l.length:=by clear h hl hn e;induction l with
   |nil=>rfl
   |cons c r ih=>simp[hexOf] at ih⊢;omega
  rw[e];simp;omega
end
section
end
section
def jR(s:List UInt8):List (List UInt8)->List UInt8
 |[]=>[]
 |[x]=>x
 |x::r=>x++s++jR s r
def qN(f:List UInt8)(l:List (List UInt8)):List UInt8:=f++[40]++jR [44,32] l++[41]
def mR(l:List (List UInt8)):List UInt8:=[40]++jR [32] l++[41]
def uB(k:Int)(v:Int×Int×List UInt8)(t n:List UInt8)(o:Int)(l:List (List UInt8)):List UInt8:=
 if k=1 then lit v.1 v.2.1 v.2.2
 else if k=2 then(if t=[] then n else t++[46]++n)
 else if k=4 then qN bZ l
 else if k=5 then qN n (if l=[] then[[42]] else l)
 else if fJ o=2 then mR [l.getD 0 [],bI o,l.getD 1 []]
 else if o=19\/o=20 then qN (bI o) l
 else if o=17\/o=18 then mR [l.getD 0 [],bI o]
 else mR [bI o,l.getD 0 []]
mutual
def eY:Ex->List UInt8
 | .mk k v t n o args=>uB k v t n o (yX args)
def yX:List Ex->List (List UInt8)
 |[]=>[]
 |x::r=>eY x::yX r
end
theorem vG(l:List Ex):yX l=l.map eY:=by
 induction l with
 |nil=>simp[yX]
 |cons x r ih=>simp[yX,ih]
theorem b2r{x y:Ex}(h:y∈x.args):SizeOf.sizeOf y<SizeOf.sizeOf x:=by
 cases x with
 |mk k v t n o args=>
  have:=List.sizeOf_lt_of_mem (show y∈args from h);simp only[Ex.mk.sizeOf_spec];omega
end
section
end
section
end
section
theorem a0u{x:Ex}(h:eH x=true):a9r x=true/\∀y∈x.args,eH y=true:=by
 cases x with
 |mk k v t n o args=>
  simp only[eH,aQ,vY,jA] at h;exact h
end
section
end
section
mutual
def rY:Ex->Nat
 | .mk _ _ _ _ o args=>(if args.isEmpty then 0 else 1)+nV args+(if o=16\/o=15 then 1 else 0)
def nV:List Ex->Nat
 |[]=>0
 |x::r=>max (rY x) (nV r)
end
end
section
end
section
theorem rV{W:World}{b n:Nat}{cs:Array Value}{t:TypeId}{x:Ex}{sv:Value}(hb:W.heap[b]?=some (.cells cs t (0,0)))(h:(cs.toList.drop n).take 8=qD x sv):At8 W b n x sv:=by
 refine yI fun i hi=>?_;rw[aG hb,<-h,rA,if_pos hi,iE,oL]
theorem c6a{W:World}{b:Nat}{t:TypeId}{x:Ex}{sv:Value}(cap:Nat)(hb:W.heap[b]?=some (.cells #[.int .i64 x.k,.int .i64 x.v.1,.int .i64 x.v.2.1,S x.v.2.2,S x.t,S x.n,.int .i64 x.o,sv] t (0,0)))(hr:gU W sv x.args):
  gU W (.slice (some ⟨b,0,none⟩) 1 cap) [x]:=by
 refine .mk (some ⟨b,0,none⟩) cap [x] (fun _=>sv) (fun j y hy=>?_) (fun j y hy=>?_)
 ·match j,hy with
  |0,hy=>
   injection hy with hy;subst hy;exact⟨b,0,rfl,rV hb rfl⟩
  |j+1,hy=>simp at hy
 ·match j,hy with
  |0,hy=>
   injection hy with hy;subst hy;exact hr
  |j+1,hy=>simp at hy
theorem c5y{W:World}{b:Nat}{t:TypeId}{x y:Ex}{sv sw:Value}(cap:Nat)
  (hb:W.heap[b]?=some (.cells #[.int .i64 x.k,.int .i64 x.v.1,.int .i64 x.v.2.1,S x.v.2.2,S x.t,S x.n,.int .i64 x.o,sv,.int .i64 y.k,.int .i64 y.v.1,.int .i64 y.v.2.1,S y.v.2.2,S y.t,S y.n,.int .i64 y.o,sw] t (0,0)))
  (hr:gU W sv x.args) (hs:gU W sw y.args):gU W (.slice (some ⟨b,0,none⟩) 2 cap) [x,y]:=by
 refine .mk (some ⟨b,0,none⟩) cap [x,y] (fun j=>if j=0 then sv else sw) (fun j z hz=>?_) (fun j z hz=>?_)
 ·match j,hz with
  |0,hz=>
   injection hz with hz;subst hz;exact⟨b,0,rfl,rV hb rfl⟩
  |1,hz=>
   injection hz with hz;subst hz;exact⟨b,0,rfl,rV hb rfl⟩
  |j+2,hz=>simp at hz
 ·match j,hz with
  |0,hz=>
   injection hz with hz;subst hz;exact hr
  |1,hz=>
   injection hz with hz;subst hz;exact hs
  |j+2,hz=>simp at hz
end
section
end
section
attribute [local go_sem] nC
theorem not2_range(n:Int):c9p n=0\/c9p n=1\/c9p n=2:=by unfold c9p;split<;>(try split)<;>simp
end
section
def zeroD:Bd:= .mk 0 0 zVl 0 0 [] []
mutual
def partsD:Bd->Nat
 | .mk _ _ _ _ _ _ l=>1+partssD l
def partssD:List Bd->Nat
 |[]=>0
 |x::r=>partsD x+partssD r
end
mutual
def sameD:Bd->Bd->Bool
 | .mk k t v p o n l,.mk k' t' v' p' o' n' l'=>(k==k'&&t==t'&&v==v'&&p==p'&&o==o'&&n==n')&&samesD l l'
def samesD:List Bd->List Bd->Bool
 |[],[]=>true
 |x::r,y::s=>sameD x y&&samesD r s
 |_,_=>false
end
def isFd(x:Ex)(f:Fd):Bool:=f.n==x.n&&(x.t==[]||f.tb==x.t)
def findFd(x:Ex):Nat->List Fd->List (Nat×Fd)
 |_,[]=>[]
 |i,f::r=>if isFd x f then(i,f)::findFd x (i+1) r else findFd x (i+1) r
mutual
def bindD(fs:List Fd):Ex->Bd×Int
 | .mk k v t n o args=>
  let l:=bindsD fs args
  if l.2≠0 then(zeroD,l.2)
  else if k=2 then
   match findFd (.mk k v t n o args) 0 fs with
   |[]=>(zeroD,300)
   |[(i,f)]=>(.mk k f.t v i o [] l.1,0)
   |_=>(zeroD,301)
  else
   let nm:=if k=5 then n else[]
   let ty:=typeD k o 0 v nm l.1
   if ty.2≠0 then(zeroD,ty.2) else(.mk k ty.1 v 0 o nm l.1,0)
def bindsD(fs:List Fd):List Ex->List Bd×Int
 |[]=>([],0)
 |x::r=>
  let y:=bindD fs x
  if y.2≠0 then([],y.2)
  else
   let z:=bindsD fs r
   if z.2≠0 then([],z.2) else(y.1::z.1,0)
end
def fieldsB(fs:List Fd):Int:=if 160<fs.length then 3 else if fs.any (fun f=>decide (f.t<1)||decide (4<f.t)) then 2 else 0
def bindQ(fs:List Fd)(x:Ex):Bd×Int:=if fieldsB fs≠0 then(zeroD,fieldsB fs) else if eH x=false then(zeroD,2) else bindD fs x
mutual
def placesD:Bd->List Int
 | .mk k _ _ p _ _ l=>if k=2 then[p] else placessD l
def placessD:List Bd->List Int
 |[]=>[]
 |x::r=>placesD x++placessD r
end
def evalQ(b:Bd)(r:List Vl):Vl×Int:=if(rightD r.length b&&rowB r&& !sumsD b)=false then(zVl,2) else if(workD [r] b).2≠0 then(zVl,(workD [r] b).2) else workD [r] b
def truthQ(b:Bd)(r:List Vl):Int×Int:=if(evalQ b r).2≠0 then(0,(evalQ b r).2) else if 1<(evalQ b r).1.1 then(0,120) else(knVl (evalQ b r).1,0)
def widthR(rows:List (List Vl)):Int:=match rows with |[]=>1099511627776|r::_=>r.length
def rowsB(rows:List (List Vl)):Bool:=rows.all fun r=>decide ((r.length:Int)=widthR rows)&&rowB r
def groupQ(b:Bd)(rows:List (List Vl)):Vl×Int:=if(rowsB rows&&rightD (widthR rows) b)=false then(zVl,2) else if(workD rows b).2≠0 then(zVl,(workD rows b).2) else workD rows b
end
section
theorem u8_eq{a b:UInt8}(h:a.toNat=b.toNat):a=b:=UInt8.toNat_inj.1 h
theorem less_irr:∀(a:List UInt8),Op.bytesLess a a=false
 |[]=>by simp[Op.bytesLess]
 |c::r=>by simp[Op.bytesLess,less_irr r]
theorem less_total:∀(a b:List UInt8),Op.bytesLess a b=false->a≠b->Op.bytesLess b a=true
 |[],[],_,h=>absurd rfl h
 |[],_::_,h,_=>by simp[Op.bytesLess] at h
 |_::_,[],_,_=>by simp[Op.bytesLess]
 |c::r,d::s,h,hn=>by
  have ih:=less_total r s;simp only[Op.bytesLess,jO,decide_eq_true_eq,aQ,beq_iff_eq,UInt8.lt_iff_toNat_lt,Bool.or_eq_false_iff,decide_eq_false_iff_not,Bool.and_eq_false_iff] at h⊢;by_cases e:c=d
  ·subst e;right;refine⟨rfl,ih ?_ (fun e=>hn (by rw[e]))⟩;rcases h.2 with h2|h2
   ·simp at h2
   ·exact h2
  ·left;have:c.toNat≠d.toNat:=fun x=>e (u8_eq x);have:=h.1;omega
theorem cmpI_zero(a b:Int):d1h a b=0↔a=b:=by unfold d1h;split<;>(try split)<;>omega
theorem cmpS_cases(a b:List UInt8):(d2b a b= -1/\Op.bytesLess a b=true)\/(d2b a b=0/\a=b)\/(d2b a b=1/\Op.bytesLess b a=true):=by
 unfold d2b;cases h:Op.bytesLess a b with
 |true=>simp
 |false=>
  by_cases e:a=b
  ·simp[e]
  ·simp[e,less_total a b h e]
theorem cmpV_zero(k n:Int)(l:List UInt8)(k' n':Int)(l':List UInt8):d2h k n l k' n' l'=0↔k=k'/\n=n'/\l=l':=by
 unfold d2h c6n;have h1:=cmpI_zero k k';have h2:=cmpI_zero n n';have h3:d2b l l'=0↔l=l':=by
  rcases cmpS_cases l l' with⟨h,g⟩|⟨h,g⟩|⟨h,g⟩
  ·rw[h];constructor
   ·intro e;cases e
   ·intro e;subst e;rw[less_irr] at g;cases g
  ·exact⟨fun _=>g,fun _=>h⟩
  ·rw[h];constructor
   ·intro e;cases e
   ·intro e;subst e;rw[less_irr] at g;cases g
 rw[<-h1,<-h2,<-h3];split<;>(try split)<;>omega
end
section
def hiS(l:List Int):Int:=(l.map fun n=>n / 4294967296).sum
def loS(l:List Int):Int:=(l.map fun n=>n % 4294967296).sum
theorem halves_sum:∀l:List Int,l.sum=hiS l * 4294967296+loS l
 |[]=>rfl
 |n::r=>by
  have h:=halves_sum r;unfold hiS loS at h⊢;simp only[kP,List.sum_cons] at h⊢;omega
theorem lo_bound:∀l:List Int,0<=loS l/\loS l<=l.length * 4294967295
 |[]=>by simp[loS]
 |n::r=>by
  have h:=lo_bound r;unfold loS at h⊢;simp only[kP,List.sum_cons,aX] at h⊢;omega
theorem hi_bound:∀l:List Int,(∀n∈l,I64 n)->-(l.length * 2147483648:Int)<=hiS l/\hiS l<=l.length * 2147483647
 |[],_=>by simp[hiS]
 |n::r,hn=>by
  have h:=hi_bound r fun x hx=>hn x (List.mem_cons_of_mem _ hx);have h0:=hn n (by simp);unfold hiS at h⊢;unfold I64 at h0;simp only[kP,List.sum_cons,aX] at h⊢;omega
theorem halves_fit(l:List Int):fits64 l.sum=(decide (-2147483648<=hiS l+loS l / 4294967296)&&decide (hiS l+loS l / 4294967296<2147483648)):=by
 have h:=halves_sum l;unfold fits64;rw[kC];simp only[aQ,decide_eq_true_eq];omega
theorem halves_back(l:List Int):(hiS l+loS l / 4294967296) * 4294967296+loS l % 4294967296=l.sum:=by
 have h:=halves_sum l;omega
theorem hi_snoc(l:List Int)(n:Int):hiS (l++[n])=hiS l+n / 4294967296:=by simp[hiS]
theorem lo_snoc(l:List Int)(n:Int):loS (l++[n])=loS l+n % 4294967296:=by simp[loS]
end
section
theorem mul_sizes(a b:Int):decide (a.natAbs * b.natAbs<=9223372036854775807+if(decide (a<0) != decide (b<0))=true then 1 else 0)=fits64 (a * b):=by
 have h1:(a * b).natAbs=a.natAbs * b.natAbs:=Int.natAbs_mul a b;unfold fits64;rw[<-h1,kC];simp only[aQ,decide_eq_true_eq];by_cases ha:a<0<;>by_cases hb:b<0
 ·have:=Int.mul_pos_of_neg_of_neg ha hb;simp only[ha,hb,decide_true,bne_self_eq_false,fM,if_false];omega
 ·have:=Int.mul_nonpos_of_nonpos_of_nonneg (Int.le_of_lt ha) (Int.not_lt.1 hb);simp only[ha,hb,decide_true,decide_false,bne_iff_ne,ne_eq,Bool.true_eq_false,not_false_eq_true,if_true];omega
 ·have:=Int.mul_nonpos_of_nonneg_of_nonpos (Int.not_lt.1 ha) (Int.le_of_lt hb);simp only[ha,hb,decide_true,decide_false,bne_iff_ne,ne_eq,fM,not_false_eq_true,if_true];omega
 ·have:=Int.mul_nonneg (Int.not_lt.1 ha) (Int.not_lt.1 hb);simp only[ha,hb,decide_false,bne_self_eq_false,fM,if_false];omega
theorem div_fits{a b:Int}(ha:I64 a)(hb:b≠0):fits64 (a.tdiv b)= !(decide (a= -9223372036854775808)&&decide (b= -1)):=by
 unfold I64 at ha;have h1:(a.tdiv b).natAbs=a.natAbs / b.natAbs:=Int.natAbs_tdiv a b;have h2:a.natAbs / b.natAbs<=a.natAbs:=Nat.div_le_self _ _;unfold fits64;rw[kC];simp only[aQ,decide_eq_true_eq,nT,Bool.and_eq_false_iff,decide_eq_false_iff_not];by_cases hm:a= -9223372036854775808
 ·subst hm;by_cases hb1:b= -1
  ·subst hb1;simp only[not_true_eq_false,or_self,iff_false];decide
  ·by_cases hp:0<b
   ·have h3:(-9223372036854775808:Int).tdiv b<=0:=by
     rw[Int.neg_tdiv];have:=Int.tdiv_nonneg (a:=9223372036854775808) (b:=b) (by decide) (by omega);omega
    constructor
    ·intro _;exact .inr hb1
    ·intro _;have:(-9223372036854775808:Int).natAbs=9223372036854775808:=rfl;omega
   ·have h4:2<=b.natAbs:=by omega
    have h5:9223372036854775808 / b.natAbs<=9223372036854775808 / 2:=Nat.div_le_div_left h4 (by decide);have:(-9223372036854775808:Int).natAbs=9223372036854775808:=rfl;rw[this] at h1;constructor
    ·intro _;exact .inr hb1
    ·intro _;omega
 ·constructor
  ·intro _;exact .inl hm
  ·intro _;omega
theorem mod_fits{a b:Int}(ha:I64 a):fits64 (a.tmod b)=true:=by
 unfold I64 at ha;have h1:(a.tmod b).natAbs=a.natAbs % b.natAbs:=Int.natAbs_tmod a b;have h2:a.natAbs % b.natAbs<=a.natAbs:=Nat.mod_le _ _;have h3:0<=a->0<=a.tmod b:=fun h=>Int.tmod_nonneg _ h;have h4:a<0->a.tmod b<=0:=fun h=>by
  have h5:=Int.tmod_nonneg b (show 0<=-a by omega);rw[Int.neg_tmod] at h5;omega
 unfold fits64;simp only[aQ,decide_eq_true_eq];omega
end
section
theorem zero_readsD(p:Nat->Prop)(W:World):ReadsDP p W zeroD (BdV 0 0 zVl 0 0 [] (.slice none 0 0)):=⟨_,rfl,ReadsDL.nil p W none 0⟩
theorem partsD_pos(x:Bd):1<=partsD x:=by cases x;simp only[partsD];omega
theorem partssD_mem:∀{l:List Bd} {x:Bd},x∈l->partsD x<=partssD l
 |y::r,x,h=>by
  simp only[partssD];rcases dD.1 h with rfl|h
  ·omega
  ·have:=partssD_mem h;omega
theorem partsD_arg{x y:Bd}(h:y∈x.args):partsD y<partsD x:=by
 cases x with
 |mk k t v p o n l=>
  have:=partssD_mem (show y∈l from h);simp only[partsD];omega
theorem partssD_len:∀l:List Bd,l.length<=partssD l
 |[]=>by simp[partssD]
 |x::r=>by
  have:=partssD_len r;have:=partsD_pos x;simp only[partssD,aX];omega
theorem partsD_len(x:Bd):x.args.length<partsD x:=by
 cases x with
 |mk k t v p o n l=>
  have:=partssD_len l;simp only[partsD,Bd.args];omega
theorem sumssD_drop{l:List Bd}{j:Nat}(hj:j<l.length):sumssD (l.drop j)=(sumsD l[j]||sumssD (l.drop (j+1))):=by
 rw[aZ hj];rfl
theorem samesD_drop{l m:List Bd}{j:Nat}(hj:j<l.length)(hk:j<m.length):samesD (l.drop j) (m.drop j)=(sameD l[j] m[j]&&samesD (l.drop (j+1)) (m.drop (j+1))):=by
 rw[aZ hj,aZ hk];rfl
theorem samesD_ne:∀{l m:List Bd},l.length≠m.length->samesD l m=false
 |[],[],h=>absurd rfl h
 |[],_::_,_=>rfl
 |_::_,[],_=>rfl
 |x::l,y::m,h=>by simp only[samesD,samesD_ne (l:=l) (m:=m) (fun e=>h (by simp[e])),Bool.and_false]
mutual
theorem sameD_self:∀x:Bd,sameD x x=true
 | .mk k t v p o n l=>by simp[sameD,samesD_self l]
theorem samesD_self:∀l:List Bd,samesD l l=true
 |[]=>rfl
 |x::l=>by simp[samesD,sameD_self x,samesD_self l]
end
abbrev VlV(v:Vl):Value:= .agg #[.int .i64 v.1,.int .i64 v.2.1,S v.2.2]
end
section
def bigD(lim:Nat)(v:Vl)(n:List UInt8):Bool:=decide (lim<v.2.2.length)||decide (100<n.length)
mutual
def sizeV(lim:Nat):Nat->Bd->Nat
 |most,.mk _ _ v _ _ n args=>if bigD lim v n then most+1 else sVs lim most 1 args
def sVs(lim:Nat):Nat->Nat->List Bd->Nat
 |_,n,[]=>n
 |most,n,y::l=>if n<=most then sVs lim most (n+sizeV lim (most-n) y) l else n
end
mutual
theorem sV_le(lim:Nat):∀(most:Nat) (x:Bd),1<=sizeV lim most x/\sizeV lim most x<=most+1
 |most,.mk _ _ v _ _ n args=>by
  simp only[sizeV];split
  ·omega
  ·exact sVs_le lim most 1 args (by omega) (by omega)
theorem sVs_le(lim:Nat):∀(most n:Nat) (l:List Bd),1<=n->n<=most+1->1<=sVs lim most n l/\sVs lim most n l<=most+1
 |most,n,[],h1,h2=>by simp only[sVs];omega
 |most,n,y::l,h1,h2=>by
  simp only[sVs];split
  ·have:=sV_le lim (most-n) y;exact sVs_le lim most _ l (by omega) (by omega)
  ·omega
end
theorem sVs_stop{lim most n:Nat}(h:most<n)(l:List Bd):sVs lim most n l=n:=by
 cases l with
 |nil=>simp only[sVs]
 |cons y l=>simp only[sVs];rw[if_neg (by omega)]
theorem sVs_drop{lim most n:Nat}{l:List Bd}{j:Nat}(hj:j<l.length)(hn:n<=most):sVs lim most n (l.drop j)=sVs lim most (n+sizeV lim (most-n) l[j]) (l.drop (j+1)):=by
 rw[aZ hj];simp only[sVs];rw[if_pos hn]
end
section
end
section
end
section
theorem a1d{P:Program}{fn:Func}{t t':Array Value}{R:Ending->World->Prop}(h:∀w,(results fn t).run P w=(results fn t').run P w):∀ds:List Deferred,Leaves P fn t R ds=Leaves P fn t' R ds
 |[]=>by
  funext u w
  cases u with
  |returning=>simp only[Leaves,h]
  |panicking c=>rfl
  |run=>rfl
 |d::ds=>by
  funext u w
  simp only[Leaves,a1d h ds]
section
variable {P:Program} {ops:Array Oper} {Q:Exit->Act->World->Prop} {S:World->Prop}
theorem zY{lo:Nat}(hs:jZ ops=true)(hlo:∀(i:Nat) (o:Oper),ops[i]?=some o->∀t,o.dst=some t->lo<=t)(hQ:∀(c:_) (a:Act) (d:Nat) (v:Value) (w:World),lo<=d->Q (.panic c) (a.put (some d) v) w->Q (.panic c) a w):
  ∀(s:Sc) (n:Nat) (listed:Array Bool) (a:Act) (w:World),scB ops n s listed=true->S w->a2w P ops Q S s a w->wpAnyH P .any ops Q S n listed a w
 | .done,n,listed,a,w,hB,_,h=>by
  simp only[scB,aQ,beq_iff_eq] at hB;obtain⟨rfl,hB⟩:=hB;exact wpAnyH_done (by simpa using hB) h _
 | .take i s,0,_,_,_,hB,_,_=>by simp[scB] at hB
 | .take i s,n+1,listed,a,w,hB,hS,h=>by
  simp only[scB,aQ] at hB;obtain⟨o,v,ho,hy,h⟩:=h;refine wpAnyH_take ho hs hB.1.1 hB.1.2 (fun c a w hq=>?_) hy hS (zY hs hlo hQ s _ _ _ _ hB.2 hS h);cases hd:o.dst with
  |none=>rw[hd] at hq;exact hq
  |some t=>rw[hd] at hq;exact hQ c a t _ w (hlo i o ho t hd) hq
 | .one i s,0,_,_,_,hB,_,_=>by simp[scB] at hB
 | .one i s,n+1,listed,a,w,hB,hS,h=>by
  simp only[scB,aQ,beq_iff_eq] at hB;refine wpAnyH_all hB.1 (by simp) ?_;intro j hj;obtain rfl:j=i:=(by simpa using hj);exact wpOp_mono (fun a' w' hk=>⟨hk.1,zY hs hlo hQ s _ _ _ _ hB.2 hk.1 hk.2⟩) h
 | .two i k s t,0,_,_,_,hB,_,_=>by simp[scB] at hB
 | .two i k s t,n+1,listed,a,w,hB,hS,h=>by
  simp only[scB,aQ,beq_iff_eq] at hB;refine wpAnyH_all hB.1.1 (by simp) ?_;intro j hj;have hj':j=i\/j=k:=(by simpa using hj);rcases hj' with rfl|rfl
  ·exact wpOp_mono (fun a' w' hk=>⟨hk.1,zY hs hlo hQ s _ _ _ _ hB.1.2 hk.1 hk.2⟩) h.1
  ·exact wpOp_mono (fun a' w' hk=>⟨hk.1,zY hs hlo hQ t _ _ _ _ hB.2 hk.1 hk.2⟩) h.2
theorem c9q{lo:Nat}(h:(ops.toList.all fun o=>match o.dst with |some t=>decide (lo<=t)|none=>true)=true):∀(i:Nat) (o:Oper),ops[i]?=some o->∀t,o.dst=some t->lo<=t:=by
 intro i o ho t hd;have hm:o∈ops.toList:=by
  rw[<-oL] at ho;exact dJ ho
 have:=jA.1 h o hm;rw[hd] at this;simpa using this
theorem a2t{id:Nat}{a:Act}{w:World}(lo:Nat)(S:World->Prop)(s:Sc)(hm:P.follows .mixedOrders=true)(hs:jZ ops=true)(hB:scB ops ops.size s (kD ops.size false)=true)
  (hlo:(ops.toList.all fun o=>match o.dst with |some t=>decide (lo<=t)|none=>true)=true)
  (hQ:∀(c:_) (a:Act) (d:Nat) (v:Value) (w:World),lo<=d->Q (.panic c) (a.put (some d) v) w->Q (.panic c) a w) (hS:S w.drew) (h:∀wd,Hid (Bl w wd)->S wd->a2w P ops Q S s a wd):(Code.region id ops true).wp P Q a w:=
 wp_region_held hm (zY hs (c9q hlo) hQ _ _ _ a _ hB hS (h _ ((Bl.refl w).drew) hS))
end
end
section
end
section
end
section
theorem b2l(s x:List UInt8)(r:List (List UInt8)):jR s (x::r)=x++Lib.joinTail s r:=by
 induction r generalizing x with
 |nil=>simp[jR,Lib.joinTail]
 |cons y r ih=>simp only[jR,ih,Lib.joinTail,kP,List.flatten_cons,iK]
theorem a5y(s:List UInt8)(l:List (List UInt8)):jR s l=Lib.join l s:=by
 cases l with
 |nil=>rfl
 |cons x r=>rw[b2l,Lib.join_cons]
theorem vF{x:Ex}(h:eH x=true):a9r x=true:=by
 cases x with
 |mk k v t n o args=>
  simp only[eH,aQ] at h;exact h.1
theorem a1l{x y:Ex}(h:eH x=true)(hy:y∈x.args):eH y=true:=by
 cases x with
 |mk k v t n o args=>
  simp only[eH,aQ,vY,jA] at h;exact h.2 y hy
end
section
end
section
theorem wO(W:World)(l:List (List UInt8))(cs:Array Value)(t:TypeId)(hcs:cs=(l.map fun s=>S s).toArray)(n b:Nat)(hn:n=l.length)(hw:b=W.heap.size):sW (W.alloc (.cells cs t)) (.slice (some ⟨b,0,none⟩) n n) l:=by
 subst hcs;subst hn;subst hw;refine⟨_,_,rfl,aH _,by simp,fun j hj=>?_⟩;rw[aG (aN W _)];simp[hj]
theorem b0j{W:World}{sv:Value}{l:List (List UInt8)}(h:sW W sv l)(sep:List UInt8)(hm:l.length<=1000000)(hlen:(jR sep l).length<=100000000):
  Calls Tryz.prog 179 #[sv,S sep] W fun e w'=>e= .returned (S (jR sep l))/\Bl W w':=by
 obtain⟨b,cap,rfl,hcap,hb,hc⟩:=h;have e1:(l.map fun s=>(⟨s.toArray⟩:ByteArray)).map (·.data.toList)=l:=(by simp[Function.comp_def]);have hj:=Tryz.strings_Join b 0 cap (l.map fun s=>⟨s.toArray⟩) ⟨sep.toArray⟩ W (fun j x hx=>by
  rw[iJ] at hx;obtain⟨s,hs,rfl⟩:=aT.1 hx;obtain⟨hl,e⟩:=aO.1 hs;rw[gD,hc j hl,e]) hb (by simp;omega) (by simpa using hcap) (by
  rw[e1];show(Lib.join l sep).length<=_;rw[<-a5y];omega)
 rw[e1,mD] at hj;refine hj.mono ?_;rintro e w' ⟨rfl,hw⟩;refine⟨?_,hw⟩;show bQ (.string ⟨(Lib.join l sep).toArray⟩)=_;rw[<-a5y]
end
section
theorem c4j(o:Int):(bI o).length<=20:=by
 unfold bI;split<;>simp
end
section
end
section
attribute [local go_sem] nC
end
section
attribute [local go_sem] nC
end
section
theorem a7b{α:Type}(l:List α){j:Nat}(hj:j<l.length):l.take (j+1)=l.take j++[l[j]]:=by
 rw[dN,aP hj];rfl
end
section
mutual
def c3p:Ex->Bool
 | .mk _ v t n _ args=>(decide (-9223372036854775808<=v.2.1)&&decide (v.2.1<=9223372036854775807)&&decide (t.length<=100000)&&decide (n.length<=100000))&&c0c args
def c0c:List Ex->Bool
 |[]=>true
 |x::r=>c3p x&&c0c r
end
mutual
theorem c2c:∀x:Ex,c3p x=true->Fits x/\Lens x
 | .mk k v t n o args,h=>by
  simp only[c3p,aQ,decide_eq_true_eq] at h;have ha:=b6r args h.2;exact⟨.mk k v t n o args ⟨h.1.1.1.1,h.1.1.1.2⟩ (fun y hy=>(ha y hy).1),.mk k v t n o args (by have:=h.1.1.2;omega) (by have:=h.1.2;omega) (fun y hy=>(ha y hy).2)⟩
theorem b6r:∀l:List Ex,c0c l=true->∀y∈l,Fits y/\Lens y
 |[],_,_,hy=>by cases hy
 |x::r,h,y,hy=>by
  simp only[c0c,aQ] at h;rcases dD.1 hy with e|hy
  ·rw[e];exact c2c x h.1
  ·exact b6r r h.2 y hy
end
end
section
end
end Go.Proofs.YtkimpcmkminffaaGreatDoor
