/- Texts beside the shared ones. -/
import Derived.Test.YtkimpcmkminffaaGreatDoorNS
import Derived.Test.YtkimpcmkminffaaGreatDoorNA
import Derived.Test.YtkimpcmkminffaaGreatDoorNB
import Derived.Test.YtkimpcmkminffaaGreatDoorNC
import Derived.Test.YtkimpcmkminffaaGreatDoorNX
import Derived.Test.YtkimpcmkminffaaGreatDoorNI
import Derived.Test.YtkimpcmkminffaaGreatDoorND
import Derived.Test.YtkimpcmkminffaaGreatDoorNE
import Derived.Test.YtkimpcmkminffaaGreatDoorWXS
import Derived.Test.YtkimpcmkminffaaGreatDoorWX0
import Derived.Test.YtkimpcmkminffaaGreatDoorWM1
import Derived.Test.YtkimpcmkminffaaGreatDoorWM2
import Derived.Test.YtkimpcmkminffaaGreatDoorWCA
import Derived.Test.YtkimpcmkminffaaGreatDoorWM3
import Derived.Test.YtkimpcmkminffaaGreatDoorWM4
import Derived.Test.YtkimpcmkminffaaGreatDoorWM5
import Derived.Test.YtkimpcmkminffaaGreatDoorWM6
import Derived.Test.YtkimpcmkminffaaGreatDoorWM7
import Derived.Test.YtkimpcmkminffaaGreatDoorWM8
import Derived.Test.YtkimpcmkminffaaGreatDoorWM9
import Derived.Test.YtkimpcmkminffaaGreatDoorWFA
import Derived.Test.YtkimpcmkminffaaGreatDoorWFB
import Derived.Test.YtkimpcmkminffaaGreatDoorWFC
import Derived.Test.YtkimpcmkminffaaGreatDoorWOB
import Derived.Test.YtkimpcmkminffaaGreatDoorWZP
import Derived.Test.YtkimpcmkminffaaGreatDoorWZC
import Derived.Test.YtkimpcmkminffaaGreatDoorWZE
import Derived.Test.YtkimpcmkminffaaGreatDoorWOV
import Derived.Test.YtkimpcmkminffaaGreatDoorWOW
import Derived.Test.YtkimpcmkminffaaGreatDoorWFD
import Derived.Test.YtkimpcmkminffaaGreatDoorWFE
import Derived.Test.YtkimpcmkminffaaGreatDoorWFG
import Derived.Test.YtkimpcmkminffaaGreatDoorWFI
import Derived.Test.YtkimpcmkminffaaGreatDoorWFJ
import Derived.Test.YtkimpcmkminffaaGreatDoorWFH
import Derived.Test.YtkimpcmkminffaaGreatDoorWFO
import Derived.Test.YtkimpcmkminffaaGreatDoorWFP
import Derived.Test.YtkimpcmkminffaaGreatDoorWFR
import Derived.Test.YtkimpcmkminffaaGreatDoorWFS
import Derived.Test.YtkimpcmkminffaaGreatDoorWFT
import Derived.Test.YtkimpcmkminffaaGreatDoorWGS
import Derived.Test.YtkimpcmkminffaaGreatDoorWGA
import Derived.Test.YtkimpcmkminffaaGreatDoorWGB
import Derived.Test.YtkimpcmkminffaaGreatDoorWGC
import Derived.Test.YtkimpcmkminffaaGreatDoorRows
import Derived.ProofKit
import Derived.OpenShut
import Derived.LaidMore
import Derived.Lay
import Derived.HandedShaped
import Derived.Shelf.Vars
import Derived.Stop.LaidErr
import Derived.Stop.Joined
namespace Go.Proofs.YtkimpcmkminffaaGreatDoor
open Go.ChangeShapes Go.WideShapes Go.ChangeAt Go.RowKit
open Go.RowKit
open _root_.Bool renaming and_eq_true->aQ,eq_iff_iff->kC,false_eq_true->fM,or_eq_true->jO
open _root_.List renaming all_eq_true->jA,drop_drop->iI,mem_cons->dD
set_option maxRecDepth 100000
section
theorem wJ{H:Type}{enc:TypeId×Value->H}{P:Program}(hl:laidOutB P=true){W W':World}(hb:Below W.heap.size W W'){sp:Nat->Bool}:∀{ts:List TypeId} {vs:List Value} {ds:List (DataW H)} {ps:List MemPlace},
  DataW.TrodAll enc P W 0 (fun _=>true) true ts vs ds ps->(∀t∈ts,P.readableRec t=true/\t<P.types.size)->(∀x∈ps,x.block<W.heap.size)->(∀x∈ps,sp x.block=true)->DataW.TrodAll enc P W' 0 sp true ts vs ds ps
 |[],_,_,_,h,_,_,_=>by
  obtain⟨rfl,rfl,rfl⟩:=trodAll_nil h;exact rfl
 |t::ts,_,_,_,h,ht,hlt,hsp=>by
  obtain⟨v,vs1,d,ds1,a,b,rfl,rfl,rfl,h1,h2⟩:=trodAll_cons h;have t0:=ht t (by simp);exact⟨a,b,WideElems.Trod_stays hl t0.1 t0.2 h1 (fun x hx=>hb.same (hlt x (by simp[hx]))) (fun x hx=>hsp x (by simp[hx])),wJ hl hb h2 (fun u hu=>ht u (by simp[hu])) (fun x hx=>hlt x (by simp[hx])) (fun x hx=>hsp x (by simp[hx])),rfl⟩
theorem b8p{H:Type}{enc:TypeId×Value->H}{P:Program}{f:Func}{s:ChangeSpec}{W W':World}{args:Array Value}{ds:List (DataW H)}{before:List MemPlace}{tb:TypeId}
  (hl:laidOutB P=true) (htb:P.underlying tb=some .bool) (hrt:f.resultTypes= #[tb]) (hpar:∀t∈f.params.toList,P.readableRec t=true/\t<P.types.size) (hv:s.vars=[])
  (hW:DataW.Whole enc P f.params.toList s.vars false W args.toList ds [] before) (hfn:s.fn H (ds++[])={results:=[.lit (.bool true)],args:=ds}) (hb:Below W.heap.size W W'):
  s.post enc P f false true false false W args (.bool true) W':=by
 have hold:∀p∈before,p.block<W.heap.size:=fun p hp=>hW.lt p hp;have hW0:=hW;obtain⟨p,q,hA,hV,hpq,hz,hn⟩:=hW;rw[hv] at hV;obtain⟨_,rfl⟩:=trodVars_none hV;have hbp:before=p:=(by simpa using hpq);subst hbp;have hargs:∀sp:Nat->Bool,(∀x∈before,sp x.block=true)->DataW.TrodAll enc P W' 0 sp true f.params.toList args.toList (s.fn H (ds++[])).args before:=fun sp hsp=>by
  rw[hfn];exact wJ hl hb hA hpar hold hsp
 have hres:∀(b:Nat) (sp:Nat->Bool) (hd:Bool),DataW.TrodAll enc P W' b sp hd f.resultTypes.toList ((Value.bool true).resultList f.resultTypes.size) (s.fn H (ds++[])).results []:=fun b sp hd=>by
  rw[hfn,hrt];exact trodAll_mk1 (shut_bool htb _)
 have hvars:∀sp:Nat->Bool,DataW.TrodVars enc P W' sp s.vars (s.fn H (ds++[])).vars []:=fun sp=>by
  rw[hfn,hv];exact rfl
 refine⟨ds,[],before,[],before,[],hW0,hres _ _ _,hargs _ (fun x hx=>by simpa using hold x hx),hvars _,hb.frame _,fun _=>?_⟩;refine⟨ok_one hrt rfl (okWide_bool_mk htb _),_,_,([]++before)++[],⟨[]++before,[],trodAll_append (hargs _ (fun _ _=>rfl)) (hres _ _ _),hvars _,rfl,?_,?_⟩,?_⟩
 ·intro b off hp;have hp':MemPlace.cell b off∈before:=(by simpa using hp);rw[hb.frozen (p:=⟨b,off,none⟩) (hold _ hp')];exact hz b off hp'
 ·intro ha;cases ha
 ·intro x hx _;simpa using hx
theorem laidOut:laidOutB Tryz.prog=true:=by kernel_rfl
def b2j:List (String×DataW Unit):=[("math/bits.deBruijn32tab",Rows.laid_math_bits_deBruijn32tab),("math/bits.deBruijn64tab",Rows.laid_math_bits_deBruijn64tab),("internal/strconv.uint64pow10",Rows.laid_internal_strconv_uint64pow10),("unicode/utf8.acceptRanges",Rows.laid_unicode_utf8_acceptRanges),("strconv.ErrRange",Rows.laid_strconv_ErrRange),("strconv.ErrSyntax",Rows.laid_strconv_ErrSyntax),("unicode/utf8.first",Rows.laid_unicode_utf8_first)]
theorem a9l{P:Program}{n nm:String}{d:DataW Unit}{r:List (String×DataW Unit)}{W:World}{g:Nat}{ti:TypeId}{ms:Array (String×TypeId)}
  (h:laidMet P ((n,.iface nm d)::r) W) (hg:P.globalNamed n=some g) (ht:(P.globals[g]?).map (·.type)=some ti) (hi:P.underlying ti=some (.interface ms)):∃u v,W.var? P n=some #[.iface u v]:=by
 obtain⟨ps,⟨g0,t0,cs0,f0,p0,q0,hg0,ht0,hv0,hd0,_,_⟩,_,_⟩:=h;obtain rfl:=Option.some.inj (hg.symm.trans hg0);obtain rfl:=Option.some.inj (ht.symm.trans ht0);obtain⟨f1,u,v,hcs,_,_⟩:=iface_of_trod hi hd0;obtain⟨l0⟩:=cs0;simp only at hcs;subst hcs;exact⟨u,v,hv0⟩
theorem d1r:(Tryz.prog.globals[1]?).map (·.type)=some 234:=by kernel_rfl
theorem d1s:(Tryz.prog.globals[2]?).map (·.type)=some 234:=by kernel_rfl
theorem d1t:(Tryz.prog.globals[3]?).map (·.type)=some 305:=by kernel_rfl
theorem c3f:(Rows.laid_internal_strconv_uint64pow10:DataW Unit)=Lib.tabData .u64 Lib.pow10Tab:=by kernel_rfl
theorem c3o{W:World}(h:laidMetH Tryz.prog b2j W)(hsh:W.ShapedOpen Tryz.prog):nD W:=by
 rw[MakeChecks.laidMetH_plain _ _ _ (by kernel_rfl)] at h;unfold b2j at h;have h2:=h.tail.tail;have h4:=h2.tail.tail;have h5:=h4.tail;rw[c3f] at h2;exact{
  pow:=Lib.tabIs_of_head c9z d1t Tryz.underlying305 Tryz.underlying218 (by kernel_rfl) (by kernel_rfl) h2
  most:=cell_of_shapedOpen_int hsh (of_decide_eq_true (by kernel_rfl)) (t:=3) (zero:= #[.int .i64 0]) (by kernel_rfl) rfl (by kernel_rfl) (by kernel_rfl) Tryz.underlying3
  syn:=a9l h5 c9x d1r Tryz.underlying234
  rng:=a9l h4 c9y d1s Tryz.underlying234}
end
section
end
section
end
section
end
section
end
section
end
section
theorem Rest.app{ts:List Tok}{k:Nat}{l m:List kG}(h:Rest ts k (l++m)):Rest ts (k+l.length) m:=by
 unfold Rest at h⊢;rw[<-iI,h,List.drop_left]
theorem Rest.tail{ts:List Tok}{k:Nat}{b:kG}{m:List kG}(h:Rest ts k (b::m)):Rest ts (k+1) m:=Rest.app (l:=[b]) h
end
section
end
section
end
section
end
section
end
section
theorem less_asym:∀(a b:List UInt8),Op.bytesLess a b=true->Op.bytesLess b a=false
 |[],[],h=>by simp[Op.bytesLess] at h
 |[],_::_,_=>by simp[Op.bytesLess]
 |_::_,[],h=>by simp[Op.bytesLess] at h
 |c::r,d::s,h=>by
  have ih:=less_asym r s;simp only[Op.bytesLess,jO,decide_eq_true_eq,aQ,beq_iff_eq,UInt8.lt_iff_toNat_lt] at h;cases hx:Op.bytesLess (d::s) (c::r) with
  |false=>rfl
  |true=>
   simp only[Op.bytesLess,jO,decide_eq_true_eq,aQ,beq_iff_eq,UInt8.lt_iff_toNat_lt] at hx;rcases h with h|⟨rfl,h⟩
   ·rcases hx with hx|⟨rfl,_⟩<;>omega
   ·rcases hx with hx|⟨_,hx⟩
    ·omega
    ·rw[ih h] at hx;cases hx
theorem less_trans:∀(a b c:List UInt8),Op.bytesLess a b=true->Op.bytesLess b c=true->Op.bytesLess a c=true
 |[],[],_,h,_=>by simp[Op.bytesLess] at h
 |[],_::_,[],_,h=>by simp[Op.bytesLess] at h
 |[],_::_,_::_,_,_=>by simp[Op.bytesLess]
 |_::_,[],_,h,_=>by simp[Op.bytesLess] at h
 |_::_,_::_,[],_,h=>by simp[Op.bytesLess] at h
 |x::a,y::b,z::c,h,h'=>by
  have ih:=less_trans a b c;simp only[Op.bytesLess,jO,decide_eq_true_eq,aQ,beq_iff_eq,UInt8.lt_iff_toNat_lt] at h h'⊢;rcases h with h|⟨rfl,h⟩
  ·rcases h' with h'|⟨rfl,_⟩
   ·left;omega
   ·left;omega
  ·rcases h' with h'|⟨rfl,h'⟩
   ·left;omega
   ·right;exact⟨rfl,ih h h'⟩
theorem cmpI_neg(a b:Int):d1h a b= -d1h b a:=by unfold d1h;split<;>split<;>(try split)<;>omega
theorem cmpI_cases(a b:Int):(d1h a b= -1/\a<b)\/(d1h a b=0/\a=b)\/(d1h a b=1/\b<a):=by unfold d1h;split<;>(try split)<;>omega
theorem cmpS_neg(a b:List UInt8):d2b a b= -d2b b a:=by
 rcases cmpS_cases a b with⟨h,h1⟩|⟨h,h1⟩|⟨h,h1⟩<;>rcases cmpS_cases b a with⟨g,g1⟩|⟨g,g1⟩|⟨g,g1⟩
 ·rw[less_asym a b h1] at g1;cases g1
 ·subst g1;rw[less_irr] at h1;cases h1
 ·omega
 ·subst h1;rw[less_irr] at g1;cases g1
 ·omega
 ·subst h1;rw[less_irr] at g1;cases g1
 ·omega
 ·subst g1;rw[less_irr] at h1;cases h1
 ·rw[less_asym b a h1] at g1;cases g1
theorem cmpV_neg(k n:Int)(l:List UInt8)(k' n':Int)(l':List UInt8):d2h k n l k' n' l'= -d2h k' n' l' k n l:=by
 unfold d2h c6n;rw[cmpI_neg k k',cmpI_neg n n',cmpS_neg l l'];split<;>split<;>(try split)<;>(try split)<;>omega
theorem cmpS_trans(a b c:List UInt8)(h:d2b a b<=0)(h':d2b b c<=0):d2b a c<=0/\(d2b a c=0->d2b a b=0/\d2b b c=0):=by
 rcases cmpS_cases a b with⟨e,g⟩|⟨e,g⟩|⟨e,g⟩
 ·rcases cmpS_cases b c with⟨e',g'⟩|⟨e',g'⟩|⟨e',g'⟩
  ·have:d2b a c= -1:=by unfold d2b;rw[if_pos (less_trans a b c g g')]
   rw[this];exact⟨by omega,fun x=>by omega⟩
  ·subst g';rw[e];exact⟨by omega,fun x=>by omega⟩
  ·omega
 ·subst g;exact⟨h',fun x=>⟨e,x⟩⟩
 ·omega
theorem cmpV_trans(k n:Int)(l:List UInt8)(k' n':Int)(l':List UInt8)(k2 n2:Int)(l2:List UInt8)(h:d2h k n l k' n' l'<=0)(h':d2h k' n' l' k2 n2 l2<=0):d2h k n l k2 n2 l2<=0:=by
 unfold d2h c6n at h h'⊢;have a1:=cmpI_cases k k';have a2:=cmpI_cases k' k2;have a3:=cmpI_cases k k2;have b1:=cmpI_cases n n';have b2:=cmpI_cases n' n2;have b3:=cmpI_cases n n2;have c1:=cmpS_trans l l' l2;generalize d1h k k'=x1 at *;generalize d1h k' k2=x2 at *;generalize d1h k k2=x3 at *;generalize d1h n n'=y1 at *;generalize d1h n' n2=y2 at *;generalize d1h n n2=y3 at *;generalize d2b l l'=z1 at *;generalize d2b l' l2=z2 at *;generalize d2b l l2=z3 at *;by_cases g1:x1=0<;>by_cases g2:x2=0<;>by_cases g3:y1=0<;>by_cases g4:y2=0<;>simp[g1,g2,g3,g4] at h h'<;>by_cases g5:x3=0<;>by_cases g6:y3=0<;>simp[g5,g6]<;>omega
end
section
theorem ordVl_neg(a b:Vl):ordVl a b= -ordVl b a:=cmpV_neg _ _ _ _ _ _
theorem ordVl_eq{a b:Vl}(h:ordVl a b=0):a=b:=by
 obtain⟨h1,h2,h3⟩:=(cmpV_zero _ _ _ _ _ _).1 h;exact Prod.ext h1 (Prod.ext h2 h3)
theorem ordVl_self(a:Vl):ordVl a a=0:=(cmpV_zero _ _ _ _ _ _).2 ⟨rfl,rfl,rfl⟩
theorem ordVl_trans{a b c:Vl}(h:ordVl a b<=0)(h':ordVl b c<=0):ordVl a c<=0:=cmpV_trans _ _ _ _ _ _ _ _ _ h h'
def goodV(m:Bool)(x y:Vl):Prop:=if m then ordVl x y<=0 else ordVl y x<=0
theorem good_self(m:Bool)(x:Vl):goodV m x x:=by unfold goodV;split<;>rw[ordVl_self]<;>omega
theorem good_trans{m:Bool}{x y z:Vl}(h:goodV m x y)(h':goodV m y z):goodV m x z:=by
 unfold goodV at *;split at h
 ·rename_i hm;rw[if_pos hm] at h'⊢;exact ordVl_trans h h'
 ·rename_i hm;rw[if_neg hm] at h'⊢;exact ordVl_trans h' h
theorem best_two(m:Bool)(a b:Vl):goodV m (bestV m a b) a/\goodV m (bestV m a b) b:=by
 have h:=ordVl_neg a b;have e:=ordVl_self a;have e2:=ordVl_self b;unfold bestV goodV;cases m
 ·simp only[fM,if_false];split<;>constructor<;>omega
 ·simp only[if_true];split<;>constructor<;>omega
theorem best_good(m:Bool):∀(l:List Vl) (a:Vl),∀y∈a::l,goodV m (l.foldl (bestV m) a) y
 |[],a,y,hy=>by
  obtain rfl:y=a:=(by simpa using hy);exact good_self m y
 |b::r,a,y,hy=>by
  have h:=best_good m r (bestV m a b);rw[List.foldl_cons];have h0:=h _ (List.mem_cons_self ..);rcases dD.1 hy with rfl|hy
  ·exact good_trans h0 (best_two m _ b).1
  ·rcases dD.1 hy with rfl|hy
   ·exact good_trans h0 (best_two m a _).2
   ·exact h y (List.mem_cons_of_mem _ hy)
theorem good_anti{m:Bool}{x y:Vl}(h:goodV m x y)(h':goodV m y x):x=y:=by
 have e:=ordVl_neg x y;unfold goodV at *;split at h
 ·rename_i hm;rw[if_pos hm] at h';exact ordVl_eq (by omega)
 ·rename_i hm;rw[if_neg hm] at h';exact ordVl_eq (by omega)
theorem best_perm{m:Bool}{a b:Vl}{r s:List Vl}(h:(a::r).Perm (b::s)):r.foldl (bestV m) a=s.foldl (bestV m) b:=
 good_anti (best_good m r a _ (h.mem_iff.2 (best_mem m s b))) (best_good m s b _ (h.mem_iff.1 (best_mem m r a)))
theorem sum_perm{l m:List Int}(h:l.Perm m):l.sum=m.sum:=by
 induction h with
 |nil=>rfl
 |cons x _ ih=>simp only[List.sum_cons,ih]
 |swap x y l=>simp only[List.sum_cons];omega
 |trans _ _ h1 h2=>exact h1.trans h2
theorem any_perm{α:Type}{p:α->Bool}{l m:List α}(h:l.Perm m):l.any p=m.any p:=by
 rw[kC,List.any_eq_true,List.any_eq_true];exact⟨fun⟨x,hx,hp⟩=>⟨x,h.mem_iff.1 hx,hp⟩,fun⟨x,hx,hp⟩=>⟨x,h.mem_iff.2 hx,hp⟩⟩
theorem summed_perm{n:List UInt8}{l m:List Vl}{a b c:Nat}(h:l.Perm m)(hab:a=b):summedV n l a c=summedV n m b c:=by
 have hf:=h.filter fun v=>v.1 != 0;unfold summedV;simp only;rw[hf.length_eq,hab];split
 ·rfl
 ·cases h1:l.filter fun v=>v.1 != 0 with
  |nil=>
   rw[h1] at hf;rw[hf.nil_eq.symm]
  |cons x r=>
   cases h2:m.filter fun v=>v.1 != 0 with
   |nil=>rw[h1,h2] at hf;exact absurd hf.length_eq (by simp)
   |cons y s=>
    rw[h1,h2] at hf;simp only;rw[any_perm hf,best_perm hf,show totalV (x::r)=totalV (y::s) by unfold totalV;rw[sum_perm (hf.map fun v=>v.2.1)]]
theorem over_perm{rows rows':List (List Vl)}(h:rows.Perm rows')(l:List Bd):((overD rows l).2=0↔(overD rows' l).2=0)/\((overD rows l).2=0->(overD rows l).1.Perm (overD rows' l).1):=by
 cases l with
 |nil=>simp[overD]
 |cons x l=>
  by_cases hb:∃r∈rows,(workD [r] x).2≠0
  ·have hb':∃r∈rows',(workD [r] x).2≠0:=by obtain⟨r,hr,hw⟩:=hb;exact⟨r,h.mem_iff.1 hr,hw⟩
   have h1:=over_bad x l rows hb;have h2:=over_bad x l rows' hb';exact⟨⟨fun e=>absurd e h1,fun e=>absurd e h2⟩,fun e=>absurd e h1⟩
  ·have h1:∀r∈rows,(workD [r] x).2=0:=fun r hr=>by
    by_cases e:(workD [r] x).2=0
    ·exact e
    ·exact absurd ⟨r,hr,e⟩ hb
   rw[over_ok x l rows h1,over_ok x l rows' fun r hr=>h1 r (h.mem_iff.2 hr)];exact⟨Iff.rfl,fun _=>h.map _⟩
theorem width_of{rows:List (List Vl)}(h:rowsB rows=true){r:List Vl}(hr:r∈rows):(r.length:Int)=widthR rows:=by
 unfold rowsB at h;have:=jA.1 h r hr;simp only[aQ,decide_eq_true_eq] at this;exact this.1
theorem rows_perm1{rows rows':List (List Vl)}(h:rows.Perm rows')(hb:rowsB rows=true):rowsB rows'=true/\widthR rows'=widthR rows:=by
 have hw:widthR rows'=widthR rows:=by
  cases rows' with
  |nil=>rw[h.eq_nil]
  |cons r s=>exact width_of hb (h.mem_iff.2 (by simp))
 refine⟨?_,hw⟩;unfold rowsB at hb⊢;rw[hw];exact jA.2 fun r hr=>jA.1 hb r (h.mem_iff.2 hr)
theorem group_perm{b:Bd}(hk:b.k=5){rows rows':List (List Vl)}(h:rows.Perm rows'):((groupQ b rows).2=0↔(groupQ b rows').2=0)/\((groupQ b rows).2=0->groupQ b rows=groupQ b rows'):=by
 obtain⟨k,t,v,p,o,n,l⟩:=b;obtain rfl:k=5:=hk;have hw:∀rows,workD rows (.mk 5 t v p o n l)=(if(overD rows l).2≠0 then(zVl,(overD rows l).2) else summedV n (overD rows l).1 rows.length l.length):=fun rows=>by
  rw[workD.eq_def];simp
 have hfin:∀y:Vl×Int,(if y.2≠0 then(zVl,y.2) else y).2=y.2:=fun y=>(by split<;>rfl);obtain⟨h1,h2⟩:=over_perm h l;have hww:((workD rows (.mk 5 t v p o n l)).2=0↔(workD rows' (.mk 5 t v p o n l)).2=0)/\((workD rows (.mk 5 t v p o n l)).2=0->workD rows (.mk 5 t v p o n l)=workD rows' (.mk 5 t v p o n l)):=by
  rw[hw,hw];by_cases he:(overD rows l).2=0
  ·have he':=h1.1 he;rw[if_neg (fun e=>e he),if_neg (fun e=>e he'),summed_perm (h2 he) h.length_eq];exact⟨Iff.rfl,fun _=>rfl⟩
  ·have he':¬(overD rows' l).2=0:=fun e=>he (h1.2 e);rw[if_pos he,if_pos he'];exact⟨⟨fun e=>absurd e he,fun e=>absurd e he'⟩,fun e=>absurd e he⟩
 unfold groupQ;by_cases hb:rowsB rows=true
 ·obtain⟨hb',hwd⟩:=rows_perm1 h hb;rw[hb,hb',hwd];cases hr:rightD (widthR rows) (.mk 5 t v p o n l)
  ·simp
  ·simp only[Bool.and_self,Bool.true_eq_false,if_false,hfin];refine⟨hww.1,fun e=>?_⟩;rw[<-hww.2 e]
 ·have hb':¬rowsB rows'=true:=fun e=>hb (rows_perm1 h.symm e).1;have e1:rowsB rows=false:=(by simpa using hb);have e2:rowsB rows'=false:=(by simpa using hb');rw[e1,e2];simp
end
section
theorem swap_perm{α:Type}{l:List α}{i j:Nat}(hi:i<l.length)(hj:j<l.length):l.Perm ((l.set i l[j]).set j l[i]):=(List.set_set_perm hi hj).symm
end
section
inductive ShortD (lim:Nat):Bd->Prop where
 |mk (k t:Int) (v:Vl) (p o:Int) (n:List UInt8) (args:List Bd) (h:bigD lim v n=false) (ha:∀y,y∈args->ShortD lim y):ShortD lim (.mk k t v p o n args)
mutual
theorem sV_parts(lim:Nat):∀(most:Nat) (x:Bd),sizeV lim most x<=most->partsD x=sizeV lim most x/\ShortD lim x
 |most,.mk k t v p o n args,h=>by
  simp only[sizeV] at h⊢;split at h
  ·omega
  ·rename_i hb;rw[if_neg hb];obtain⟨h1,h2⟩:=sVs_parts lim most 1 args h;simp only[partsD];exact⟨h1,.mk k t v p o n args (by simpa using hb) h2⟩
theorem sVs_parts(lim:Nat):∀(most n:Nat) (l:List Bd),sVs lim most n l<=most->n+partssD l=sVs lim most n l/\∀y,y∈l->ShortD lim y
 |most,n,[],h=>by simp[sVs,partssD]
 |most,n,y::l,h=>by
  simp only[sVs] at h⊢;split at h
  ·rename_i hn;rw[if_pos hn];obtain⟨h1,h2⟩:=sVs_parts lim most _ l h;have hm:sizeV lim (most-n) y<=most-n:=by
    have:=(sV_le lim (most-n) y).1;omega
   obtain⟨h3,h4⟩:=sV_parts lim (most-n) y hm;simp only[partssD];refine⟨by omega,fun z hz=>?_⟩;rcases dD.1 hz with rfl|hz
   ·exact h4
   ·exact h2 z hz
  ·rename_i hn;omega
end
end
end Go.Proofs.YtkimpcmkminffaaGreatDoor
