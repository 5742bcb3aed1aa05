/- Texts beside the shared ones. -/
import Derived.Test.YtkimpcmkminffaaGreatDoorNS
import Derived.Test.YtkimpcmkminffaaGreatDoorNA
import Derived.Test.YtkimpcmkminffaaGreatDoorNB
import Derived.Test.YtkimpcmkminffaaGreatDoorNC
import Derived.Test.YtkimpcmkminffaaGreatDoorNX
import Derived.Test.YtkimpcmkminffaaGreatDoorNI
import Derived.Test.YtkimpcmkminffaaGreatDoorND
import Derived.Test.YtkimpcmkminffaaGreatDoorNE
import Derived.Test.YtkimpcmkminffaaGreatDoorWXS
import Derived.Test.YtkimpcmkminffaaGreatDoorWX0
import Derived.Test.YtkimpcmkminffaaGreatDoorWM1
import Derived.Test.YtkimpcmkminffaaGreatDoorWM2
import Derived.Test.YtkimpcmkminffaaGreatDoorWCA
import Derived.Test.YtkimpcmkminffaaGreatDoorWM3
import Derived.Test.YtkimpcmkminffaaGreatDoorWM4
import Derived.Test.YtkimpcmkminffaaGreatDoorWM5
import Derived.Test.YtkimpcmkminffaaGreatDoorWM6
import Derived.Test.YtkimpcmkminffaaGreatDoorWM7
import Derived.Test.YtkimpcmkminffaaGreatDoorWM8
import Derived.Test.YtkimpcmkminffaaGreatDoorWM9
import Derived.Test.YtkimpcmkminffaaGreatDoorWFA
import Derived.Test.YtkimpcmkminffaaGreatDoorWFB
import Derived.Test.YtkimpcmkminffaaGreatDoorWFC
import Derived.Test.YtkimpcmkminffaaGreatDoorWOB
import Derived.Test.YtkimpcmkminffaaGreatDoorWZP
import Derived.Test.YtkimpcmkminffaaGreatDoorWZC
import Derived.Test.YtkimpcmkminffaaGreatDoorWZE
import Derived.Test.YtkimpcmkminffaaGreatDoorWOV
import Derived.Test.YtkimpcmkminffaaGreatDoorRows
import Derived.ProofKit
import Derived.OpenShut
import Derived.LaidMore
import Derived.Lay
import Derived.HandedShaped
import Derived.Shelf.Vars
import Derived.Stop.LaidErr
import Derived.Stop.Joined
namespace Go.Proofs.YtkimpcmkminffaaGreatDoor
open Go.ChangeShapes Go.WideShapes Go.ChangeAt Go.RowKit
open Go.RowKit
open _root_.List renaming drop_drop->iI
set_option maxRecDepth 100000
section
theorem wJ{H:Type}{enc:TypeId×Value->H}{P:Program}(hl:laidOutB P=true){W W':World}(hb:Below W.heap.size W W'){sp:Nat->Bool}:∀{ts:List TypeId} {vs:List Value} {ds:List (DataW H)} {ps:List MemPlace},
  DataW.TrodAll enc P W 0 (fun _=>true) true ts vs ds ps->(∀t∈ts,P.readableRec t=true/\t<P.types.size)->(∀x∈ps,x.block<W.heap.size)->(∀x∈ps,sp x.block=true)->DataW.TrodAll enc P W' 0 sp true ts vs ds ps
 |[],_,_,_,h,_,_,_=>by
  obtain⟨rfl,rfl,rfl⟩:=trodAll_nil h;exact rfl
 |t::ts,_,_,_,h,ht,hlt,hsp=>by
  obtain⟨v,vs1,d,ds1,a,b,rfl,rfl,rfl,h1,h2⟩:=trodAll_cons h;have t0:=ht t (by simp);exact⟨a,b,WideElems.Trod_stays hl t0.1 t0.2 h1 (fun x hx=>hb.same (hlt x (by simp[hx]))) (fun x hx=>hsp x (by simp[hx])),wJ hl hb h2 (fun u hu=>ht u (by simp[hu])) (fun x hx=>hlt x (by simp[hx])) (fun x hx=>hsp x (by simp[hx])),rfl⟩
theorem b8p{H:Type}{enc:TypeId×Value->H}{P:Program}{f:Func}{s:ChangeSpec}{W W':World}{args:Array Value}{ds:List (DataW H)}{before:List MemPlace}{tb:TypeId}
  (hl:laidOutB P=true) (htb:P.underlying tb=some .bool) (hrt:f.resultTypes= #[tb]) (hpar:∀t∈f.params.toList,P.readableRec t=true/\t<P.types.size) (hv:s.vars=[])
  (hW:DataW.Whole enc P f.params.toList s.vars false W args.toList ds [] before) (hfn:s.fn H (ds++[])={results:=[.lit (.bool true)],args:=ds}) (hb:Below W.heap.size W W'):
  s.post enc P f false true false false W args (.bool true) W':=by
 have hold:∀p∈before,p.block<W.heap.size:=fun p hp=>hW.lt p hp;have hW0:=hW;obtain⟨p,q,hA,hV,hpq,hz,hn⟩:=hW;rw[hv] at hV;obtain⟨_,rfl⟩:=trodVars_none hV;have hbp:before=p:=(by simpa using hpq);subst hbp;have hargs:∀sp:Nat->Bool,(∀x∈before,sp x.block=true)->DataW.TrodAll enc P W' 0 sp true f.params.toList args.toList (s.fn H (ds++[])).args before:=fun sp hsp=>by
  rw[hfn];exact wJ hl hb hA hpar hold hsp
 have hres:∀(b:Nat) (sp:Nat->Bool) (hd:Bool),DataW.TrodAll enc P W' b sp hd f.resultTypes.toList ((Value.bool true).resultList f.resultTypes.size) (s.fn H (ds++[])).results []:=fun b sp hd=>by
  rw[hfn,hrt];exact trodAll_mk1 (shut_bool htb _)
 have hvars:∀sp:Nat->Bool,DataW.TrodVars enc P W' sp s.vars (s.fn H (ds++[])).vars []:=fun sp=>by
  rw[hfn,hv];exact rfl
 refine⟨ds,[],before,[],before,[],hW0,hres _ _ _,hargs _ (fun x hx=>by simpa using hold x hx),hvars _,hb.frame _,fun _=>?_⟩;refine⟨ok_one hrt rfl (okWide_bool_mk htb _),_,_,([]++before)++[],⟨[]++before,[],trodAll_append (hargs _ (fun _ _=>rfl)) (hres _ _ _),hvars _,rfl,?_,?_⟩,?_⟩
 ·intro b off hp;have hp':MemPlace.cell b off∈before:=(by simpa using hp);rw[hb.frozen (p:=⟨b,off,none⟩) (hold _ hp')];exact hz b off hp'
 ·intro ha;cases ha
 ·intro x hx _;simpa using hx
theorem laidOut:laidOutB Tryz.prog=true:=by kernel_rfl
def b2j:List (String×DataW Unit):=[("math/bits.deBruijn32tab",Rows.laid_math_bits_deBruijn32tab),("math/bits.deBruijn64tab",Rows.laid_math_bits_deBruijn64tab),("internal/strconv.uint64pow10",Rows.laid_internal_strconv_uint64pow10),("unicode/utf8.acceptRanges",Rows.laid_unicode_utf8_acceptRanges),("strconv.ErrRange",Rows.laid_strconv_ErrRange),("strconv.ErrSyntax",Rows.laid_strconv_ErrSyntax),("unicode/utf8.first",Rows.laid_unicode_utf8_first)]
theorem a9l{P:Program}{n nm:String}{d:DataW Unit}{r:List (String×DataW Unit)}{W:World}{g:Nat}{ti:TypeId}{ms:Array (String×TypeId)}
  (h:laidMet P ((n,.iface nm d)::r) W) (hg:P.globalNamed n=some g) (ht:(P.globals[g]?).map (·.type)=some ti) (hi:P.underlying ti=some (.interface ms)):∃u v,W.var? P n=some #[.iface u v]:=by
 obtain⟨ps,⟨g0,t0,cs0,f0,p0,q0,hg0,ht0,hv0,hd0,_,_⟩,_,_⟩:=h;obtain rfl:=Option.some.inj (hg.symm.trans hg0);obtain rfl:=Option.some.inj (ht.symm.trans ht0);obtain⟨f1,u,v,hcs,_,_⟩:=iface_of_trod hi hd0;obtain⟨l0⟩:=cs0;simp only at hcs;subst hcs;exact⟨u,v,hv0⟩
theorem d1r:(Tryz.prog.globals[1]?).map (·.type)=some 234:=by kernel_rfl
theorem d1s:(Tryz.prog.globals[2]?).map (·.type)=some 234:=by kernel_rfl
theorem d1t:(Tryz.prog.globals[3]?).map (·.type)=some 305:=by kernel_rfl
theorem c3f:(Rows.laid_internal_strconv_uint64pow10:DataW Unit)=Lib.tabData .u64 Lib.pow10Tab:=by kernel_rfl
theorem c3o{W:World}(h:laidMetH Tryz.prog b2j W)(hsh:W.ShapedOpen Tryz.prog):nD W:=by
 rw[MakeChecks.laidMetH_plain _ _ _ (by kernel_rfl)] at h;unfold b2j at h;have h2:=h.tail.tail;have h4:=h2.tail.tail;have h5:=h4.tail;rw[c3f] at h2;exact{
  pow:=Lib.tabIs_of_head c9z d1t Tryz.underlying305 Tryz.underlying218 (by kernel_rfl) (by kernel_rfl) h2
  most:=cell_of_shapedOpen_int hsh (of_decide_eq_true (by kernel_rfl)) (t:=3) (zero:= #[.int .i64 0]) (by kernel_rfl) rfl (by kernel_rfl) (by kernel_rfl) Tryz.underlying3
  syn:=a9l h5 c9x d1r Tryz.underlying234
  rng:=a9l h4 c9y d1s Tryz.underlying234}
end
section
end
section
end
section
end
section
end
section
end
section
theorem Rest.app{ts:List Tok}{k:Nat}{l m:List kG}(h:Rest ts k (l++m)):Rest ts (k+l.length) m:=by
 unfold Rest at h⊢;rw[<-iI,h,List.drop_left]
theorem Rest.tail{ts:List Tok}{k:Nat}{b:kG}{m:List kG}(h:Rest ts k (b::m)):Rest ts (k+1) m:=Rest.app (l:=[b]) h
def c5v(j:Nat)(b:kG):Bool:=(dZ j).all (fun o=> !bIs b (bI o))&&(j != 3|| !bIs b sIs)
end
section
end
section
end
section
end
section
end
end Go.Proofs.YtkimpcmkminffaaGreatDoor
