/- Texts beside the shared ones. -/
import Derived.Test.YtohlomdapelgeaaGreatDoorCS
import Derived.Test.YtohlomdapelgeaaGreatDoorCA
import Derived.Test.YtohlomdapelgeaaGreatDoorCB
import Derived.Test.YtohlomdapelgeaaGreatDoorCC
import Derived.Test.YtohlomdapelgeaaGreatDoorCD
import Derived.Test.YtohlomdapelgeaaGreatDoorCE
import Derived.Test.YtohlomdapelgeaaGreatDoorCF
import Derived.Test.YtohlomdapelgeaaGreatDoorCG
import Derived.Test.YtohlomdapelgeaaGreatDoorCI
import Derived.Test.YtohlomdapelgeaaGreatDoorCJ
import Derived.Test.YtohlomdapelgeaaGreatDoorCK
import Derived.Test.YtohlomdapelgeaaGreatDoorCL
import Derived.Test.YtohlomdapelgeaaGreatDoorCM
import Derived.Test.YtohlomdapelgeaaGreatDoorCN
import Derived.Test.YtohlomdapelgeaaGreatDoorCO
import Derived.Test.YtohlomdapelgeaaGreatDoorCP
import Derived.Test.YtohlomdapelgeaaGreatDoorCQ
import Derived.Test.YtohlomdapelgeaaGreatDoorCR
import Derived.Test.YtohlomdapelgeaaGreatDoorDA
import Derived.Test.YtohlomdapelgeaaGreatDoorDB
import Derived.Test.YtohlomdapelgeaaGreatDoorDC
import Derived.Test.YtohlomdapelgeaaGreatDoorDD
import Derived.Test.YtohlomdapelgeaaGreatDoorDE
import Derived.Test.YtohlomdapelgeaaGreatDoorDF
import Derived.Test.YtohlomdapelgeaaGreatDoorDG
import Derived.Test.YtohlomdapelgeaaGreatDoorDH
import Derived.Test.YtohlomdapelgeaaGreatDoorDI
import Derived.Test.YtohlomdapelgeaaGreatDoorDJ
import Derived.Test.YtohlomdapelgeaaGreatDoorDK
import Derived.Test.YtohlomdapelgeaaGreatDoorDL
import Derived.Test.YtohlomdapelgeaaGreatDoorDM
import Derived.Test.YtohlomdapelgeaaGreatDoorDN
import Derived.Test.YtohlomdapelgeaaGreatDoorDO
import Derived.Test.YtohlomdapelgeaaGreatDoorDP
import Derived.Test.YtohlomdapelgeaaGreatDoorDQ
import Derived.Test.YtohlomdapelgeaaGreatDoorDR
import Derived.Test.YtohlomdapelgeaaGreatDoorDV
import Derived.Test.YtohlomdapelgeaaGreatDoorDW
import Derived.Lib.Replace
import Derived.Lib.ReplaceLaws
import Derived.Lib.CountLaws
import Derived.Lib.Strings
import GoSem.Core.Utf8
import Derived.Lib.Bytealg
import Derived.Lib.SlTrimSet
import Derived.Laws.Entries
import Derived.Lib.ParseIntB
import Derived.Lib.ItoaMem
import Derived.Lib.ItoaLen
import Derived.Lib.Hide
import Derived.Deep.QuietTactic
import Derived.BigQuiet
import Derived.BigRegion
import Derived.RegionTactic
import Derived.Test.YtohlomdapelgeaaGreatDoorRows
import Derived.ProofKit
import Derived.OpenShut
import Derived.LaidMore
import Derived.Lay
import Derived.HandedShaped
import Derived.Shelf.Vars
import Derived.Stop.LaidErr
import Derived.Stop.Joined
namespace Go.Proofs.YtohlomdapelgeaaGreatDoor
open _root_.Go.Proofs.Tryz
open Go.RowKit
open Go.ChangeShapes Go.WideShapes Go.ChangeAt Go.RowKit
open _root_.List renaming append_assoc->iK,drop_drop->iI,drop_eq_getElem_cons->aZ,getElem?_eq_some_iff->aO,mem_cons->dD,take_add_one->dN
set_option maxRecDepth 100000
section
end
section
end
section
end
section
def dvA(a:Nat)(l:List UInt8):Nat:=l.foldl (fun a c=>a * 10+(c.toNat-48)) a
def decN(l:List UInt8):Nat:=dvA 0 l
theorem b7e(l:List UInt8)(c:UInt8):decN (l++[c])=decN l * 10+(c.toNat-48):=by simp[decN,dvA]
end
section
variable {parse:List UInt8->Option (Int×Int×List UInt8)}
end
section
variable {parse:List UInt8->Option (Int×Int×List UInt8)}
end
section
def Yes(w:World)(e:Ending)(w':World):Prop:=e= .returned (.bool true)/\Bl w w'
end
section
end
section
end
section
theorem a8k{d:List UInt8}{k:Nat}{c:UInt8}(h:d[k]?=some c):decN (d.take (k+1))=decN (d.take k) * 10+(c.toNat-48):=by
 rw[dN,h];exact b7e _ _
theorem over{d:List UInt8}{k v:Nat}{c:UInt8}(h:d[k]?=some c)(hv:decN (d.take k)=v)(h1:48<=c.toNat)(h2:c.toNat<=57)(ho: -(v:Int)<(-9223372036854775808+((c.toNat:Int)-48)).tdiv 10):9223372036854775808<decN (d.take (k+1)):=by
 rw[a8k h,hv];have hq:=c1q (c.toNat-48) aE;rw[show((c.toNat-48:Nat):Int)=(c.toNat:Int)-48 by omega] at hq;rw[hq] at ho;omega
end
section
end
section
end
section
end
section
theorem SkF.blank{l:List UInt8}{k j:Nat}(h:SkF l k j false){c:UInt8}(hc:l[j]?=some c)(hb:iR c=true):SkF l k (j+1) false:=by
 have hj:=(aO.1 hc).1;refine⟨by have:=h.1;omega,by omega,?_⟩;rw[<-h.2.2,aZ hj,vI,(aO.1 hc).2,if_pos hb]
end
section
end
section
end
section
end
section
end
section
end
section
end
section
end
section
end
section
end
section
theorem nZ(r:List UInt8):bt (32::r)=bt r:=by
 unfold bt;rw[rF 0 (32::r) r (by rw[vI,if_pos ae])]
end
section
theorem d1b(o:Option (List kG))(a b:List kG):(o.map (b++·)).map (a++·)=o.map ((a++b)++·):=by
 cases o<;>simp
end
section
theorem Rest.app{ts:List Tok}{k:Nat}{l m:List kG}(h:Rest ts k (l++m)):Rest ts (k+l.length) m:=by
 unfold Rest at h⊢;rw[<-iI,h,List.drop_left]
theorem Rest.tail{ts:List Tok}{k:Nat}{b:kG}{m:List kG}(h:Rest ts k (b::m)):Rest ts (k+1) m:=Rest.app (l:=[b]) h
def c5v(j:Nat)(b:kG):Bool:=(dZ j).all (fun o=> !bIs b (bI o))&&(j != 3|| !bIs b sIs)
end
section
end
section
end
section
end
section
end
section
mutual
theorem c2s(lim:Nat):∀(most:Nat) (x:Ex),partsV lim most x<=most->fC x=partsV lim most x/\c0t lim x
 |most,.mk k v t n o args,h=>by
  simp only[partsV] at h⊢;split at h
  ·omega
  ·rename_i hb;rw[if_neg hb];obtain⟨h1,h2⟩:=c1r lim most 1 args h;simp only[fC];exact⟨h1,.mk k v t n o args (by simpa using hb) h2⟩
theorem c1r(lim:Nat):∀(most n:Nat) (l:List Ex),pVs lim most n l<=most->n+fF l=pVs lim most n l/\∀y,y∈l->c0t lim y
 |most,n,[],h=>by simp[pVs,fF]
 |most,n,y::l,h=>by
  simp only[pVs] at h⊢;split at h
  ·rename_i hn;rw[if_pos hn];obtain⟨h1,h2⟩:=c1r lim most _ l h;have hm:partsV lim (most-n) y<=most-n:=by
    have:=(c9o lim (most-n) y).1;omega
   obtain⟨h3,h4⟩:=c2s lim (most-n) y hm;simp only[fF];refine⟨by omega,fun z hz=>?_⟩;rcases dD.1 hz with rfl|hz
   ·exact h4
   ·exact h2 z hz
  ·rename_i hn;omega
end
end
section
theorem d6j{α:Type}{F:Form α}{p:Nat->Prop}{W:World}{a:Option Addr}{cap n:Nat}{l:List α}(h:d2p F p W (.slice a n cap) l):∀j,(hj:j<l.length)->∃b off s,a=some ⟨b,off,none⟩/\b<W.heap.size/\d2k W b (off+j * F.n) (F.cells l[j] s)/\bG p W s (F.ex l[j]).args:=fun j hj=>by
 obtain⟨a',cap',e,h⟩:=h.shape;obtain⟨b,off,s,ea,-,hb,hc,hr⟩:=h j hj;injection e with e1 e2 e3;exact⟨b,off,s,e1.trans ea,hb,hc,hr⟩
end
section
theorem wJ{H:Type}{enc:TypeId×Value->H}{P:Program}(hl:laidOutB P=true){W W':World}(hb:Below W.heap.size W W'){sp:Nat->Bool}:∀{ts:List TypeId} {vs:List Value} {ds:List (DataW H)} {ps:List MemPlace},
  DataW.TrodAll enc P W 0 (fun _=>true) true ts vs ds ps->(∀t∈ts,P.readableRec t=true/\t<P.types.size)->(∀x∈ps,x.block<W.heap.size)->(∀x∈ps,sp x.block=true)->DataW.TrodAll enc P W' 0 sp true ts vs ds ps
 |[],_,_,_,h,_,_,_=>by
  obtain⟨rfl,rfl,rfl⟩:=trodAll_nil h;exact rfl
 |t::ts,_,_,_,h,ht,hlt,hsp=>by
  obtain⟨v,vs1,d,ds1,a,b,rfl,rfl,rfl,h1,h2⟩:=trodAll_cons h;have t0:=ht t aa;exact⟨a,b,WideElems.Trod_stays hl t0.1 t0.2 h1 (fun x hx=>hb.same (hlt x (by simp[hx]))) (fun x hx=>hsp x (by simp[hx])),wJ hl hb h2 (fun u hu=>ht u (by simp[hu])) (fun x hx=>hlt x (by simp[hx])) (fun x hx=>hsp x (by simp[hx])),rfl⟩
theorem b8p{H:Type}{enc:TypeId×Value->H}{P:Program}{f:Func}{s:ChangeSpec}{W W':World}{args:Array Value}{ds:List (DataW H)}{before:List MemPlace}{tb:TypeId}
  (hl:laidOutB P=true) (htb:P.underlying tb=some .bool) (hrt:f.resultTypes= #[tb]) (hpar:∀t∈f.params.toList,P.readableRec t=true/\t<P.types.size) (hv:s.vars=[])
  (hW:DataW.Whole enc P f.params.toList s.vars false W args.toList ds [] before) (hfn:s.fn H (ds++[])={results:=[.lit (.bool true)],args:=ds}) (hb:Below W.heap.size W W'):
  s.post enc P f false true false false W args (.bool true) W':=by
 have hold:∀p∈before,p.block<W.heap.size:=fun p hp=>hW.lt p hp;have hW0:=hW;obtain⟨p,q,hA,hV,hpq,hz,hn⟩:=hW;rw[hv] at hV;obtain⟨_,rfl⟩:=trodVars_none hV;have hbp:before=p:=(by simpa using hpq);subst hbp;have hargs:∀sp:Nat->Bool,(∀x∈before,sp x.block=true)->DataW.TrodAll enc P W' 0 sp true f.params.toList args.toList (s.fn H (ds++[])).args before:=fun sp hsp=>by
  rw[hfn];exact wJ hl hb hA hpar hold hsp
 have hres:∀(b:Nat) (sp:Nat->Bool) (hd:Bool),DataW.TrodAll enc P W' b sp hd f.resultTypes.toList ((Value.bool true).resultList f.resultTypes.size) (s.fn H (ds++[])).results []:=fun b sp hd=>by
  rw[hfn,hrt];exact trodAll_mk1 (shut_bool htb _)
 have hvars:∀sp:Nat->Bool,DataW.TrodVars enc P W' sp s.vars (s.fn H (ds++[])).vars []:=fun sp=>by
  rw[hfn,hv];exact rfl
 refine⟨ds,[],before,[],before,[],hW0,hres _ _ _,hargs _ (fun x hx=>by simpa using hold x hx),hvars _,hb.frame _,fun _=>?_⟩;refine⟨ok_one hrt rfl (okWide_bool_mk htb _),_,_,([]++before)++[],⟨[]++before,[],trodAll_append (hargs _ (fun _ _=>rfl)) (hres _ _ _),hvars _,rfl,?_,?_⟩,?_⟩
 ·intro b off hp;have hp':MemPlace.cell b off∈before:=(by simpa using hp);rw[hb.frozen (p:=⟨b,off,none⟩) (hold _ hp')];exact hz b off hp'
 ·intro ha;cases ha
 ·intro x hx _;simpa using hx
theorem laidOut:laidOutB Tryz.prog=true:=by kernel_rfl
def b2j:List (String×DataW Unit):=[("math/bits.deBruijn32tab",Rows.laid_math_bits_deBruijn32tab),("math/bits.deBruijn64tab",Rows.laid_math_bits_deBruijn64tab),("internal/strconv.uint64pow10",Rows.laid_internal_strconv_uint64pow10),("unicode/utf8.acceptRanges",Rows.laid_unicode_utf8_acceptRanges),("strconv.ErrRange",Rows.laid_strconv_ErrRange),("strconv.ErrSyntax",Rows.laid_strconv_ErrSyntax),("unicode/utf8.first",Rows.laid_unicode_utf8_first)]
theorem a9l{P:Program}{n nm:String}{d:DataW Unit}{r:List (String×DataW Unit)}{W:World}{g:Nat}{ti:TypeId}{ms:Array (String×TypeId)}
  (h:laidMet P ((n,.iface nm d)::r) W) (hg:P.globalNamed n=some g) (ht:(P.globals[g]?).map (·.type)=some ti) (hi:P.underlying ti=some (.interface ms)):∃u v,W.var? P n=some #[.iface u v]:=by
 obtain⟨ps,⟨g0,t0,cs0,f0,p0,q0,hg0,ht0,hv0,hd0,_,_⟩,_,_⟩:=h;obtain rfl:=Option.some.inj (hg.symm.trans hg0);obtain rfl:=Option.some.inj (ht.symm.trans ht0);obtain⟨f1,u,v,hcs,_,_⟩:=iface_of_trod hi hd0;obtain⟨l0⟩:=cs0;simp only at hcs;subst hcs;exact⟨u,v,hv0⟩
theorem d1r:(Tryz.prog.globals[4]?).map (·.type)=some 186:=by kernel_rfl
theorem d1s:(Tryz.prog.globals[5]?).map (·.type)=some 186:=by kernel_rfl
theorem d1t:(Tryz.prog.globals[1]?).map (·.type)=some 327:=by kernel_rfl
theorem c3f:(Rows.laid_internal_strconv_uint64pow10:DataW Unit)=Lib.tabData .u64 Lib.pow10Tab:=by kernel_rfl
theorem c3o{W:World}(h:laidMetH Tryz.prog b2j W)(hsh:W.ShapedOpen Tryz.prog):nD W:=by
 rw[MakeChecks.laidMetH_plain _ _ _ af] at h;unfold b2j at h;have h2:=h.tail.tail;have h4:=h2.tail.tail;have h5:=h4.tail;rw[c3f] at h2;exact{
  pow:=Lib.tabIs_of_head c9z d1t underlying327 underlying290 af af h2
  most:=cell_of_shapedOpen_int hsh (of_decide_eq_true af) (t:=3) (zero:= #[.int .i64 0]) af rfl af af underlying3
  syn:=a9l h5 c9x d1r underlying186
  rng:=a9l h4 c9y d1s underlying186}
end
section
theorem Lx.app{s t:List UInt8}{a b:List kG}(h:Lx s a)(k:Lx t b)(ht:∀r,yL r->yL (t++r)):Lx (s++t) (a++b):=fun r hr=>by
 rw[iK,h _ (ht r hr),k r hr,d1b]
theorem Lx.blank{s:List UInt8}{a:List kG}(h:Lx s a):Lx (32::s) a:=fun r hr=>by
 show bt (32::(s++r))=_;rw[nZ,h r hr]
theorem Lx.then{s t:List UInt8}{a b:List kG}(h:Lx s a)(k:Lx t b):Lx (s++32::t) (a++b):=h.app k.blank fun r _=>end_blank t r
end
section
theorem Opt.app{s o:List UInt8}{a l:List kG}(h:Opt s a)(ho:Opt o l):Opt (s++o) (a++l):=by
 refine⟨h.1.app ho.1 ho.2.fin,?_⟩;rcases h.2 with e|⟨r,e⟩
 ·subst e;exact ho.2
 ·exact .inr ⟨r++o,by rw[e];rfl⟩
end
end Go.Proofs.YtohlomdapelgeaaGreatDoor
