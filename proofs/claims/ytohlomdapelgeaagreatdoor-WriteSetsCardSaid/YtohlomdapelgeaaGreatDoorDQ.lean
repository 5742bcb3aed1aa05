/- Texts TL TR. -/
import Derived.Test.YtohlomdapelgeaaGreatDoorDP
import Derived.Test.YtohlomdapelgeaaGreatDoorDI
import Derived.Test.YtohlomdapelgeaaGreatDoorCR
namespace Go.Proofs.YtohlomdapelgeaaGreatDoor
open _root_.Go.Proofs.Tryz
open Go.RowKit
open _root_.Bool renaming and_eq_true->aQ,false_eq_true->fM
open _root_.List renaming all_eq_true->jA
set_option maxRecDepth 100000
section
theorem so_named{s:So}(h:d4c s=true):s.t≠[]:=by
 unfold d4c at h;simp only[aQ] at h;exact name_some h.1
theorem sets_ok{l:List St}(h:setsB l=true)(hz:∀x∈l,StSz x):l≠[]/\∀x∈l,StOK x:=by
 unfold setsB at h;simp only[aQ,decide_eq_true_eq,jA] at h;refine⟨fun e=>by rw[e] at h;simp at h,fun x hx=>⟨(h.2 x hx).1,(h.2 x hx).2,(hz x hx).x⟩⟩
theorem row_ok{l:List Ex}(h:rowB l=true)(hz:∀x∈l,e0m x):l≠[]/\∀x∈l,e0m x/\eH x=true:=by
 unfold rowB at h;simp only[aQ,decide_eq_true_eq,jA] at h;refine⟨fun e=>by rw[e] at h;simp at h,fun x hx=>⟨hz x hx,h.2 x hx⟩⟩
theorem names_ne{l:List (List UInt8)}(h:namesB l 1=true):l≠[]:=by
 unfold namesB at h;simp only[aQ,decide_eq_true_eq] at h;intro e;rw[e] at h;simp at h
theorem wn_t{x:Wn}(h:WnSz x)(hr:rightWn x=true)(ht:(whenW x).length<=100000000):WnT x:=by
 rw[right_act] at hr;simp only[aQ] at hr;refine⟨h.cond,hr.1,?_,h.ls,h.lc,h.lv,ht⟩;have ha:=hr.2;unfold actB at ha;split at ha
 ·exact .inl (by assumption)
 split at ha
 ·simp only[aQ] at ha;exact .inr (.inl ⟨by assumption,sets_ok ha.1.1.2 h.sets⟩)
 split at ha
 ·exact .inr (.inr (.inl (by assumption)))
 split at ha
 ·simp only[aQ] at ha;exact .inr (.inr (.inr ⟨by assumption,row_ok ha.2 h.vals⟩))
 ·cases ha
theorem wr_t{w:Wr}(h:WrSz w)(hr:rightW w=true)(ht:(textW w).length<=99999990):WrT w:=by
 unfold rightW at hr;simp only[aQ,decide_eq_true_eq] at hr;obtain⟨⟨⟨⟨⟨⟨hk1,hk4⟩,hso⟩,hret⟩,hc1⟩,hq⟩,hc4⟩:=hr.1;have hkk:=hr.2;have hi:=so_named hso;have hret':w.ret=[]\/(w.ret≠[]/\d4l w.ret=true):=by
  by_cases h0:w.ret=[]
  ·exact .inl h0
  ·refine .inr ⟨h0,?_⟩;have:w.ret.isEmpty=false:=by
    cases hr:w.ret with
    |nil=>exact absurd hr h0
    |cons=>rfl
   rw[this,Bool.false_or] at hret;exact hret
 refine⟨?_,hret',h.ret,h.lt,ht⟩;by_cases h1:w.kind=1
 ·left;rw[if_pos h1] at hkk;unfold rightIn at hkk;simp only[aQ] at hkk;obtain⟨⟨⟨hcols,hrow⟩,hall⟩,hact⟩:=hkk;have hall:=jA.1 hall;refine⟨h1,hi,?_,?_,h.lr,h.lc,h.lf,h.ls⟩
  ·cases hh:w.hasQ
   ·rw[hh] at hrow;simp only[fM,if_false,aQ,decide_eq_true_eq] at hrow;refine .inr ⟨rfl,fun e=>by rw[e] at hrow;simp at hrow,fun r hr=>?_⟩;have:=row_ok (hall r hr) (h.rows r hr).2;exact⟨this.1,(h.rows r hr).1,this.2⟩
   ·rw[hh] at hrow;simp only[if_true,aQ] at hrow;exact .inl ⟨rfl,by simpa using hrow.2,h.query,hrow.1⟩
  ·split at hact
   ·simp only[aQ] at hact;exact .inl ⟨by assumption,by simpa using hact.1.1⟩
   split at hact
   ·simp only[aQ] at hact;exact .inr (.inl ⟨by assumption,names_ne hact.1.1⟩)
   split at hact
   ·simp only[aQ] at hact;have:=sets_ok hact.1.2 h.sets;exact .inr (.inr ⟨by assumption,names_ne hact.1.1,this.1,this.2,h.wher,hact.2⟩)
   ·cases hact
 rw[if_neg h1] at hkk;by_cases h2:w.kind=2
 ·rw[if_pos h2] at hkk;simp only[aQ] at hkk;have:=sets_ok hkk.1 h.sets;exact .inr (.inl ⟨h2,hi,this.1,this.2,h.wher,hkk.2,h.ls⟩)
 rw[if_neg h2] at hkk;by_cases h3:w.kind=3
 ·rw[if_pos h3] at hkk;simp only[aQ] at hkk;exact .inr (.inr (.inl ⟨h3,hi,h.wher,hkk.2⟩))
 rw[if_neg h3] at hkk;simp only[aQ,decide_eq_true_eq] at hkk;obtain⟨⟨⟨⟨⟨⟨hw,-⟩,-⟩,hu⟩,hon⟩,hl1⟩,-⟩:=hkk;have hw:=jA.1 hw;exact .inr (.inr (.inr ⟨by omega,hi,so_named hu,h.on,hon,fun e=>by rw[e] at hl1;simp at hl1,fun x hx ht=>wn_t (h.whens x hx) (hw x hx) ht,h.lw⟩))
section
variable {w:Wr} {p:Nat->Prop} {s:SlW}
theorem zText_yes(h:WrSz w)(hQ:w.hasQ=true->QCk w.query/\QTx w.query)(hr:rightW w=true)(ht:(textW w).length<=99999990)(W:World)(hp:PartsW p W w s)(hG:nD W):eg 10 #[.agg (cWr w s).toArray] W fun e w'=>e= .returned (.tuple #[S (textW w),.int .i64 0])/\Bl W w':=
 zText_of (wr_t h hr ht) (fun e=>(hQ e).2) W hp hG fun v hb=>by
  have h1:=zCheck_any h (fun e=>(hQ e).1) v (hp.bl hb) (hG.bl hb);rw[hr] at h1;exact h1
end
end
section
def noQB(s:List UInt8):Bool:=match jQ s with
 |none=>true
 |some ts=>(bH (ts++[eT s.length]) 0 [wInsert,wInto]).isNone||match writeR (ts++[eT s.length]) 0 with
  | .good _ w=> !w.hasQ
  | .bad _=>false
theorem noQ_of{s:List UInt8}(h:noQB s=true):∀ts,jQ s=some ts->QRd (ts++[eT s.length]) 0:=by
 intro ts ht k1 k2 k into cols h1 h2 h3 h4;exfalso;unfold noQB at h;rw[ht] at h;simp only[h1,Option.isNone_some,Bool.false_or] at h;unfold writeR begunR at h;simp only[h1,h2,d2u.bind] at h;rw[if_pos trivial] at h;unfold insertR at h;simp only[h3,h4,d2u.bind] at h;cases hq:d5c (ts++[eT s.length]) k with
 |bad c=>simp only[hq,fM] at h
 |good k3 q=>
  simp only[hq] at h;cases hc:conflictR (ts++[eT s.length]) k3 with
  |bad c=>simp only[hc,fM] at h
  |good k4 pc=>
   simp only[hc] at h;cases hr:returningR (ts++[eT s.length]) k4 with
   |bad c=>simp only[hr,fM] at h
   |good k5 l=>simp only[hr,Bool.not_true,fM] at h
end
end Go.Proofs.YtohlomdapelgeaaGreatDoor
