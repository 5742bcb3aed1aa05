/- Texts N1 QZ N2 SN SA TI SQ. -/
import Derived.Test.YtohlomdapelgeaaGreatDoorCC
import Derived.Test.YtohlomdapelgeaaGreatDoorCG
import Derived.Test.YtohlomdapelgeaaGreatDoorCD
namespace Go.Proofs.YtohlomdapelgeaaGreatDoor
open Go.RowKit
open _root_.Array renaming getElem?_eq_some_iff->aC
open _root_.Bool renaming and_eq_true->aQ,eq_iff_iff->kC
open _root_.List renaming all_eq_true->jA,eq_nil_of_length_eq_zero->lM,getElem?_eq_getElem->aP,getElem?_eq_some_iff->aO,getElem?_map->iJ,length_append->bD,length_cons->aX,length_nil->bL,mem_of_getElem?->dJ
open _root_.Nat renaming le_refl->aH,lt_of_lt_of_le->gK,zero_add->gD,zero_le->dL
open _root_.Option renaming map_eq_some_iff->aT
set_option maxRecDepth 100000
section
structure St where
 n:List UInt8
 x:Ex
structure Wn where
 matched:Bool
 cond:Ex
 act:Int
 sets:List St
 cols:List (List UInt8)
 vals:List Ex
structure Wr where
 kind:Int
 into:So
 cols:List (List UInt8)
 rows:List (List Ex)
 hasQ:Bool
 query:Qu
 conf:List (List UInt8)
 act:Int
 sets:List St
 wher:Ex
 using':So
 on:Ex
 whens:List Wn
 ret:List It
def zeroW:Wr:=⟨0,⟨[],[]⟩,[],[],false,d3z,[],0,[],zeroE,⟨[],[]⟩,zeroE,[],[]⟩
def wInsert:List UInt8:=[105,110,115,101,114,116]
def wInto:List UInt8:=[105,110,116,111]
def wUpdate:List UInt8:=[117,112,100,97,116,101]
def wDelete:List UInt8:=[100,101,108,101,116,101]
def wMerge:List UInt8:=[109,101,114,103,101]
def wSet:List UInt8:=[115,101,116]
def wValues:List UInt8:=[118,97,108,117,101,115]
def wConflict:List UInt8:=[99,111,110,102,108,105,99,116]
def wDo:List UInt8:=[100,111]
def wNothing:List UInt8:=[110,111,116,104,105,110,103]
def wUsing:List UInt8:=[117,115,105,110,103]
def wWhen:List UInt8:=[119,104,101,110]
def wMatched:List UInt8:=[109,97,116,99,104,101,100]
def wThen:List UInt8:=[116,104,101,110]
def wAnd:List UInt8:=[97,110,100]
def needR(ts:List Tok)(k:Nat)(l:List (List UInt8)):d2u Unit:=match bH ts k l with
 |none=> .bad 261
 |some k'=> .good k' ()
def nameRW(ts:List Tok)(k:Nat):d2u (List UInt8):=match mM ts k with
 |none=> .bad 261
 |some (n,k')=> .good k' n
def parenR{α:Type}(ts:List Tok)(one:Nat->d2u α)(k:Nat):d2u (List α):=(needR ts k [[40]]).bind fun k1 _=>(d3o ts one ts.length k1 []).bind fun k2 l=>(needR ts k2 [[41]]).bind fun k3 _=> .good k3 l
def namesR(ts:List Tok)(must:Bool)(k:Nat):d2u (List (List UInt8)):=match bH ts k [[40]] with
 |none=>if must then .bad 261 else .good k []
 |some _=>parenR ts (nameRW ts) k
def rowR(ts:List Tok)(k:Nat):d2u (List Ex):=parenR ts (d3j ts) k
def setR(ts:List Tok)(k:Nat):d2u St:=(nameRW ts k).bind fun k1 n=>(needR ts k1 [[61]]).bind fun k2 _=>(d3j ts k2).bind fun k3 x=> .good k3 ⟨n,x⟩
def setsR(ts:List Tok)(k:Nat):d2u (List St):=(needR ts k [wSet]).bind fun k1 _=>d3o ts (setR ts) ts.length k1 []
def doR(ts:List Tok)(k:Nat):d2u (Int×List St×Ex):=match bH ts k [wDo,wNothing] with
 |some k1=> .good k1 (1,[],zeroE)
 |none=>(needR ts k [wDo,wUpdate]).bind fun k1 _=>(setsR ts k1).bind fun k2 l=>(d3s ts d6o k2).bind fun k3 x=> .good k3 (2,l,x)
def conflictR(ts:List Tok)(k:Nat):d2u (List (List UInt8)×Int×List St×Ex):=match bH ts k [wOn,wConflict] with
 |none=> .good k ([],0,[],zeroE)
 |some k1=>(namesR ts true k1).bind fun k2 c=>(doR ts k2).bind fun k3 p=> .good k3 (c,p)
def insertR(ts:List Tok)(into:So)(k:Nat):d2u Wr:=(namesR ts false k).bind fun k1 cols=>match bH ts k1 [wValues] with
 |some k2=>(d3o ts (rowR ts) ts.length k2 []).bind fun k3 rows=>(conflictR ts k3).bind fun k4 p=> .good k4 ⟨1,into,cols,rows,false,d3z,p.1,p.2.1,p.2.2.1,p.2.2.2,⟨[],[]⟩,zeroE,[],[]⟩
 |none=>(d5c ts k1).bind fun k3 q=>(conflictR ts k3).bind fun k4 p=> .good k4 ⟨1,into,cols,[],true,q,p.1,p.2.1,p.2.2.1,p.2.2.2,⟨[],[]⟩,zeroE,[],[]⟩
def whenR(ts:List Tok)(k:Nat):d2u Wn:=
 let m:=(bH ts k [rW]).isNone
 (needR ts ((bH ts k [rW]).getD k) [wMatched]).bind fun k1 _=>(d3s ts wAnd k1).bind fun k2 c=>(needR ts k2 [wThen]).bind fun k3 _=>
  match bH ts k3 [wDo,wNothing] with
  |some k4=> .good k4 ⟨m,c,1,[],[],[]⟩
  |none=>match(if m then bH ts k3 [wUpdate] else none) with
   |some k4=>(setsR ts k4).bind fun k5 l=> .good k5 ⟨m,c,2,l,[],[]⟩
   |none=>match(if m then bH ts k3 [wDelete] else none) with
    |some k4=> .good k4 ⟨m,c,3,[],[],[]⟩
    |none=>if m then .bad 261 else(needR ts k3 [wInsert]).bind fun k4 _=>(namesR ts false k4).bind fun k5 cols=>(needR ts k5 [wValues]).bind fun k6 _=>(rowR ts k6).bind fun k7 l=> .good k7 ⟨m,c,4,[],cols,l⟩
def whensR(ts:List Tok):Nat->Nat->List Wn->d2u (List Wn)
 |0,_,_=> .bad 0
 |f+1,k,acc=>(whenR ts k).bind fun k1 x=>match bH ts k1 [wWhen] with
  |some k2=>whensR ts f k2 (acc++[x])
  |none=> .good k1 (acc++[x])
def mergeR(ts:List Tok)(into:So)(k:Nat):d2u Wr:=(needR ts k [wUsing]).bind fun k1 _=>(d3b ts k1).bind fun k2 u=>(needR ts k2 [wOn]).bind fun k3 _=>(d3j ts k3).bind fun k4 x=>(needR ts k4 [wWhen]).bind fun k5 _=>
 (whensR ts ts.length k5 []).bind fun k6 l=> .good k6 ⟨4,into,[],[],false,d3z,[],0,[],zeroE,u,x,l,[]⟩
def begunR(ts:List Tok)(k:Nat):Option (Nat×Int):=match bH ts k [wInsert,wInto] with
 |some k1=>some (k1,1)
 |none=>match bH ts k [wUpdate] with
  |some k1=>some (k1,2)
  |none=>match bH ts k [wDelete,d5p] with
   |some k1=>some (k1,3)
   |none=>match bH ts k [wMerge,wInto] with
    |some k1=>some (k1,4)
    |none=>none
def returningR(ts:List Tok)(k:Nat):d2u (List It):=match bH ts k [wReturning] with
 |none=> .good k []
 |some k1=>d7m ts k1
def writeR(ts:List Tok)(k:Nat):d2u Wr:=match begunR ts k with
 |none=> .bad 261
 |some (k1,n)=>(d3b ts k1).bind fun k2 into=>(if n=1 then insertR ts into k2
   else if n=2 then(setsR ts k2).bind fun k3 l=>(d3s ts d6o k3).bind fun k4 x=> .good k4 ⟨2,into,[],[],false,d3z,[],0,l,x,⟨[],[]⟩,zeroE,[],[]⟩
   else if n=3 then(d3s ts d6o k2).bind fun k3 x=> .good k3 ⟨3,into,[],[],false,d3z,[],0,[],x,⟨[],[]⟩,zeroE,[],[]⟩
   else mergeR ts into k2).bind fun k3 w=>(returningR ts k3).bind fun k4 r=> .good k4 {w with ret:=r}
def manyW(w:Wr):Bool:=decide (64<w.rows.length)||decide (32<w.cols.length)||decide (32<w.conf.length)||decide (32<w.sets.length)||decide (8<w.whens.length)||decide (32<w.ret.length)||
 w.rows.any (fun l=>decide (32<l.length))||w.whens.any fun x=>decide (32<x.sets.length)||decide (32<x.cols.length)||decide (32<x.vals.length)
def readW(ts:List Tok)(k:Nat):d2u Wr:=(writeR ts k).bind fun k' w=>if manyW w then .bad 270 else .good k' w
def parseW(s:List UInt8):Int×Wr:=
 if 4000<s.length then(3,zeroW) else match jQ s with
  |none=>(250,zeroW)
  |some ts=>match readW (ts++[eT s.length]) 0 with
   | .bad c=>(c,zeroW)
   | .good k w=>if((ts++[eT s.length])[k]?).map (·.k)=some 4 then(0,w) else(261,zeroW)
end
section
def exB(x:Ex):Bool:=decide (fC x<=1000)&&c3p x&&decide ((eY x).length<=10000)
theorem d6n{x:Ex}(h:exB x=true):e0m x:=by
 unfold exB at h;simp only[aQ,decide_eq_true_eq] at h;have:=c2c x h.1.2;exact⟨by omega,this.2,this.1,fun _=>by omega⟩
def quB(q:Qu):Bool:=
 (q.items.all fun i=>exB i.x&&decide (i.t.length<=10000)&&decide (i.al.length<=10000))&&(decide (q.frm.t.length<=10000)&&decide (q.frm.al.length<=10000))&&(q.joins.all fun j=>exB j.on&&decide (j.s.t.length<=10000)&&decide (j.s.al.length<=10000))&&
 exB q.wher&&q.group.all exB&&exB q.having&&(q.orders.all fun o=>exB o.x)&&decide (q.items.length<=1000/\q.joins.length<=1000/\q.group.length<=1000/\q.orders.length<=1000)&&decide ((d8n q).length<=10000)&&decide (-1000000<=q.limit/\q.limit<=1000000)
theorem e6d{q:Qu}(h:quB q=true):e1a q:=by
 unfold quB at h;simp only[aQ,decide_eq_true_eq,jA] at h;obtain⟨⟨⟨⟨⟨⟨⟨⟨⟨hi,hf⟩,hj⟩,hw⟩,hg⟩,hh⟩,ho⟩,hl⟩,ht⟩,hm⟩:=h;refine⟨fun i h=>⟨d6n (hi i h).1.1,?_,?_⟩,⟨?_,?_⟩,fun j h=>⟨⟨?_,?_⟩,d6n (hj j h).1.1⟩,d6n hw,fun x h=>d6n (hg x h),d6n hh,fun o h=>d6n (ho o h),by omega,by omega,by omega,by omega,fun _=>by omega,by omega,by omega⟩
 ·have:=(hi i h).1.2;unfold d4d;omega
 ·have:=(hi i h).2;unfold d4d;omega
 ·have:=hf.1;unfold d4d;omega
 ·have:=hf.2;unfold d4d;omega
 ·have:=(hj j h).1.2;unfold d4d;omega
 ·have:=(hj j h).2;unfold d4d;omega
end
section
def mayB(x:Ex):Bool:=d3i x||eH x
def namesB(l:List (List UInt8))(least:Nat):Bool:=decide (least<=l.length)&&decide (l.length<=32)&&l.all mO
def rowB(l:List Ex):Bool:=decide (1<=l.length)&&decide (l.length<=32)&&l.all eH
def setsB(l:List St):Bool:=decide (1<=l.length)&&decide (l.length<=32)&&l.all fun s=>mO s.n&&eH s.x
def rightWn(x:Wn):Bool:=mayB x.cond&&(
 if x.act=1 then x.sets.isEmpty&&x.cols.isEmpty&&x.vals.isEmpty
 else if x.act=2 then x.matched&&setsB x.sets&&x.cols.isEmpty&&x.vals.isEmpty
 else if x.act=3 then x.matched&&x.sets.isEmpty&&x.cols.isEmpty&&x.vals.isEmpty
 else if x.act=4 then !x.matched&&x.sets.isEmpty&&namesB x.cols 0&&rowB x.vals else false)
def rightIn(w:Wr):Bool:=namesB w.cols 0&&(if w.hasQ then d3e w.query&&w.rows.isEmpty else decide (1<=w.rows.length)&&decide (w.rows.length<=64))&&w.rows.all rowB&&(
 if w.act=0 then w.conf.isEmpty&&w.sets.isEmpty&&d3i w.wher
 else if w.act=1 then namesB w.conf 1&&w.sets.isEmpty&&d3i w.wher
 else if w.act=2 then namesB w.conf 1&&setsB w.sets&&mayB w.wher else false)
def rightW(w:Wr):Bool:=
 decide (1<=w.kind/\w.kind<=4)&&d4c w.into&&(w.ret.isEmpty||d4l w.ret)&&(w.kind==1||w.cols.isEmpty&&w.rows.isEmpty&&w.conf.isEmpty&&w.act==0&& !w.hasQ)&&(w.hasQ||sameQ w.query d3z)&&
 (w.kind==4||w.whens.isEmpty&&d3i w.on&&w.using'.t==[]&&w.using'.al==[])&&(
 if w.kind=1 then rightIn w
 else if w.kind=2 then setsB w.sets&&mayB w.wher
 else if w.kind=3 then w.sets.isEmpty&&mayB w.wher
 else w.whens.all rightWn&&w.sets.isEmpty&&d3i w.wher&&d4c w.using'&&eH w.on&&decide (1<=w.whens.length)&&decide (w.whens.length<=8))
def rowT(l:List Ex):List UInt8:=[40]++jR [44,32] (l.map eY)++[41]
def listedT(l:List (List UInt8)):List UInt8:=if l=[] then[] else[32,40]++jR [44,32] l++[41]
def setT(s:St):List UInt8:=s.n++[32,61,32]++eY s.x
def setsT(l:List St):List UInt8:=jR [44,32] (l.map setT)
def optT(w:List UInt8)(x:Ex):List UInt8:=if d3i x then[] else[32]++w++[32]++eY x
def whenActT(x:Wn):List UInt8:=
 if x.act=1 then wDo++[32]++wNothing else if x.act=2 then wUpdate++[32]++wSet++[32]++setsT x.sets
 else if x.act=3 then wDelete else wInsert++listedT x.cols++[32]++wValues++[32]++rowT x.vals
def whenT(x:Wn):List UInt8:=[32]++wWhen++[32]++(if x.matched then[] else rW++[32])++wMatched++optT wAnd x.cond++[32]++wThen++[32]++whenActT x
def conflT(w:Wr):List UInt8:=if w.act=0 then[] else[32]++wOn++[32]++wConflict++listedT w.conf++[32]++wDo++[32]++(if w.act=1 then wNothing else wUpdate++[32]++wSet++[32]++setsT w.sets++optT d6o w.wher)
def bodyT(w:Wr):List UInt8:=
 if w.kind=1 then wInsert++[32]++wInto++[32]++d4g w.into++listedT w.cols++[32]++(if w.hasQ then d8n w.query else wValues++[32]++jR [44,32] (w.rows.map rowT))++conflT w
 else if w.kind=2 then wUpdate++[32]++d4g w.into++[32]++wSet++[32]++setsT w.sets++optT d6o w.wher
 else if w.kind=3 then wDelete++[32]++d5p++[32]++d4g w.into++optT d6o w.wher
 else wMerge++[32]++wInto++[32]++d4g w.into++[32]++wUsing++[32]++d4g w.using'++[32]++wOn++[32]++eY w.on++w.whens.flatMap whenT
def retT(l:List It):List UInt8:=if l=[] then[] else[32]++wReturning++[32]++d5q l
def textW(w:Wr):List UInt8:=bodyT w++retT w.ret
def sameSt(a b:St):Bool:=a.n==b.n&&kR a.x b.x
def sameWn(a b:Wn):Bool:=a.matched==b.matched&&kR a.cond b.cond&&a.act==b.act&&samesBy sameSt a.sets b.sets&&a.cols==b.cols&&lQ a.vals b.vals
def sameW(a b:Wr):Bool:=
 a.kind==b.kind&&sameSo a.into b.into&&a.cols==b.cols&&samesBy lQ a.rows b.rows&&a.hasQ==b.hasQ&&sameQ a.query b.query&&a.conf==b.conf&&a.act==b.act&&samesBy sameSt a.sets b.sets&&kR a.wher b.wher&&
 sameSo a.using' b.using'&&kR a.on b.on&&samesBy sameWn a.whens b.whens&&samesBy sameIt a.ret b.ret
theorem sameSt_self(s:St):sameSt s s=true:=by simp[sameSt,zZ]
theorem samesBy_eq{α:Type}{f:α->α->Bool}(h:∀x y,f x y=true->x=y):∀l m:List α,samesBy f l m=true->l=m
 |[],[],_=>rfl
 |[],_::_,h=>by simp[samesBy] at h
 |_::_,[],h=>by simp[samesBy] at h
 |x::r,y::s,e=>by
  simp only[samesBy,aQ] at e;rw[h x y e.1,samesBy_eq h r s e.2]
theorem sameSo_eq{a b:So}(h:sameSo a b=true):a=b:=by
 cases a;cases b;simpa[sameSo] using h
theorem sameQ_eq{a b:Qu}(h:sameQ a b=true):a=b:=by
 unfold sameQ at h;simp only[aQ,beq_iff_eq] at h;obtain⟨⟨⟨⟨⟨⟨⟨⟨h1,h2⟩,h3⟩,h4⟩,h5⟩,h6⟩,h7⟩,h8⟩,h9⟩:=h;cases a;cases b;simp only[Qu.mk.injEq];refine⟨h1,samesBy_eq (fun x y h=>?_) _ _ h2,sameSo_eq h3,samesBy_eq (fun x y h=>?_) _ _ h8,same_eq _ _ h4,a9m _ _ h7,same_eq _ _ h5,samesBy_eq (fun x y h=>?_) _ _ h9,h6⟩
 ·cases x;cases y;simp only[sameIt,aQ,beq_iff_eq] at h;obtain⟨⟨⟨e1,e2⟩,e3⟩,e4⟩:=h;have:=same_eq _ _ e4
  (try simp only at e1 e2 e3 this)
  rw[e1,e2,e3,this]
 ·cases x;cases y;simp only[sameJo,aQ] at h;have e1:=sameSo_eq h.1;have e2:=same_eq _ _ h.2
  (try simp only at e1 e2)
  rw[e1,e2]
 ·cases x;cases y;simp only[sameOd,aQ,beq_iff_eq] at h;have e2:=same_eq _ _ h.2;have e1:=h.1
  (try simp only at e1 e2)
  rw[e1,e2]
end
section
section
variable {ts:List Tok} {k k':Nat}
theorem nameRW_past(hT:lC ts){n:List UInt8}(h:nameRW ts k= .good k' n):k<k'/\k'<ts.length:=by
 unfold nameRW at h;cases hn:mM ts k with
 |none=>rw[hn] at h;cases h
 |some p=>
  obtain⟨a,b⟩:=p;rw[hn] at h;injection h with h1;subst h1;exact zH hT hn
theorem needR_past(hT:lC ts)(hk:k<ts.length){l:List (List UInt8)}{u:Unit}(h:needR ts k l= .good k' u):k+l.length<=k'/\k'<ts.length:=by
 unfold needR at h;cases ht:bH ts k l with
 |none=>rw[ht] at h;cases h
 |some k1=>
  rw[ht] at h;injection h with h1;subst h1;have:=gV hT hk ht;omega
theorem listR_past{α:Type}(hT:lC ts){one:Nat->d2u α}(hone:∀k k1 x,k<ts.length->one k= .good k1 x->k<k1/\k1<ts.length):∀(f k:Nat) (acc:List α) (k':Nat) (l:List α),k<ts.length->d3o ts one f k acc= .good k' l->k<k'/\k'<ts.length
 |0,_,_,_,_,_,h=>by simp only[d3o] at h;cases h
 |f+1,k,acc,k',l,hk,h=>by
  simp only[d3o] at h;obtain⟨k1,x,h1,h2⟩:=d2u.bind_good h;have h3:=hone k k1 x hk h1;cases ht:bH ts k1 [[44]] with
  |none=>
   rw[ht] at h2;injection h2 with h2;subst h2;exact h3
  |some k2=>
   rw[ht] at h2;have h4:=kS hT h3.2 ht;have:=listR_past hT hone f k2 _ k' l h4.2 h2;omega
theorem d9m{α:Type}{one:Nat->d2u α}:∀(f k:Nat) (acc:List α) (k':Nat) (l:List α),d3o ts one f k acc= .good k' l->l.length<=acc.length+f
 |0,_,_,_,_,h=>by simp only[d3o] at h;cases h
 |f+1,k,acc,k',l,h=>by
  simp only[d3o] at h;obtain⟨k1,x,h1,h2⟩:=d2u.bind_good h;cases ht:bH ts k1 [[44]] with
  |none=>
   rw[ht] at h2;injection h2 with h2 h3;rw[<-h3,bD];simp
  |some k2=>
   rw[ht] at h2;have:=d9m f k2 _ k' l h2;rw[bD] at this;simp at this;omega
theorem parenR_past{α:Type}(hT:lC ts)(hk:k<ts.length){one:Nat->d2u α}(hone:∀k k1 x,k<ts.length->one k= .good k1 x->k<k1/\k1<ts.length){l:List α}(h:parenR ts one k= .good k' l):k<k'/\k'<ts.length:=by
 unfold parenR at h;obtain⟨k1,_,h1,h2⟩:=d2u.bind_good h;obtain⟨k2,m,h3,h4⟩:=d2u.bind_good h2;obtain⟨k3,_,h5,h6⟩:=d2u.bind_good h4;injection h6 with h6;subst h6;have a1:=needR_past hT hk h1;have a2:=listR_past hT hone _ _ _ _ _ a1.2 h3;have a3:=needR_past hT a2.2 h5;omega
theorem rowR_past(hT:lC ts)(hk:k<ts.length){l:List Ex}(h:rowR ts k= .good k' l):k<k'/\k'<ts.length:=parenR_past hT hk (fun _ _ _ hk h=>d4j hT hk h) h
theorem setR_past(hT:lC ts){s:St}(h:setR ts k= .good k' s):k<k'/\k'<ts.length:=by
 unfold setR at h;obtain⟨k1,_,h1,h2⟩:=d2u.bind_good h;obtain⟨k2,_,h3,h4⟩:=d2u.bind_good h2;obtain⟨k3,_,h5,h6⟩:=d2u.bind_good h4;injection h6 with h6;subst h6;have a1:=nameRW_past hT h1;have a2:=needR_past hT a1.2 h3;have a3:=d4j hT a2.2 h5;omega
theorem maybeR_le(hT:lC ts)(hk:k<ts.length){w:List UInt8}{x:Ex}(h:d3s ts w k= .good k' x):k<=k'/\k'<ts.length:=by
 unfold d3s at h;cases ht:bH ts k [w] with
 |none=>
  rw[ht] at h;injection h with h1;subst h1;omega
 |some k1=>
  rw[ht] at h;have h1:=kS hT hk ht;have h2:=d4j hT h1.2 h;omega
theorem setsR_past(hT:lC ts)(hk:k<ts.length){l:List St}(h:setsR ts k= .good k' l):k<k'/\k'<ts.length:=by
 unfold setsR at h;obtain⟨k1,_,h1,h2⟩:=d2u.bind_good h;have a1:=needR_past hT hk h1;have a2:=listR_past hT (fun _ _ _ _ h=>setR_past hT h) _ _ _ _ _ a1.2 h2;omega
theorem namesR_le(hT:lC ts)(hk:k<ts.length){m:Bool}{l:List (List UInt8)}(h:namesR ts m k= .good k' l):k<=k'/\k'<ts.length:=by
 unfold namesR at h;cases ht:bH ts k [[40]] with
 |none=>
  rw[ht] at h;cases m
  ·injection h with h1;subst h1;omega
  ·cases h
 |some k1=>
  rw[ht] at h;have:=parenR_past hT hk (fun _ _ _ _ h=>nameRW_past hT h) h;omega
theorem whenR_past(hT:lC ts)(hk:k<ts.length){x:Wn}(h:whenR ts k= .good k' x):k<k'/\k'<ts.length:=by
 have h0:∃j,(bH ts k [rW]).getD k=j/\k<=j/\j<ts.length:=by
  cases ht:bH ts k [rW] with
  |none=>exact⟨k,rfl,aH _,hk⟩
  |some j=>
   have:=kS hT hk ht;exact⟨j,rfl,by omega,this.2⟩
 obtain⟨j,hj,hkj,hjl⟩:=h0;unfold whenR at h;simp only[hj] at h;obtain⟨k1,_,h1,h2⟩:=d2u.bind_good h;obtain⟨k2,c,h3,h4⟩:=d2u.bind_good h2;obtain⟨k3,_,h5,h6⟩:=d2u.bind_good h4;have a1:=needR_past hT hjl h1;have a2:=maybeR_le hT a1.2 h3;have a3:=needR_past hT a2.2 h5;have hin:∀{w:List UInt8} {b:Bool} {q:Nat},(if b then bH ts k3 [w] else none)=some q->k3<q/\q<ts.length:=fun{w b q} e=>by
  cases b
  ·cases e
  ·exact kS hT a3.2 e
 revert h6
 split
 ·rename_i k4 ht;intro h6;injection h6 with h6;subst h6;have:=gV hT a3.2 ht;simp only[aX,bL] at this a1 a3;omega
 ·split
  ·rename_i k4 ht;intro h6;obtain⟨k5,l,h7,h8⟩:=d2u.bind_good h6;injection h8 with h8;subst h8;have b1:=hin ht;have b2:=setsR_past hT b1.2 h7;omega
  ·split
   ·rename_i k4 ht;intro h6;injection h6 with h6;subst h6;have b1:=hin ht;omega
   ·split
    ·intro h6;cases h6
    ·intro h6;obtain⟨k4,_,h7,h8⟩:=d2u.bind_good h6;obtain⟨k5,cs,h9,h10⟩:=d2u.bind_good h8;obtain⟨k6,_,h11,h12⟩:=d2u.bind_good h10;obtain⟨k7,l,h13,h14⟩:=d2u.bind_good h12;injection h14 with h14;subst h14;have b1:=needR_past hT a3.2 h7;have b2:=namesR_le hT b1.2 h9;have b3:=needR_past hT b2.2 h11;have b4:=rowR_past hT b3.2 h13;omega
end
end
section
theorem bG.keepB{p r:Nat->Prop}{W W':World}(hm:∀b,b<W.heap.size->p b->r b)(hk:∀b,p b->b<W.heap.size->W'.heap[b]?=W.heap[b]?){sv:Value}{l:List Ex}(h:bG p W sv l):bG r W' sv l:=
 (h.of (q:=fun b=>p b/\r b) fun b hl hp=>⟨hp,hm b hl hp⟩).keep (fun _ h=>h.2) fun b h hl=>hk b h.1 hl
structure Shp(α:Type) where
 n:Nat
 lies:(Nat->Prop)->World->α->List Value->Prop
 len:∀{p W x cs},lies p W x cs->cs.length=n
 one:∀{p W x cs},lies p W x cs->cs.all (·.oneCell')=true
 keep:∀{p r:Nat->Prop} {W W':World} {x cs},W.heap.size<=W'.heap.size->(∀b,b<W.heap.size->p b->r b)->(∀b,p b->b<W.heap.size->W'.heap[b]?=W.heap[b]?)->lies p W x cs->lies r W' x cs
section
variable {α:Type} {F:Shp α}
def RowsG(F:Shp α)(p:Nat->Prop)(W:World)(sv:Value)(l:List α):Prop:=
 ∃(a:Option Addr) (cap:Nat),sv= .slice a l.length cap/\(F.n=1->l.length<=cap)/\∀j x,l[j]?=some x->∃b off cs,a=some ⟨b,off,none⟩/\p b/\b<W.heap.size/\d2k W b (off+j * F.n) cs/\F.lies p W x cs
theorem RowsG.keep{p r:Nat->Prop}{W W':World}(hs:W.heap.size<=W'.heap.size)(hm:∀b,b<W.heap.size->p b->r b)(hk:∀b,p b->b<W.heap.size->W'.heap[b]?=W.heap[b]?){sv:Value}{l:List α}(h:RowsG F p W sv l):RowsG F r W' sv l:=by
 obtain⟨a,cap,e,h1,h⟩:=h;refine⟨a,cap,e,h1,fun j x hx=>?_⟩;obtain⟨b,off,cs,ea,hb,hl,hc,hr⟩:=h j x hx;exact⟨b,off,cs,ea,hm b hl hb,gK hl hs,hc.keep (hk b hb hl),F.keep hs hm hk hr⟩
theorem RowsG.bl{p:Nat->Prop}{W W':World}{sv:Value}{l:List α}(h:RowsG F p W sv l)(hb:Bl W W'):RowsG F p W' sv l:=h.keep hb.size (fun _ _ h=>h) fun b _ hl=>hb.block b hl
theorem RowsG.low{p q:Nat->Prop}{W:World}{sv:Value}{l:List α}(h:RowsG F p W sv l)(hm:∀b,b<W.heap.size->p b->q b):RowsG F q W sv l:=h.keep (aH _) hm fun _ _ _=>rfl
theorem RowsG.nil(p:Nat->Prop)(W:World)(a:Option Addr)(cap:Nat):RowsG F p W (.slice a 0 cap) []:=⟨a,cap,rfl,fun _=>dL _,fun j x h=>by simp at h⟩
theorem RowsG.shape{p:Nat->Prop}{W:World}{sv:Value}{l:List α}(h:RowsG F p W sv l):∃a cap,sv= .slice a l.length cap/\∀j,(hj:j<l.length)->∃b off cs,a=some ⟨b,off,none⟩/\p b/\b<W.heap.size/\d2k W b (off+j * F.n) cs/\F.lies p W l[j] cs:=by
 obtain⟨a,cap,e,-,h⟩:=h;exact⟨a,cap,e,fun j hj=>h j l[j] (aP hj)⟩
def rowG(l:List (α×List Value)):List Value:=l.flatMap (·.2)
theorem rowG_len{n:Nat}:∀{l:List (α×List Value)},(∀q∈l,q.2.length=n)->(rowG l).length=l.length * n
 |[],_=>by simp[rowG]
 |q::l,h=>by
  have ih:=rowG_len (l:=l) fun q hq=>h q (List.mem_cons_of_mem _ hq);have h1:=h q aa;simp only[rowG,List.flatMap_cons,bD,aX] at ih⊢;rw[ih,h1,Nat.add_mul];omega
theorem rowG_at{n:Nat}:∀(l:List (α×List Value)),(∀q∈l,q.2.length=n)->∀(j:Nat) (q:α×List Value),l[j]?=some q->∀i,i<n->(rowG l)[j * n+i]?=q.2[i]?
 |[],_,j,q,h,_,_=>by simp at h
 |r::l,hn,0,q,h,i,hi=>by
  injection h with h;subst h;simp only[rowG,List.flatMap_cons,Nat.zero_mul,gD];rw[List.getElem?_append_left (by rw[hn r aa];exact hi)]
 |r::l,hn,j+1,q,h,i,hi=>by
  have ih:=rowG_at l (fun q hq=>hn q (List.mem_cons_of_mem _ hq)) j q h i hi;have h1:=hn r aa;simp only[rowG,List.flatMap_cons] at ih⊢;rw[List.getElem?_append_right (by rw[h1,Nat.add_mul];omega),h1,<-ih]
  congr 1
  rw[Nat.add_mul];omega
theorem rows_ownG{p:Nat->Prop}{W:World}{base:Nat}{T:TypeId}{v:Value}{l:List (α×List Value)}(h:W.ownsRow base T F.n v l.length (rowG l))(hn:∀g,base<=g->g<W.heap.size->v.ownBlock=some g->p g)(hr:∀q∈l,F.lies p W q.1 q.2):RowsG F p W v (l.map (·.1)):=by
 have hlen:=fun q hq=>F.len (hr q hq);rcases id h.2 with⟨e,h0⟩|⟨g,cap,cur,e,hg,hh,hcap,-,-,ht⟩
 ·obtain rfl:l=[]:=lM h0;subst e;exact RowsG.nil _ _ _ _
 ·subst e;have hgl:=(aC.1 hh).1;refine⟨some ⟨g,0,none⟩,cap,by simp,fun _=>by simpa using hcap,fun j x hx=>?_⟩;rw[iJ] at hx;obtain⟨q,hp,rfl⟩:=aT.1 hx;have hlt:=(aO.1 hp).1;refine⟨g,0,q.2,rfl,hn g hg hgl rfl,hgl,fun i v hv=>?_,hr q (dJ hp)⟩;have hi:i<F.n:=(by have:=(aO.1 hv).1;rw[<-hlen q (dJ hp)];exact this);have hm:j * F.n+i<l.length * F.n:=by
   have:(j+1) * F.n<=l.length * F.n:=Nat.mul_le_mul_right _ hlt;rw[Nat.add_mul] at this;omega
  have hc:=h.cellAt (j * F.n+i) hm;rw[gD];exact hc.trans ((rowG_at l hlen j q hp i hi).trans hv)
abbrev apartG(m:Nat)(A:World)(v:Value):Nat->Prop:=fun b=>m<=b/\b<A.heap.size/\some b≠v.ownBlock
theorem lies_own{m:Nat}{v v':Value}{A B:World}{x:α}{cs:List Value}(h:F.lies (apartG m A v) A x cs)(hg:A.grownBy B v.ownBlock)(hat:v'.ownBlock=v.ownBlock\/v'.ownBlock=some A.heap.size):F.lies (apartG m B v') B x cs:=
 F.keep hg.4 (fun b _ ⟨h1,h2,h3⟩=>⟨h1,gK h2 hg.4,by
  rcases hat with e|e
  ·rw[e];exact h3
  ·rw[e];intro h;injection h with h;omega⟩) (fun b hb hl=>hg.block b hl hb.2.2) h
theorem lies_bl{m:Nat}{v:Value}{A B:World}{x:α}{cs:List Value}(h:F.lies (apartG m A v) A x cs)(hb:Bl A B):F.lies (apartG m B v) B x cs:=
 F.keep hb.size (fun _ _ ⟨h1,h2,h3⟩=>⟨h1,gK h2 hb.size,h3⟩) (fun b _ hl=>hb.block b hl) h
theorem lies_grown{m bs:Nat}{v:Value}{A B:World}{x:α}{cs:List Value}(h:F.lies (apartG m A v) A x cs)(hg:A.grownBy B (some bs))(hb:bs<m):F.lies (apartG m B v) B x cs:=
 F.keep hg.4 (fun _ _ ⟨h1,h2,h3⟩=>⟨h1,gK h2 hg.4,h3⟩) (fun b h hl=>hg.block b hl (fun e=>by injection e with e;have:=h.1;omega)) h
end
def gStr:Shp (List UInt8):=⟨1,fun _ _ x cs=>cs=[S x],fun h=>by rw[h];rfl,fun h=>by rw[h];rfl,fun _ _ _ h=>h⟩
def gEx:Shp Ex:=⟨8,fun p W x cs=>∃s,cs=qD x s/\bG p W s x.args,fun⟨_,h,_⟩=>by rw[h];rfl,fun⟨s,h,hr⟩=>by cases hr;rw[h];rfl,fun _ hm hk ⟨s,h,hr⟩=>⟨s,h,hr.keepB hm hk⟩⟩
def gRow:Shp (List Ex):=⟨1,fun p W x cs=>∃s,cs=[s]/\bG p W s x,fun⟨_,h,_⟩=>by rw[h];rfl,fun⟨s,h,hr⟩=>by cases hr;rw[h];rfl,fun _ hm hk ⟨s,h,hr⟩=>⟨s,h,hr.keepB hm hk⟩⟩
def gSt:Shp St:=⟨9,fun p W x cs=>∃s,cs=S x.n::qD x.x s/\bG p W s x.x.args,fun⟨_,h,_⟩=>by rw[h];rfl,fun⟨s,h,hr⟩=>by cases hr;rw[h];rfl,fun _ hm hk ⟨s,h,hr⟩=>⟨s,h,hr.keepB hm hk⟩⟩
def cells13(x:Wn)(s ss sc sv:Value):List Value:=[.bool x.matched]++(qD x.cond s++[.int .i64 x.act,ss,sc,sv])
def gWn:Shp Wn:=⟨13,fun p W x cs=>∃s ss sc sv,cs=cells13 x s ss sc sv/\bG p W s x.cond.args/\RowsG gSt p W ss x.sets/\RowsG gStr p W sc x.cols/\bG p W sv x.vals,fun⟨_,_,_,_,h,_⟩=>by rw[h];rfl,
 fun⟨s,ss,sc,sv,h,h1,h2,h3,h4⟩=>by
  obtain⟨_,_,rfl,_⟩:=h2;obtain⟨_,_,rfl,_⟩:=h3;cases h1;cases h4;rw[h];rfl,
 fun hs hm hk ⟨s,ss,sc,sv,h,h1,h2,h3,h4⟩=>⟨s,ss,sc,sv,h,h1.keepB hm hk,h2.keep hs hm hk,h3.keep hs hm hk,h4.keepB hm hk⟩⟩
structure SlW where
 cols:Value
 rows:Value
 si:Value
 sj:Value
 sw:Value
 sg:Value
 sh:Value
 so:Value
 conf:Value
 sets:Value
 wher:Value
 on:Value
 whens:Value
 ret:Value
def nilW:SlW:=⟨.slice none 0 0,.slice none 0 0,.slice none 0 0,.slice none 0 0,.slice none 0 0,.slice none 0 0,.slice none 0 0,.slice none 0 0,.slice none 0 0,.slice none 0 0,.slice none 0 0,.slice none 0 0,.slice none 0 0,.slice none 0 0⟩
abbrev cellsW(w:Wr)(s:SlW):List Value:=
  [.int .i64 w.kind,S w.into.t,S w.into.al,s.cols,s.rows,.bool w.hasQ,
   .bool w.query.distinct,s.si,S w.query.frm.t,S w.query.frm.al,s.sj,.int .i64 w.query.wher.k,.int .i64 w.query.wher.v.1,.int .i64 w.query.wher.v.2.1,S w.query.wher.v.2.2,S w.query.wher.t,S w.query.wher.n,.int .i64 w.query.wher.o,s.sw,s.sg,
   .int .i64 w.query.having.k,.int .i64 w.query.having.v.1,.int .i64 w.query.having.v.2.1,S w.query.having.v.2.2,S w.query.having.t,S w.query.having.n,.int .i64 w.query.having.o,s.sh,s.so,.int .i64 w.query.limit,
   s.conf,.int .i64 w.act,s.sets,.int .i64 w.wher.k,.int .i64 w.wher.v.1,.int .i64 w.wher.v.2.1,S w.wher.v.2.2,S w.wher.t,S w.wher.n,.int .i64 w.wher.o,s.wher,S w.using'.t,S w.using'.al,
   .int .i64 w.on.k,.int .i64 w.on.v.1,.int .i64 w.on.v.2.1,S w.on.v.2.2,S w.on.t,S w.on.n,.int .i64 w.on.o,s.on,s.whens,s.ret]
structure PartsW(p:Nat->Prop)(W:World)(w:Wr)(s:SlW):Prop where
 cols:RowsG gStr p W s.cols w.cols
 rows:RowsG gRow p W s.rows w.rows
 query:d2t p W w.query s.si s.sj s.sw s.sg s.sh s.so
 conf:RowsG gStr p W s.conf w.conf
 sets:RowsG gSt p W s.sets w.sets
 wher:bG p W s.wher w.wher.args
 on:bG p W s.on w.on.args
 whens:RowsG gWn p W s.whens w.whens
 ret:d2p fIt p W s.ret w.ret
theorem PartsW.keep{p r:Nat->Prop}{W W':World}(hs:W.heap.size<=W'.heap.size)(hm:∀b,p b->r b)(hk:∀b,p b->b<W.heap.size->W'.heap[b]?=W.heap[b]?){w:Wr}{s:SlW}(h:PartsW p W w s):PartsW r W' w s:=
 ⟨h.cols.keep hs (fun b _ h=>hm b h) hk,h.rows.keep hs (fun b _ h=>hm b h) hk,h.query.keep hs hm hk,h.conf.keep hs (fun b _ h=>hm b h) hk,h.sets.keep hs (fun b _ h=>hm b h) hk,h.wher.keep hm hk,h.on.keep hm hk,h.whens.keep hs (fun b _ h=>hm b h) hk,h.ret.keep hs hm hk⟩
theorem PartsW.bl{p:Nat->Prop}{W W':World}{w:Wr}{s:SlW}(h:PartsW p W w s)(hb:Bl W W'):PartsW p W' w s:=h.keep hb.size (fun _ h=>h) fun b _ hl=>hb.block b hl
def ReadsW(p:Nat->Prop)(W:World)(w:Wr)(v:Value):Prop:=∃s,v= .agg (cellsW w s).toArray/\PartsW p W w s
theorem ReadsW.bl{p:Nat->Prop}{W W':World}{w:Wr}{v:Value}(h:ReadsW p W w v)(hb:Bl W W'):ReadsW p W' w v:=by
 obtain⟨s,e,h⟩:=h;exact⟨s,e,h.bl hb⟩
theorem parts_zeroW(p:Nat->Prop)(W:World):PartsW p W zeroW nilW:=
 ⟨.nil _ _ _ _,.nil _ _ _ _,⟨.nil _ _ _ _,.nil _ _ _ _,.nil _ _ _ _,.nil _ _ _ _,.nil _ _ _ _,.nil _ _ _ _⟩,.nil _ _ _ _,.nil _ _ _ _,.nil _ _ _ _,.nil _ _ _ _,.nil _ _ _ _,.nil _ _ _ _⟩
theorem reads_zeroW(p:Nat->Prop)(W:World):ReadsW p W zeroW (.agg (cellsW zeroW nilW).toArray):=⟨_,rfl,parts_zeroW p W⟩
end
section
def bareW(w:Wr):Wr:=
 if w.kind=1 then{w with using':=⟨[],[]⟩,on:=zeroE,whens:=[]}
 else if w.kind=2 then{zeroW with kind:=w.kind,into:=w.into,ret:=w.ret,sets:=w.sets,wher:=w.wher}
 else if w.kind=3 then{zeroW with kind:=w.kind,into:=w.into,ret:=w.ret,wher:=w.wher}
 else if w.kind=4 then{zeroW with kind:=w.kind,into:=w.into,ret:=w.ret,using':=w.using',on:=w.on,whens:=w.whens}
 else{zeroW with kind:=w.kind,into:=w.into,ret:=w.ret}
def rowsInB(w:Wr):Bool:=if w.hasQ then w.rows.isEmpty&&d3e w.query else decide (1<=w.rows.length)&&decide (w.rows.length<=64)&&w.rows.all rowB&&sameQ w.query d3z
def updInB(w:Wr):Bool:=if w.act=2 then setsB w.sets&&mayB w.wher else w.sets.isEmpty&&d3i w.wher
def confInB(w:Wr):Bool:=if w.act=0 then w.conf.isEmpty else namesB w.conf 1
def inB(w:Wr):Bool:=rowsInB w&&updInB w&&confInB w&&decide (0<=w.act)&&decide (w.act<=2)&&namesB w.cols 0
def kindB(k:Int)(w:Wr):Bool:=if k=1 then inB w else if k=2 then setsB w.sets&&mayB w.wher else if k=3 then mayB w.wher else d4c w.using'&&eH w.on&&(decide (1<=w.whens.length)&&decide (w.whens.length<=8)&&w.whens.all rightWn)
def chkW(w:Wr):Bool:=decide (1<=w.kind/\w.kind<=4)&&(kindB w.kind w&&(d4c w.into&&(sameW (bareW w) w&&(w.ret.isEmpty||d4l w.ret))))
theorem noneB_eq{x:Ex}:d3i x=true↔x=zeroE:=by
 unfold d3i;exact⟨fun h=>same_eq _ _ h,fun h=>by rw[h];exact zZ _⟩
theorem none_sym{x:Ex}:kR zeroE x=d3i x:=by
 rw[kC,noneB_eq];exact⟨fun h=>(same_eq _ _ h).symm,fun h=>by rw[h];exact zZ _⟩
theorem sameQ_sym{q:Qu}:sameQ d3z q=sameQ q d3z:=by
 rw[kC];exact⟨fun h=>by rw[<-sameQ_eq h];exact sameQ_self _,fun h=>by rw[sameQ_eq h];exact sameQ_self _⟩
theorem samesBy_nil{α:Type}{f:α->α->Bool}(l:List α):samesBy f [] l=l.isEmpty:=by cases l<;>rfl
theorem sameIts_self(l:List It):samesBy sameIt l l=true:=samesBy_self (fun x=>by simp[sameIt,zZ]) l
theorem sameSts_self(l:List St):samesBy sameSt l l=true:=samesBy_self sameSt_self l
theorem sameWns_self(l:List Wn):samesBy sameWn l l=true:=samesBy_self (fun x=>by simp[sameWn,zZ,a1w,samesBy_self sameSt_self]) l
theorem sameRows_self(l:List (List Ex)):samesBy lQ l l=true:=samesBy_self a1w l
theorem bare_1{w:Wr}(hk:w.kind=1):sameW (bareW w) w=(w.using'.t==[]&&w.using'.al==[]&&d3i w.on&&w.whens.isEmpty):=by
 unfold bareW;rw[if_pos hk];simp[sameW,sameSo,zZ,sameQ_self,sameIts_self,sameSts_self,sameRows_self,none_sym,samesBy_nil]
theorem bare_2{w:Wr}(hk:w.kind=2):sameW (bareW w) w=(w.cols.isEmpty&&w.rows.isEmpty&& !w.hasQ&&sameQ w.query d3z&&w.conf.isEmpty&&w.act==0&&(w.using'.t==[]&&w.using'.al==[])&&d3i w.on&&w.whens.isEmpty):=by
 unfold bareW;rw[if_neg ct,if_pos hk];have h0:((0:Int)==w.act)=(w.act==0):=eM;have hq:(false==w.hasQ)= !w.hasQ:=(by cases w.hasQ<;>rfl);simp[sameW,zeroW,sameSo,zZ,sameQ_sym,sameIts_self,sameSts_self,none_sym,samesBy_nil,h0,hq]
theorem bare_3{w:Wr}(hk:w.kind=3):sameW (bareW w) w=(w.cols.isEmpty&&w.rows.isEmpty&& !w.hasQ&&sameQ w.query d3z&&w.conf.isEmpty&&w.act==0&&w.sets.isEmpty&&(w.using'.t==[]&&w.using'.al==[])&&d3i w.on&&w.whens.isEmpty):=by
 unfold bareW;rw[if_neg ct,if_neg ct,if_pos hk];have h0:((0:Int)==w.act)=(w.act==0):=eM;have hq:(false==w.hasQ)= !w.hasQ:=(by cases w.hasQ<;>rfl);simp[sameW,zeroW,sameSo,zZ,sameQ_sym,sameIts_self,none_sym,samesBy_nil,h0,hq]
theorem bare_4{w:Wr}(hk:w.kind=4):sameW (bareW w) w=(w.cols.isEmpty&&w.rows.isEmpty&& !w.hasQ&&sameQ w.query d3z&&w.conf.isEmpty&&w.act==0&&w.sets.isEmpty&&d3i w.wher):=by
 unfold bareW;rw[if_neg ct,if_neg ct,if_neg ct,if_pos hk];have h0:((0:Int)==w.act)=(w.act==0):=eM;have hq:(false==w.hasQ)= !w.hasQ:=(by cases w.hasQ<;>rfl);simp[sameW,zeroW,sameSo,zZ,sameQ_sym,sameIts_self,sameWns_self,none_sym,samesBy_nil,h0,hq]
theorem in_right{w:Wr}:inB w=(rightIn w&&(w.hasQ||sameQ w.query d3z)):=by
 unfold inB rightIn rowsInB updInB confInB;by_cases h0:w.act=0
 ·rw[h0];cases hq:w.hasQ
  ·simp
   ac_rfl
  ·cases hr:w.rows with
   |nil=>simp;ac_rfl
   |cons=>simp
 by_cases h1:w.act=1
 ·rw[h1];cases hq:w.hasQ
  ·simp
   ac_rfl
  ·cases hr:w.rows with
   |nil=>simp;ac_rfl
   |cons=>simp
 by_cases h2:w.act=2
 ·rw[h2];cases hq:w.hasQ
  ·simp
   ac_rfl
  ·cases hr:w.rows with
   |nil=>simp;ac_rfl
   |cons=>simp
 ·simp only[if_neg h0,if_neg h1,if_neg h2];have:decide (0<=w.act)=false\/decide (w.act<=2)=false:=by
   by_cases h:0<=w.act
   ·exact .inr (decide_eq_false aE)
   ·exact .inl (decide_eq_false h)
  rcases this with h|h<;>simp[h]
theorem right_chk(w:Wr):chkW w=rightW w:=by
 by_cases hk:1<=w.kind/\w.kind<=4
 ·have h4:w.kind=1\/w.kind=2\/w.kind=3\/w.kind=4:=by omega
  unfold chkW rightW kindB;rw[decide_eq_true hk];rcases h4 with hk|hk|hk|hk
  ·rw[bare_1 hk,hk,in_right];simp
   ac_rfl
  ·rw[bare_2 hk,hk];cases w.hasQ<;>simp<;>ac_rfl
  ·rw[bare_3 hk,hk];cases w.hasQ<;>simp<;>ac_rfl
  ·rw[bare_4 hk,hk];cases w.hasQ<;>simp<;>ac_rfl
 ·unfold chkW rightW;rw[decide_eq_false hk];simp
end
section
def begWords:Nat->List (List UInt8)
 |0=>[wInsert,wInto]
 |1=>[wUpdate]
 |2=>[wDelete,d5p]
 |_=>[wMerge,wInto]
theorem take_head{ts:List Tok}{k k1:Nat}{s:List UInt8}{r:List (List UInt8)}(h:bH ts k (s::r)=some k1):∃x,ts[k]?=some x/\x.t=s:=by
 cases hx:ts[k]? with
 |none=>simp only[bH,hx] at h;cases h
 |some x=>
  rw[nK hx] at h;by_cases hb:isB x s=true
  ·refine⟨x,rfl,?_⟩;unfold isB at hb;simp only[aQ,beq_iff_eq] at hb;exact hb.2
  ·rw[if_neg hb] at h;cases h
theorem take_other{ts:List Tok}{k k1:Nat}{s s':List UInt8}{r r':List (List UInt8)}(h:bH ts k (s::r)=some k1)(hne:s≠s'):bH ts k (s'::r')=none:=by
 cases h2:bH ts k (s'::r') with
 |none=>rfl
 |some k2=>
  obtain⟨x,hx,e⟩:=take_head h;obtain⟨y,hy,e'⟩:=take_head h2;rw[hx] at hy;injection hy with hy;subst hy;exact absurd (e.symm.trans e') hne
theorem begun_at{ts:List Tok}{k k1:Nat}:∀{i:Nat},i<4->bH ts k (begWords i)=some k1->begunR ts k=some (k1,Int.ofNat (i+1))
 |0,_,h=>by unfold begunR;rw[show bH ts k [wInsert,wInto]=some k1 from h];rfl
 |1,_,h=>by unfold begunR;rw[take_other (show bH ts k [wUpdate]=some k1 from h) (s':=wInsert) ae,show bH ts k [wUpdate]=some k1 from h];rfl
 |2,_,h=>by
  have h:bH ts k [wDelete,d5p]=some k1:=h;unfold begunR;rw[take_other h (s':=wInsert) ae,take_other h (s':=wUpdate) ae,h];rfl
 |3,_,h=>by
  have h:bH ts k [wMerge,wInto]=some k1:=h;unfold begunR;rw[take_other h (s':=wInsert) ae,take_other h (s':=wUpdate) ae,take_other h (s':=wDelete) ae,h];rfl
 |i+4,hi,_=>absurd hi aE
theorem begun_none{ts:List Tok}{k:Nat}(h:∀i,i<4->bH ts k (begWords i)=none):begunR ts k=none:=by
 have h0:bH ts k [wInsert,wInto]=none:=h 0 ae;have h1:bH ts k [wUpdate]=none:=h 1 ae;have h2:bH ts k [wDelete,d5p]=none:=h 2 ae;have h3:bH ts k [wMerge,wInto]=none:=h 3 ae;unfold begunR;rw[h0,h1,h2,h3]
def bodyR(ts:List Tok)(n:Nat)(into:So)(k2:Nat):d2u Wr:=match n with
 |0=>insertR ts into k2
 |1=>(setsR ts k2).bind fun k3 l=>(d3s ts d6o k3).bind fun k4 x=> .good k4 ⟨2,into,[],[],false,d3z,[],0,l,x,⟨[],[]⟩,zeroE,[],[]⟩
 |2=>(d3s ts d6o k2).bind fun k3 x=> .good k3 ⟨3,into,[],[],false,d3z,[],0,[],x,⟨[],[]⟩,zeroE,[],[]⟩
 |_=>mergeR ts into k2
def endR(k:Nat)(w:Wr):d2u Wr:=if manyW w then .bad 270 else .good k w
def retR(ts:List Tok)(w:Wr)(k:Nat):d2u Wr:=match bH ts k [wReturning] with
 |none=>endR k w
 |some k1=>(readItems ts k1).bind fun k4 r=>endR k4 {w with ret:=r}
theorem whens_len(ts:List Tok):∀(f k:Nat) (acc:List Wn) (k':Nat) (l:List Wn),whensR ts f k acc= .good k' l->l.length<=acc.length+f
 |0,_,_,_,_,h=>by simp only[whensR] at h;cases h
 |f+1,k,acc,k',l,h=>by
  simp only[whensR] at h;obtain⟨k1,x,h1,h2⟩:=d2u.bind_good h;cases ht:bH ts k1 [wWhen] with
  |none=>
   rw[ht] at h2;injection h2 with h2 h3;rw[<-h3,bD];simp
  |some k2=>
   rw[ht] at h2;have:=whens_len ts f k2 _ k' l h2;rw[bD] at this;simp at this;omega
theorem body_small{ts:List Tok}{into:So}{k2 k':Nat}{w:Wr}:∀{n:Nat},bodyR ts n into k2= .good k' w->w.rows.length<=ts.length/\w.whens.length<=ts.length/\w.ret=[]
 |0,h=>by
  have h:insertR ts into k2= .good k' w:=h;unfold insertR at h;obtain⟨k1,cols,-,h⟩:=d2u.bind_good h;cases ht:bH ts k1 [wValues] with
  |none=>
   rw[ht] at h;obtain⟨k3,q,-,h⟩:=d2u.bind_good h;obtain⟨k4,p,-,h⟩:=d2u.bind_good h;injection h with _ h;subst h;exact⟨dL _,dL _,rfl⟩
  |some k5=>
   rw[ht] at h;obtain⟨k3,rows,hr,h⟩:=d2u.bind_good h;obtain⟨k4,p,-,h⟩:=d2u.bind_good h;injection h with _ h;subst h;have:=d9m _ _ _ _ _ hr;exact⟨by simpa using this,dL _,rfl⟩
 |1,h=>by
  obtain⟨k3,l,-,h⟩:=d2u.bind_good (show(setsR ts k2).bind _=_ from h);obtain⟨k4,x,-,h⟩:=d2u.bind_good h;injection h with _ h;subst h;exact⟨dL _,dL _,rfl⟩
 |2,h=>by
  obtain⟨k3,l,-,h⟩:=d2u.bind_good (show(d3s ts d6o k2).bind _=_ from h);injection h with _ h;subst h;exact⟨dL _,dL _,rfl⟩
 |n+3,h=>by
  have h:mergeR ts into k2= .good k' w:=h;unfold mergeR at h;obtain⟨_,_,-,h⟩:=d2u.bind_good h;obtain⟨_,_,-,h⟩:=d2u.bind_good h;obtain⟨_,_,-,h⟩:=d2u.bind_good h;obtain⟨_,_,-,h⟩:=d2u.bind_good h;obtain⟨_,_,-,h⟩:=d2u.bind_good h;obtain⟨_,l,hl,h⟩:=d2u.bind_good h;injection h with _ h;subst h;have:=whens_len ts _ _ _ _ _ hl;exact⟨dL _,by simpa using this,rfl⟩
theorem ret_eq{ts:List Tok}{w:Wr}{k:Nat}(hw:w.ret=[]):(((returningR ts k).bind fun k4 r=> .good k4 ({w with ret:=r}:Wr)).bind fun k' w=>if manyW w then .bad 270 else .good k' w)=retR ts w k:=by
 unfold returningR retR;cases bH ts k [wReturning] with
 |none=>
  show(if manyW {w with ret:=[]} then _ else _)=endR k w;rw[show({w with ret:=[]}:Wr)=w from by rw[<-hw]];rfl
 |some k1=>
  show((d7m ts k1).bind _).bind _=(readItems ts k1).bind _;unfold readItems;cases d7m ts k1 with
  |bad c=>rfl
  |good k3 l=>
   show(if manyW {w with ret:=l} then _ else _)=(if 32<l.length then _ else _:d2u (List It)).bind _;by_cases h:32<l.length
   ·rw[if_pos h,if_pos (by unfold manyW;simp[h])];rfl
   ·rw[if_neg h];rfl
theorem readW_eq(ts:List Tok)(k:Nat){i k1:Nat}(hi:i<4)(h:bH ts k (begWords i)=some k1):readW ts k=(d3b ts k1).bind fun k2 into=>(bodyR ts i into k2).bind fun k3 w=>retR ts w k3:=by
 unfold readW writeR;rw[begun_at hi h];simp only;cases d3b ts k1 with
 |bad c=>rfl
 |good k2 into=>
  show(d2u.bind (if Int.ofNat (i+1)=1 then _ else _) _).bind _=(bodyR ts i into k2).bind _;have hb:(if Int.ofNat (i+1)=1 then insertR ts into k2
   else if Int.ofNat (i+1)=2 then(setsR ts k2).bind fun k3 l=>(d3s ts d6o k3).bind fun k4 x=> .good k4 ⟨2,into,[],[],false,d3z,[],0,l,x,⟨[],[]⟩,zeroE,[],[]⟩
   else if Int.ofNat (i+1)=3 then(d3s ts d6o k2).bind fun k3 x=> .good k3 ⟨3,into,[],[],false,d3z,[],0,[],x,⟨[],[]⟩,zeroE,[],[]⟩
   else mergeR ts into k2)=bodyR ts i into k2:=by
   match i,hi with
   |0,_=>rfl
   |1,_=>rfl
   |2,_=>rfl
   |3,_=>rfl
  rw[hb];cases hbd:bodyR ts i into k2 with
  |bad c=>rfl
  |good k3 w=>exact ret_eq (body_small hbd).2.2
theorem readW_none(ts:List Tok)(k:Nat)(h:∀i,i<4->bH ts k (begWords i)=none):readW ts k= .bad 261:=by
 unfold readW writeR;rw[begun_none h];rfl
end
end Go.Proofs.YtohlomdapelgeaaGreatDoor
