/- A PART OF THE PROOF: contracts of functions. -/
import Derived.Test.YtjkkoclmagdpoaaGreatDoorT0
import Derived.Orders
import Derived.Laws.Small
import Derived.Laws.Cover3
import Derived.WideLaws
import Derived.RangeFuncRecord
import Derived.RangeFuncIn
import Derived.RangeFuncLeaves
set_option linter.all false
set_option maxRecDepth 4000
namespace Go.Pk
open Go Go.RowKit
variable {p i n d j b g:Nat} {h h' h0 h1 h2 h3:Heap} {v z vi:Value} {w0 w w' w4:World} {l rest:List Oper} {o:Oper} {q:Nat×Nat×Obj} {P:Program} {ops:Array Oper} {σ α:Env} {Kw:Env→World→Prop} {a:Act} {listed:Array Bool} {rc:List (Nat×Oper)} {is:List Nat} {dst:Option Tmp} {e ty type kt et:TypeId} {pos:String} {aft after:Array Edge} {cs us vs:List Value} {op:Op} {c:UInt8} {x y:Operand} {fn:Func} {R:Ending→World→Prop} {A C tail own3:Own} {args:Array Operand} {ats:Array TypeId} {f gf:FuncId} {ds ds0:List Deferred} {body assign:Code} {ps:Array Tmp}
abbrev Er:=List Nat×List Nat×List Nat×List Nat×Nat
variable {er:Er}
def jn (A B:Own):Own:=match B with
 | []=>A
 | b::B=>A++b::B
theorem zGR (A B:Own):jn A B=A++B:=by cases B <;> simp[jn]
structure PF where
 G:Type
 val:G→Value
 fact:G→Heap→Prop
 up:∀ g h h',fact g h→Le h h'→fact g h'
def PF.holds (p:PF) (h:Heap) (v:Value):Prop:=∃ g,v=p.val g∧p.fact g h
theorem PF.holds_up {p:PF} (hh:p.holds h v) (hl:Le h h'):p.holds h' v:=by
 obtain ⟨g,e,f⟩:=hh;exact ⟨g,e,p.up _ _ _ f hl⟩
def PF.det (v:Value):PF:=⟨Unit,fun _=>v,fun _ _=>True,fun _ _ _ _ _=>trivial⟩
def zbT (h:Heap):List (Nat×PF)→(List (Nat×Value)→Prop)→Prop
 | [],k=>k []
 | (d,p)::l,k=>∀ g,p.fact g h→zbT h l (fun vs=>k ((d,p.val g)::vs))
theorem zbT.use {h:Heap} {α:Env}:∀ {l:List (Nat×PF)} {k:List (Nat×Value)→Prop},zbT h l k→(∀ q∈l,q.2.holds h (α q.1))→∃ vs,k vs∧Has α vs
 | [],_,hk,_=>⟨[],hk,trivial⟩
 | (d,p)::l,k,hk,hh=>by
  obtain ⟨g,e,hf⟩:=hh (d,p) (zct ..);obtain ⟨vs,h1,h2⟩:=zbT.use (hk g hf) (fun q hq=>hh q (zcH _ hq));exact ⟨_,h1,e,h2⟩
theorem St.insert {own:Own} (st:St h0 w0 h w own) {k:Nat} (hk:own[k]?=some []) (o:Obj):St h0 w0 h (w.alloc o) (own.set k [(w.heap.size,o)]):=by
 have hlt:k<own.length:=by
  rcases zcO k own.length with h1|h1
  ·exact h1
  ·rw[zbF h1] at hk;cases hk
 have hsplit:own=own.take k++[]::own.drop (k+1):=by
  have h1:own[k]=[]:=by rw[zn hlt] at hk;simpa using hk
  rw[← h1,zhM hlt,zbS]
 have hset:own.set k [(w.heap.size,o)]=own.take k++[(w.heap.size,o)]::own.drop (k+1):=by
  rw[zce,zab hlt]
 have hflat':own.flatten=(own.take k).flatten++(own.drop (k+1)).flatten:=by
  have e:=zcE List.flatten hsplit;simpa using e
 have hflat:(own.set k [(w.heap.size,o)]).flatten=(own.take k).flatten++(w.heap.size,o)::(own.drop (k+1)).flatten:=by rw[hset];simp
 have hold:∀ p∈own.flatten,p.1<w.heap.size:=fun p hp=>zgU (st.mine p hp).1;have hnd:=st.nodup;rw[hflat',zaz,zcx] at hnd;obtain ⟨n1,n2,n3⟩:=hnd;refine ⟨st.le,st.new,fun b o' hb=>?_,st.below.alloc st.below.size o,fun p hp=>?_,?_⟩
 ·rw[zpj _ _ _ (zgU (st.sub b o' hb))];exact st.sub b o' hb
 ·rw[hflat,zcq,zaV] at hp;have hcase:p=(w.heap.size,o)∨p∈own.flatten:=by
   rw[hflat',zcq]
   rcases hp with hp|hp|hp
   ·exact .inr (.inl hp)
   ·exact .inl hp
   ·exact .inr (.inr hp)
  rcases hcase with rfl|hp'
  ·exact ⟨zrI w o,zwO st.sub (zbR _),st.below.size⟩
  ·obtain ⟨a1,a2,a3⟩:=st.mine p hp';exact ⟨by rw[zpj _ _ _ (zgU a1)];exact a1,a2,a3⟩
 rw[hflat,zaz,zbQ,zcx,zgb];have hnot:∀ q∈own.flatten,q.1≠w.heap.size:=fun q hq=>Nat.ne_of_lt (hold q hq);refine ⟨n1,⟨fun hm=>?_,n2⟩,fun a ha c hc e=>?_⟩
 ·obtain ⟨q,hq,e⟩:=zbk.1 hm;exact hnot q (by rw[hflat',zcq];exact .inr hq) e
 rw[zaV] at hc
 rcases hc with hc|hc
 ·obtain ⟨q,hq,e'⟩:=zbk.1 ha;exact hnot q (by rw[hflat',zcq];exact .inl hq) (by rw[e',e,hc])
 exact n3 a ha c hc e
def dd:List Nat→List Nat
 | []=>[]
 | i::l=>bif inL (dd l) i then dd l else i::dd l
theorem zkm {l:List Nat}:inL l i=true↔i∈l:=by
 induction l with
 | nil=>simp[inL]
 | cons d l ih=>
  simp only[inL,zaV];cases e:Nat.beq i d with
  | true=>simp[zhX e]
  | false=>
   have:i≠d:=fun q=>by subst q;simp at e
   simp[this,ih]
theorem zHA {l:List Nat} (h:i∈dd l):i∈l:=by
 induction l with
 | nil=>simp[dd] at h
 | cons c l ih2=>
  simp only[dd] at h;cases e2:inL (dd l) c with
  | true=>rw[e2] at h;exact zcH _ (ih2 h)
  | false=>
   rw[e2] at h;simp only[cond_false,zaV] at h ⊢;exact h.imp id ih2
def bnd (o:Oper):List Nat:=(o.after.toList.filter (Region.binds .any)).map (·.on)
theorem mem_bnd:i∈bnd o↔∃ e∈o.after.toList,Region.binds .any e=true∧e.on=i:=by
 unfold bnd;rw[zbk];constructor
 ·rintro ⟨e,he,rfl⟩;rw[zcl] at he;exact ⟨e,he.1,he.2,rfl⟩
 rintro ⟨e,he,hb,rfl⟩;exact ⟨e,zcl.2 ⟨he,hb⟩,rfl⟩
inductive Kd where
 | flt (p:PF)
 | al (z:Obj)
 | ch
variable {ks rd:List (Nat×Kd)}
def zul:Nat×Kd→Option (Nat×PF)
 | (d,.flt p)=>some (d,p)
 | _=>none
theorem zxe {q:Nat×Kd} {r:Nat×PF} (h:zul q=some r):q=(r.1,.flt r.2):=by
 rcases q with ⟨d,p|z|_⟩ <;> simp[zul] at h
 subst h;rfl
def zmF (o:Oper):List Nat:=dd (bnd o)
def zjp (o:Oper):Nat:=o.dst.getD 0
def zxh (ks:List (Nat×Kd)) (o:Oper):List (Nat×PF):=(zmF o).filterMap fun i=>(ks[i]?).bind zul
def znL (b:Nat):Value:=.pointer (some ⟨b,0,none⟩)
def zrk:Value→Nat
 | .pointer (some a)=>a.block
 | _=>0
def zAc (P:Program) (n:Nat) (ops:Array Oper) (σ:Env) (h:Heap) (w:World) (o:Oper) (p:PF):Prop:=
 M P n ops [o] (fun σ' w'=>∃ v h',σ'=updO σ o.dst v∧St h w h' w' []∧p.holds h' v) σ w
def zHa (P:Program) (n:Nat) (ops:Array Oper) (σ:Env) (w:World) (o:Oper) (Kw:Value→World→Prop):Prop:=
 M P n ops [o] (fun σ' w'=>∃ v,σ'=updO σ o.dst v∧Kw v w') σ w
theorem zuH (h:M P n ops [o] Kw σ w) (ha:Fits n a σ) {next:Act→World→Prop} {Q:Exit→Act→World→Prop} (hk:∀ a' σ' w',Fits n a' σ'→Kw σ' w'→next a' w'):if Region.wanted o (yielded ops a.tmps) then o.wpIn Fence.wide 0 P a w next Q else (∀ f,o.about P w a.eval=some f→Fence.wide.fn f)∧next (a.put o.dst undef) w:=by
 have h:=h a ha;unfold wpListIn at h;split at h
 ·rename_i hw;rw[zab hw];obtain ⟨h0,h⟩:=h;refine ⟨h0,?_⟩;generalize (o.semAt Fence.wide.round a.eval).run P w=r at h ⊢;cases r with
  | ok x w'=>
   cases x with
   | value v=>obtain ⟨_,σ',hf,hK⟩:=h;exact hk _ _ _ hf hK
   | skip=>obtain ⟨_,σ',hf,hK⟩:=h;exact hk _ _ _ hf hK
   | defer d=>obtain ⟨_,σ',hf,hK⟩:=h;exact hk _ _ _ hf hK
   | enter f args=>
    refine ⟨h.1,CallsIn.mono h.2 ?_⟩;intro e w'' he;cases e with
    | returned v=>obtain ⟨_,σ',hf,hK⟩:=he;exact hk _ _ _ hf hK
    | panicked c=>obtain ⟨he,_⟩:=he;cases he
    | outgrown=>obtain ⟨_,_,he,_⟩:=he;cases he
   | row r args=>
    refine ⟨h.1,RowsIn.mono h.2 ?_⟩;intro v w'' he;obtain ⟨_,σ',hf,hK⟩:=he;exact hk _ _ _ hf hK
   | round l f tmps assign body=>
    refine ⟨h.1,RoundIn.mono h.2 ?_⟩;intro e w'' he;cases e with
    | returned v=>obtain ⟨_,σ',hf,hK⟩:=he;exact hk _ _ _ hf hK
    | panicked c=>obtain ⟨he,_⟩:=he;cases he
    | outgrown=>obtain ⟨_,_,he,_⟩:=he;cases he
   | _=>exact h
  | halt x w'=>
   cases x with
   | panic v=>obtain ⟨he,_⟩:=h;cases he
   | _=>exact h
 ·rename_i hw;rw[zam hw];obtain ⟨h0,_,σ',hf,hK⟩:=h;exact ⟨h0,hk _ _ _ hf hK⟩
def zHb (P:Program) (o:Oper) (z:Obj):Prop:=o.guard=none∧∀ σ w,(execOp (ev σ) o).run P w=.ok (.value (znL w.heap.size)) (w.alloc z)
def zvK (o:Oper) (v:Value) (kn:List (Nat×Value)):List (Nat×Value):=
 match o.dst with
 | some d=>(d,v)::kn
 | none=>kn
def zrn (er:Er) (dsts:List Nat) (i:Nat):List Nat:=if inL er.2.2.1 i=true then dsts.filter (fun d=>!inL er.2.1 d) else dsts
section
variable (P:Program) (n:Nat) (l:List Oper) (h0:Heap) (w0:World) (own0:Own) (hr:Heap) (er:Er) (dsts:List Nat) (σ:Env) (Q:Exit→Env→World→Prop)
def Hop (i:Nat) (done:List (Nat×Kd)) (o:Oper) (p:PF):Prop:=
 ∀ h w τ,Le hr h→Sub h w→(inL er.1 i=true→St h0 w0 h w own0)→zbT h (zxh done o) (fun vs=>zAc P n l.toArray (known vs (mix (zrn er dsts i) τ σ)) h w o p)
inductive Hops:List (Nat×Kd)→List Oper→List (Nat×Kd)→Prop
 | nil done:Hops done [] []
 | flt (done:List (Nat×Kd)) (o:Oper) (rest:List Oper) (p:PF) (ks:List (Nat×Kd)):Hop P n l h0 w0 own0 hr er dsts σ done.length done o p→Hops (done++[(zjp o,.flt p)]) rest ks→Hops done (o::rest) ((zjp o,.flt p)::ks)
 | al (done:List (Nat×Kd)) (o:Oper) (rest:List Oper) (z:Obj) (ks:List (Nat×Kd)):zHb P o z→Hops (done++[(zjp o,.al z)]) rest ks→Hops done (o::rest) ((zjp o,.al z)::ks)
 | ch (done:List (Nat×Kd)) (o:Oper) (rest:List Oper) (ks:List (Nat×Kd)):Hops (done++[(zjp o,.ch)]) rest ks→Hops done (o::rest) ((zjp o,.ch)::ks)
def zpS (ks:List (Nat×Kd)):List (Nat×Oper)→Own→List (Nat×Value)→Heap→Prop
 | [],own,kn,hb=>∀ h w τ,Le hb h→St h0 w0 h w own→zbT h (ks.filterMap zul) (fun vs=>Q .normal (known kn (known vs (mix dsts τ σ))) w)
 | (_,o)::rest,own,kn,hb=>∀ h w τ,Le hb h→St h0 w0 h w own→zbT h (zxh ks o) (fun vs=>zHa P n l.toArray (known kn (known vs (mix dsts τ σ))) w o
   (fun v w'=>∃ h' own',Le h h'∧St h0 w0 h' w' own'∧zpS ks rest own' (zvK o v kn) h'))
def zxO (ks:List (Nat×Kd)) (cx:List (Nat×Oper)):List (Nat×Nat×Obj)→Own→Own→List (Nat×Value)→Heap→Prop
 | [],A,B,kn,hb=>zpS P n l h0 w0 dsts σ Q ks cx (jn A B) kn hb
 | (_,d,z)::az,A,B,kn,hb=>∀ b,zxO ks cx az (A++[[(b,z)]]) B ((d,znL b)::kn) hb
def zvr (ks:List (Nat×Kd)) (cx:List (Nat×Oper)) (las:List (Nat×Nat×Obj)):List (Nat×Oper)→Own→Own→List (Nat×Value)→Heap→Prop
 | [],A,B,kn,hb=>zxO P n l h0 w0 dsts σ Q ks cx las A B kn hb
 | (_,o)::rest,A,B,kn,hb=>∀ h w τ ls,ls.length=las.length→Le hb h→St h0 w0 h w (A++ls++B)→zbT h (zxh ks o) (fun vs=>zHa P n l.toArray (known kn (known vs (mix dsts τ σ))) w o
   (fun v w'=>∃ h' A' B',Le h h'∧St h0 w0 h' w' (A'++ls++B')∧zvr ks cx las rest A' B' (zvK o v kn) h'))
def zoj (ks:List (Nat×Kd)) (cx pd:List (Nat×Oper)) (las:List (Nat×Nat×Obj)):List (Nat×Nat×Obj)→Own→List (Nat×Value)→Prop
 | [],own,kn=>zvr P n l h0 w0 dsts σ Q ks cx las pd own [] kn hr
 | (_,d,z)::az,own,kn=>∀ b,zoj ks cx pd las az (own++[[(b,z)]]) ((d,znL b)::kn)
end
def zjH:Nat→List (Nat×Kd)→List (Nat×Nat×Obj)
 | _,[]=>[]
 | i,(d,.al z)::r=>(i,d,z)::zjH (i+1) r
 | i,_::r=>zjH (i+1) r
theorem zsk {j d:Nat} {z:Obj}:∀ {ks:List (Nat×Kd)} {i:Nat},(j,d,z)∈zjH i ks↔∃ k,j=i+k∧ks[k]?=some (d,.al z)
 | [],i=>by simp[zjH]
 | (d',k)::r,i=>by
  have ih:=zsk (j:=j) (d:=d) (z:=z) (ks:=r) (i:=i+1);have shift:(∃ k',j=i+k'∧((d',k)::r)[k']?=some (d,Kd.al z))↔(j=i∧(d',k)=(d,Kd.al z))∨∃ k',j=i+1+k'∧r[k']?=some (d,Kd.al z):=by
   constructor
   ·rintro ⟨k',e,hk⟩;cases k' with
    | zero=>simp at hk;exact .inl ⟨by omega,by simp[hk]⟩
    | succ k'=>exact .inr ⟨k',by omega,by simpa using hk⟩
   ·rintro (⟨e,hk⟩|⟨k',e,hk⟩)
    ·exact ⟨0,by omega,by simp[hk]⟩
    ·exact ⟨k'+1,by omega,by simpa using hk⟩
  rw[shift];cases k with
  | al z'=>
   rw[zjH,zaV,ih];constructor
   ·rintro (e|e)
    ·cases e;exact .inl ⟨rfl,rfl⟩
    ·exact .inr e
   ·rintro (⟨e1,e2⟩|e)
    ·cases e2;subst e1;exact .inl rfl
    ·exact .inr e
  | flt p=>
   rw[zjH,ih]
   ·constructor
    ·exact .inr
    ·rintro (⟨_,e2⟩|e)
     ·cases e2
     ·exact e
   ·simp
  | ch=>
   rw[zjH,ih]
   ·constructor
    ·exact .inr
    ·rintro (⟨_,e2⟩|e)
     ·cases e2
     ·exact e
   ·simp
def zqw (er:Er) (ks:List (Nat×Kd)):List (Nat×Nat×Obj):=(zjH 0 ks).filter fun q=>!inL er.2.2.2.1 q.1
def zmu (er:Er) (ks:List (Nat×Kd)):List (Nat×Nat×Obj):=(zjH 0 ks).filter fun q=>inL er.2.2.2.1 q.1
theorem mem_alsE:q∈zqw er ks↔q∈zjH 0 ks∧inL er.2.2.2.1 q.1=false:=by simp[zqw,zcl]
theorem mem_alsL:q∈zmu er ks↔q∈zjH 0 ks∧inL er.2.2.2.1 q.1=true:=by simp[zmu,zcl]
def unl (n:Nat) (listed:Array Bool):Nat:=(List.range n).countP fun i=>!listed.getD i true
theorem zxj {l:List Nat} (hn:l.Nodup) (hi:i∈l) {p q:Nat→Bool} (hp:p i=true) (hq:q i=false) (he:∀ j,j≠i→q j=p j):l.countP q+1=l.countP p:=by
 induction l with
 | nil=>cases hi
 | cons a l ih=>
  rw[zgb] at hn
  by_cases e:a=i
  ·subst e;have:l.countP q=l.countP p:=List.countP_congr fun j hj=>by
    rw[he j (fun e=>hn.1 (e▸hj))]
   simp[List.countP_cons,hp,hq,this]
  ·have hi':i∈l:=(zaV.1 hi).resolve_left (Ne.symm e);have:=ih hn.2 hi';rw[List.countP_cons,List.countP_cons,he a e];omega
def zwL (n:Nat):Nat→List Oper→List Nat→Bool
 | _,[],_=>true
 | i,o::l,seen=>(match o.dst with|some d=>Nat.blt d n && !inL seen d|none=>true) && (o.after.toList.all fun e=>!Region.binds .any e || Nat.blt e.on i) && zwL n (i+1) l (match o.dst with|some d=>d::seen|none=>seen)
theorem zje {n:Nat}:∀ {l:List Oper} {i:Nat} {seen:List Nat},zwL n i l seen=true→
  (∀ (j:Nat) (o:Oper),l[j]?=some o→(∀ d,o.dst=some d→d<n∧d ∉ seen)∧(∀ e∈o.after.toList,Region.binds .any e=true→e.on<i+j))∧
  (∀ (j k:Nat) (o o':Oper) (d:Nat),l[j]?=some o→l[k]?=some o'→j≠k→o.dst=some d→o'.dst≠some d)
 | [],_,_,_=>by simp
 | o::l,i,seen,h=>by
  simp only[zwL,zK] at h;obtain ⟨⟨h1,h2⟩,h3⟩:=h;obtain ⟨g1,g2⟩:=zje h3;have hseen:∀ x,x∈seen→x∈(match o.dst with|some d=>d::seen|none=>seen):=by
   intro x hx;cases o.dst with
   | none=>exact hx
   | some d=>exact zcH _ hx
  constructor
  ·intro j o' hj;cases j with
   | zero=>
    simp at hj;subst hj;refine ⟨fun d hd=>?_,fun e he hb=>?_⟩
    ·rw[hd] at h1;simp only[zK,zfp] at h1;refine ⟨zdU h1.1,fun hm=>?_⟩;rw[zkm.2 hm] at h1;cases h1.2
    ·have:=zal.1 h2 e he;simp only[hb,Bool.not_true,zes] at this;exact zdU this
   | succ j=>
    obtain ⟨a1,a4⟩:=g1 j o' (by simpa using hj);exact ⟨fun d hd=>⟨(a1 d hd).1,fun hm=>(a1 d hd).2 (hseen _ hm)⟩,fun e he hb=>by have:=a4 e he hb;omega⟩
  ·intro j k a b d hj hk hne hd hd';have first:∀ (k:Nat) (b:Oper),l[k]?=some b→o.dst=some d→b.dst=some d→False:=by
    intro k b hb e e';have:=(g1 k b hb).1 d e';rw[e] at this;exact this.2 (zct ..)
   cases j with
   | zero=>
    simp at hj;subst hj;cases k with
    | zero=>exact absurd rfl hne
    | succ k=>exact first k b (by simpa using hk) hd hd'
   | succ j=>
    cases k with
    | zero=>simp at hk;subst hk;exact first j a (by simpa using hj) hd' hd
    | succ k=>exact g2 j k a b d (by simpa using hj) (by simpa using hk) zW hd hd'
def zye:List Oper→List (Nat×Kd)→Bool
 | [],_=>true
 | _,[]=>true
 | o::l,(_,.ch)::ks=>zye l ks
 | o::l,_::ks=>o.dst.isSome && zye l ks
theorem zsm:∀ {l:List Oper} {ks:List (Nat×Kd)},zye l ks=true→∀ (j:Nat) (o:Oper) (d:Nat) (k:Kd),l[j]?=some o→ks[j]?=some (d,k)→k≠.ch→o.dst=some (zjp o)
 | [],_,_=>by simp
 | _::_,[],_=>by simp
 | o::l,(d0,k0)::ks,h=>by
  intro j o' d k hj hk hne;cases j with
  | zero=>
   simp at hj hk;obtain ⟨rfl,rfl⟩:=hk;subst hj;have:o.dst.isSome=true:=by
    cases k0 with
    | ch=>exact absurd rfl hne
    | flt p=>simp only[zye,zK] at h;exact h.1
    | al z=>simp only[zye,zK] at h;exact h.1
   cases e:o.dst with
   | none=>rw[e] at this;cases this
   | some d=>simp[zjp,e]
  | succ j=>
   have h':zye l ks=true:=by
    cases k0 with
    | ch=>exact h
    | flt p=>simp only[zye,zK] at h;exact h.2
    | al z=>simp only[zye,zK] at h;exact h.2
   exact zsm h' j o' d k (by simpa using hj) (by simpa using hk) hne
def zsY:Nat→List (Nat×Kd)→List Nat
 | _,[]=>[]
 | i,(_,.ch)::r=>i::zsY (i+1) r
 | i,_::r=>zsY (i+1) r
theorem zuU {j:Nat}:∀ {ks:List (Nat×Kd)} {i:Nat},j∈zsY i ks↔∃ k d,j=i+k∧ks[k]?=some (d,.ch)
 | [],i=>by simp[zsY]
 | (d',k)::r,i=>by
  have ih:=zuU (j:=j) (ks:=r) (i:=i+1);have shift:(∃ k' d,j=i+k'∧((d',k)::r)[k']?=some (d,Kd.ch))↔(j=i∧k=Kd.ch)∨∃ k' d,j=i+1+k'∧r[k']?=some (d,Kd.ch):=by
   constructor
   ·rintro ⟨k',d,e,hk⟩;cases k' with
    | zero=>simp at hk;exact .inl ⟨by omega,hk.2⟩
    | succ k'=>exact .inr ⟨k',d,by omega,by simpa using hk⟩
   ·rintro (⟨e,hk⟩|⟨k',d,e,hk⟩)
    ·exact ⟨0,d',by omega,by simp[hk]⟩
    ·exact ⟨k'+1,d,by omega,by simpa using hk⟩
  rw[shift];cases k with
  | ch=>rw[zsY,zaV,ih];simp
  | flt p=>rw[zsY,ih] <;> simp
  | al z=>rw[zsY,ih] <;> simp
def zAu:List (Nat×Oper)→Bool
 | (c,_)::(c',o')::r=>inL (bnd o') c && zAu ((c',o')::r)
 | _=>true
theorem zqE:∀ {cx:List (Nat×Oper)},zAu cx=true→∀ (j:Nat) (q q':Nat×Oper),cx[j]?=some q→cx[j+1]?=some q'→q.1∈bnd q'.2
 | [],_=>by simp
 | [_],_=>by
  intro j q q' _ h2;simp at h2
 | (c,o)::(c',o')::r,h=>by
  simp only[zAu,zK] at h;intro j q q' h1 h2;cases j with
  | zero=>simp at h1 h2;subst h1;subst h2;exact zkm.1 h.1
  | succ j=>exact zqE h.2 j q q' (by simpa using h1) (by simpa using h2)
theorem zui {α:Env}:∀ {kn:List (Nat×Value)},Has α kn↔∀ q∈kn,α q.1=q.2
 | []=>by simp[Has]
 | (d,v)::l=>by
  rw[Has,zui];simp
def zGu (l:List Oper) (o:Oper):List Nat:=bnd o++(bnd o).flatMap fun j=>match l[j]? with|some p=>bnd p|none=>[]
theorem zFv (hlt:listed.size=l.length) (hc:∀ (j:Nat) (o:Oper),l[j]?=some o→listed[j]?=some true→∀ i∈bnd o,listed[i]?=some true) (h:∀ j∈bnd o,listed[j]?=some true):∀ j∈zGu l o,listed[j]?=some true:=by
 intro j hj;rw[zGu,zcq,zeh] at hj
 rcases hj with hj|⟨i,hi,hj⟩
 ·exact h j hj
 cases e:l[i]? with
 | none=>rw[e] at hj;cases hj
 | some p=>rw[e] at hj;exact hc i p e (h i hi) j hj
def zzw (l:List Oper) (ks:List (Nat×Kd)) (er:Er):List (Nat×Oper)→Bool
 | []=>true
 | (_,o)::_=>er.1.all (inL (zGu l o)) && (zqw er ks).all fun q=>inL (bnd o) q.1
def zuo (er:Er) (cx:List (Nat×Oper)):Bool:=match cx.drop er.2.2.2.2 with
 | []=>er.2.2.2.1.isEmpty && Nat.beq er.2.2.2.2 0
 | (_,o)::_=>er.2.2.2.1.all (inL (bnd o))
def zCe (late readers:List Nat) (l:List Oper):Bool:=l.all fun o=>match o.dst with|some d=>!inL late d || readers.all (inL (bnd o))|none=>true
theorem zAW {late readers:List Nat} (h:zCe late readers l=true) {r: Nat} (ho:o∈l) (hd:o.dst=some d) (hl:inL late d=true) (hr:inL readers r=true):r∈bnd o:=by
 have:=zal.1 h o ho;simp only[hd,hl,Bool.not_true,zes] at this;exact zkm.1 (zal.1 this r (zkm.1 hr))
theorem Hops.get {own0:Own} {hr:Heap} {dsts:List Nat} {m:List Oper} {done: List (Nat×Kd)} (h:Hops P n l h0 w0 own0 hr er dsts σ done m ks):
  m.length=ks.length∧∀ i o,m[i]?=some o→∃ k,ks[i]?=some (zjp o,k)∧
   (∀ p,k=.flt p→Hop P n l h0 w0 own0 hr er dsts σ (done.length+i) (done++ks.take i) o p)∧(∀ z,k=.al z→zHb P o z):=by
 induction h with
 | nil done=>exact ⟨rfl,by simp⟩
 | flt done o rest p ks h1 h2 ih=>
  obtain ⟨e,hg⟩:=ih;refine ⟨by simp[e],fun i o' hi=>?_⟩;cases i with
  | zero=>simp at hi;subst hi;exact ⟨_,rfl,fun p' e=>by cases e;simpa using h1,fun z e=>by cases e⟩
  | succ i=>
   obtain ⟨k,h3,h4,h5⟩:=hg i o' (by simpa using hi);refine ⟨k,by simpa using h3,fun p' e=>?_,h5⟩;have:=h4 p' e;rw[zj,List.length_singleton,zaB] at this;have e2:done.length+1+i=done.length+(i+1):=by omega
   rw[e2] at this;simpa using this
 | al done o rest z ks h1 h2 ih=>
  obtain ⟨e,hg⟩:=ih;refine ⟨by simp[e],fun i o' hi=>?_⟩;cases i with
  | zero=>simp at hi;subst hi;exact ⟨_,rfl,fun p' e=>(by cases e),fun z' e=>by cases e;exact h1⟩
  | succ i=>
   obtain ⟨k,h3,h4,h5⟩:=hg i o' (by simpa using hi);refine ⟨k,by simpa using h3,fun p' e=>?_,h5⟩;have:=h4 p' e;rw[zj,List.length_singleton,zaB] at this;have e2:done.length+1+i=done.length+(i+1):=by omega
   rw[e2] at this;simpa using this
 | ch done o rest ks h2 ih=>
  obtain ⟨e,hg⟩:=ih;refine ⟨by simp[e],fun i o' hi=>?_⟩;cases i with
  | zero=>simp at hi;subst hi;exact ⟨_,rfl,fun p' e=>(by cases e),fun z' e=>by cases e⟩
  | succ i=>
   obtain ⟨k,h3,h4,h5⟩:=hg i o' (by simpa using hi);refine ⟨k,by simpa using h3,fun p' e=>?_,h5⟩;have:=h4 p' e;rw[zj,List.length_singleton,zaB] at this;have e2:done.length+1+i=done.length+(i+1):=by omega
   rw[e2] at this;simpa using this
def zlu (listed:Array Bool) (α:Env) (az:List (Nat×Nat×Obj)):Own:=az.map fun q=>if listed[q.1]?=some true then [(zrk (α q.2.1),q.2.2)] else []
theorem zuM {P:Program} {n:Nat} {l:List Oper} {h0:Heap} {w0:World} {hr:Heap} {dsts:List Nat} {σ:Env} {Q:Exit→Env→World→Prop} {ks:List (Nat×Kd)} {cx pd:List (Nat×Oper)} {las:List (Nat×Nat×Obj)} {listed:Array Bool} {α:Env}:∀ {az:List (Nat×Nat×Obj)} {own:Own} {kn:List (Nat×Value)},
  zoj P n l h0 w0 hr dsts σ Q ks cx pd las az own kn→(∀ q∈az,listed[q.1]?=some true∧α q.2.1=znL (zrk (α q.2.1)))→Has α kn→
  ∃ kn',zvr P n l h0 w0 dsts σ Q ks cx las pd (own++zlu listed α az) [] kn' hr∧Has α kn'∧(∀ q∈kn',q∈kn∨∃ a∈az,q.1=a.2.1)
 | [],own,kn,h,_,hk=>⟨kn,by simpa [zlu,zoj] using h,hk,fun q hq=>.inl hq⟩
 | (i,d,z)::az,own,kn,h,ha,hk=>by
  obtain ⟨hl,he⟩:=ha _ (zct ..);simp only at hl he;obtain ⟨kn',h1,h2,h3⟩:=zuM (h (zrk (α d))) (fun q hq=>ha q (zcH _ hq)) ⟨he,hk⟩;refine ⟨kn',?_,h2,fun q hq=>?_⟩
  ·simp only[zlu,zbQ,hl,if_true] at h1 ⊢;simpa [zaB] using h1
  ·rcases h3 q hq with h|⟨a,ha,e⟩
   ·rw[zaV] at h
    rcases h with rfl|h
    ·exact .inr ⟨_,zct ..,rfl⟩
    ·exact .inl h
   ·exact .inr ⟨a,zcH _ ha,e⟩
theorem zAV {P:Program} {n:Nat} {l:List Oper} {h0:Heap} {w0:World} {dsts:List Nat} {σ:Env} {Q:Exit→Env→World→Prop} {ks:List (Nat×Kd)} {cx:List (Nat×Oper)} {listed:Array Bool} {α:Env} {hb:Heap} {B:Own}:∀ {az:List (Nat×Nat×Obj)} {own:Own} {kn:List (Nat×Value)},
  zxO P n l h0 w0 dsts σ Q ks cx az own B kn hb→(∀ q∈az,listed[q.1]?=some true∧α q.2.1=znL (zrk (α q.2.1)))→Has α kn→
  ∃ kn',zpS P n l h0 w0 dsts σ Q ks cx (own++zlu listed α az++B) kn' hb∧Has α kn'∧(∀ q∈kn',q∈kn∨∃ a∈az,q.1=a.2.1)
 | [],own,kn,h,_,hk=>⟨kn,by simpa [zlu,zxO,zGR] using h,hk,fun q hq=>.inl hq⟩
 | (i,d,z)::az,own,kn,h,ha,hk=>by
  obtain ⟨hl,he⟩:=ha _ (zct ..);simp only at hl he;obtain ⟨kn',h1,h2,h3⟩:=zAV (h (zrk (α d))) (fun q hq=>ha q (zcH _ hq)) ⟨he,hk⟩;refine ⟨kn',?_,h2,fun q hq=>?_⟩
  ·simp only[zlu,zbQ,hl,if_true] at h1 ⊢;simpa [zaB] using h1
  ·rcases h3 q hq with h|⟨a,ha,e⟩
   ·rw[zaV] at h
    rcases h with rfl|h
    ·exact .inr ⟨_,zct ..,rfl⟩
    ·exact .inl h
   ·exact .inr ⟨a,zcH _ ha,e⟩
section
variable {P:Program} {n:Nat} {l:List Oper} {h0:Heap} {w0:World} {own0:Own} {hr:Heap} {er:Er} {dsts:List Nat} {σ:Env} {Q:Exit→Env→World→Prop} {ks:List (Nat×Kd)} {cx:List (Nat×Oper)}
structure Shape (n:Nat) (l:List Oper) (ks:List (Nat×Kd)) (cx:List (Nat×Oper)) (er:Er) (dsts:List Nat):Prop where
 ok:zwL n 0 l []=true
 kd:zye l ks=true
 ds:l.filterMap (·.dst)=dsts
 ch:zsY 0 ks=cx.map (·.1)
 seq:zAu cx=true
 fst:zzw l ks er cx=true
 cl:zuo er cx=true
 late:zCe er.2.1 er.2.2.1 l=true
 ops:∀ q∈cx,l[q.1]?=some q.2
def FH (ks:List (Nat×Kd)) (listed:Array Bool) (α:Env) (h:Heap):Prop:=∀ (i d:Nat) (p:PF),listed[i]?=some true→ks[i]?=some (d,.flt p)→p.holds h (α d)
def Ph0 (h0:Heap) (w0:World) (own0:Own) (er:Er) (ks:List (Nat×Kd)) (cx:List (Nat×Oper)) (listed:Array Bool) (α:Env) (h:Heap) (w:World):Prop:=
 (∀ q∈cx,listed[q.1]?≠some true)∧St h0 w0 h w (own0++zlu listed α (zqw er ks)++zlu listed α (zmu er ks))∧∀ q∈zjH 0 ks,listed[q.1]?=some true→α q.2.1=znL (zrk (α q.2.1))
def PhP (P:Program) (n:Nat) (l:List Oper) (h0:Heap) (w0:World) (er:Er) (dsts:List Nat) (σ:Env) (Q:Exit→Env→World→Prop) (ks:List (Nat×Kd)) (cx:List (Nat×Oper)) (listed:Array Bool) (α:Env) (h:Heap) (w:World):Prop:=
 ∃ k A B kn hb,(0<k∧k≤er.2.2.2.2)∧(∀ (j:Nat) (q:Nat×Oper),cx[j]?=some q→(listed[q.1]?=some true↔j<k))∧zvr P n l h0 w0 dsts σ Q ks (cx.drop er.2.2.2.2) (zmu er ks) ((cx.take er.2.2.2.2).drop k) A B kn hb∧Le hb h∧St h0 w0 h w (A++zlu listed α (zmu er ks)++B)∧Has α kn∧
  (∀ q∈kn,∃ (i:Nat) (o:Oper),listed[i]?=some true∧l[i]?=some o∧o.dst=some q.1)∧(∀ q∈zqw er ks,listed[q.1]?=some true)∧(∀ q∈zmu er ks,listed[q.1]?=some true→α q.2.1=znL (zrk (α q.2.1)))∧(∀ i,inL er.1 i=true→listed[i]?=some true)
def Ph1 (P:Program) (n:Nat) (l:List Oper) (h0:Heap) (w0:World) (er:Er) (dsts:List Nat) (σ:Env) (Q:Exit→Env→World→Prop) (ks:List (Nat×Kd)) (cx:List (Nat×Oper)) (listed:Array Bool) (α:Env) (h:Heap) (w:World):Prop:=
 ∃ k own kn hb,(0<k∧er.2.2.2.2<k)∧(∀ (j:Nat) (q:Nat×Oper),cx[j]?=some q→(listed[q.1]?=some true↔j<k))∧zpS P n l h0 w0 dsts σ Q ks (cx.drop k) own kn hb∧Le hb h∧St h0 w0 h w own∧Has α kn∧
  (∀ q∈kn,∃ (i:Nat) (o:Oper),listed[i]?=some true∧l[i]?=some o∧o.dst=some q.1)∧(∀ q∈zjH 0 ks,listed[q.1]?=some true)∧(∀ i,inL er.1 i=true→listed[i]?=some true)
def Agr (l:List Oper) (dsts:List Nat) (σ:Env) (listed:Array Bool) (α:Env):Prop:=
 zfs dsts α σ∧(∀ (j:Nat) (o:Oper) (d:Nat),l[j]?=some o→o.dst=some d→listed[j]?≠some true→α d=σ d)∧(∀ (j:Nat) (o:Oper),l[j]?=some o→listed[j]?=some true→∀ i∈bnd o,listed[i]?=some true)
def Inv (P:Program) (n:Nat) (l:List Oper) (h0:Heap) (w0:World) (own0:Own) (hr:Heap) (er:Er) (dsts:List Nat) (σ:Env) (Q:Exit→Env→World→Prop) (ks:List (Nat×Kd)) (cx:List (Nat×Oper)) (listed:Array Bool) (α:Env) (w:World):Prop:=
 Agr l dsts σ listed α∧∃ h,Le hr h∧FH ks listed α h∧(Ph0 h0 w0 own0 er ks cx listed α h w∨PhP P n l h0 w0 er dsts σ Q ks cx listed α h w∨Ph1 P n l h0 w0 er dsts σ Q ks cx listed α h w)
theorem zwz (h:(listed.setIfInBounds i true)[j]?=some true):j=i∨listed[j]?=some true:=by
 by_cases e:j=i
 ·exact .inl e
 rw[zbi (Ne.symm e)] at h;exact .inr h
theorem zhd (h:listed[j]?=some true):(listed.setIfInBounds i true)[j]?=some true:=by
 by_cases e:j=i
 ·subst e;obtain ⟨hlt,_⟩:=Array.getElem?_eq_some_iff.1 h;simp[hlt]
 rw[zbi (Ne.symm e)];exact h
theorem zoc {d:Option Nat} {t:Nat} (h:d≠some t):updO α d v t=α t:=by
 cases d with
 | none=>rfl
 | some d=>exact zzh _ _ _ _ (fun e=>h (by rw[e]))
theorem FH.step (sh:Shape n l ks cx er dsts) (hd:∀ (j:Nat) (o:Oper) (k:Kd) (d:Nat),l[j]?=some o→ks[j]?=some (d,k)→d=zjp o) (hlen:l.length=ks.length) (hi:l[i]?=some o) (hl:Le h h') (hf:FH ks listed α h) (hnew:∀ (d:Nat) (p:PF),ks[i]?=some (d,.flt p)→p.holds h' v):FH ks (listed.setIfInBounds i true) (updO α o.dst v) h':=by
 intro j d p hj hk;obtain ⟨hjl,_⟩:=k_List_getElem__eq_some_iff.1 hk;have hjo:l[j]?=some (l[j]'zW):=zn zW;have hjd:=zsm sh.kd j _ d _ hjo hk (by simp);have hdd:=hd j _ _ _ hjo hk
 by_cases e:j=i
 ·subst e;rw[hi] at hjo;cases hjo;rw[hjd,hdd];have:=hnew d p hk;simpa [updO,zqi,hdd] using this
 ·have hold:listed[j]?=some true:=(zwz hj).resolve_left e;have hne:o.dst≠some d:=by
   rw[hdd];exact fun q=>(zje sh.ok).2 j i _ o (zjp _) hjo hi e hjd q
  rw[zoc hne];exact PF.holds_up (hf j d p hold hk) hl
theorem zCo (sh:Shape n l ks cx er dsts) (hi:l[i]?=some o) (h:zfs dsts α σ):zfs dsts (updO α o.dst v) σ:=by
 cases e:o.dst with
 | none=>exact h
 | some d=>
  refine znf ?_ h;rw[zkm,← sh.ds];exact List.mem_filterMap.2 ⟨o,zD hi,e⟩
theorem zsp (sh:Shape n l ks cx er dsts) (hsz:listed.size=l.length) (hi:l[i]?=some o) (hready:∀ j∈bnd o,listed[j]?=some true) (h:Agr l dsts σ listed α):Agr l dsts σ (listed.setIfInBounds i true) (updO α o.dst v):=by
 obtain ⟨a1,a2,a3⟩:=h;obtain ⟨hil,_⟩:=k_List_getElem__eq_some_iff.1 hi;refine ⟨zCo sh hi a1,fun j o' d hj hd hn=>?_,fun j o' hj hl i' hi'=>?_⟩
 ·by_cases e:j=i
  ·subst e;have hjs:j<listed.size:=by omega
   exact absurd (by simp[hjs]) hn
  ·rw[zoc ((zje sh.ok).2 j i o' o d hj hi e hd)];exact a2 j o' d hj hd (fun q=>hn (zhd q))
 rcases zwz hl with e|e
 ·subst e;rw[hi] at hj;cases hj;exact zhd (hready i' hi')
 exact zhd (a3 j o' hj e i' hi')
theorem zyV {m:Nat} (hf:FH ks listed α h) (hb:∀ i∈bnd o,listed[i]?=some true):∀ q∈zxh (ks.take m) o,q.2.holds h (α q.1):=by
 intro q hq;obtain ⟨j,hj1,hj2⟩:=List.mem_filterMap.1 hq;rw[zaR] at hj2;split at hj2
 ·cases e:ks[j]? with
  | none=>rw[e] at hj2;cases hj2
  | some r=>
   rw[e] at hj2;have:=zxe hj2;exact hf j q.1 q.2 (hb j (zHA hj1)) (by rw[e,this])
 cases hj2
theorem znS (h:i∈Region.ready .any l.toArray listed):∃ o,l[i]?=some o∧listed[i]?≠some true∧∀ j∈bnd o,listed[j]?=some true:=by
 unfold Region.ready at h;rw[zcl] at h;obtain ⟨hi1,hi2⟩:=h;have hil:i<l.length:=by simpa using hi1
 rw[zK] at hi2;obtain ⟨hi3,hi4⟩:=hi2;have hnl:listed.getD i true=false:=by simpa using hi3
 rw[zdI,zn hil] at hi4;simp only[zck,zdK] at hi4;rw[← Array.all_toList,zal] at hi4;refine ⟨_,zn hil,fun e=>?_,fun j hj=>?_⟩
 ·simp[zbb,e] at hnl
 obtain ⟨ed,h1,h2,rfl⟩:=mem_bnd.1 hj;have hx:=hi4 ed h1;rw[h2] at hx;simp only[Bool.not_true,zes] at hx;cases e:listed[ed.on]? with
 | none=>simp[zbb,e] at hx
 | some b=>simp[zbb,e] at hx;rw[hx]
theorem zCm (hok:zwL n 0 l []=true) (hsz:listed.size=l.length) (hnil:Region.ready .any l.toArray listed=[]):∀ i,i<l.length→listed[i]?=some true:=by
 intro i
 induction i using Nat.strongRecOn with
 | _ i ih=>
  intro hi;cases e:listed[i]? with
  | none=>rw[Array.getElem?_eq_none_iff] at e;omega
  | some b=>
   cases b with
   | true=>rfl
   | false=>
    exfalso;have hmem:i∈Region.ready .any l.toArray listed:=by
     unfold Region.ready;rw[zcl];refine ⟨by simp[hi],?_⟩;have e1:listed.getD i true=false:=by simp[zbb,e]
     simp only[e1,Bool.not_false,zdQ];rw[zdI,zn hi];simp only[zck,zdK];rw[← Array.all_toList,zal];intro ed hed;have h4:=((zje hok).1 i _ (zn hi)).2;cases hb:Region.binds .any ed with
     | false=>rfl
     | true=>
      have:=h4 ed hed hb;have:=ih ed.on zW zW;simp[zbb,this]
    rw[hnil] at hmem;cases hmem
theorem ztN {fuel: Nat} (hsz:listed.size=l.length) (hil:i<l.length) (hn:listed[i]?≠some true) (hu:unl l.length listed≤fuel+1):unl l.length (listed.setIfInBounds i true)≤fuel:=by
 have hlt:i<listed.size:=by omega
 have hf:listed[i]=false:=by
  cases e:listed[i] with
  | false=>rfl
  | true=>exact absurd (by rw[zcr hlt,e]) hn
 have hnl:listed.getD i true=false:=by simp[zbb,hlt,hf]
 have hpi:(!listed.getD i true)=true:=by rw[hnl];rfl
 have hqi:(!(listed.setIfInBounds i true).getD i true)=false:=by simp[zbb,hlt]
 have:=zxj (l:=List.range l.length) List.nodup_range (by simpa using hil) (p:=fun j=>!listed.getD j true) (q:=fun j=>!(listed.setIfInBounds i true).getD j true) hpi hqi
  (fun j hj=>by simp only[zbb];rw[zbi (Ne.symm hj)])
 unfold unl at hu ⊢;omega
end
section
variable {P:Program} {n:Nat} {l:List Oper} {h0:Heap} {w0:World} {own0:Own} {hr:Heap} {er:Er} {dsts:List Nat} {σ:Env} {Q:Exit→Env→World→Prop} {ks:List (Nat×Kd)} {cx:List (Nat×Oper)}
theorem zsc:∀ (ks:List (Nat×Kd)) (i:Nat),(zjH i ks).Pairwise (fun a b=>a.1<b.1)
 | [],_=>List.Pairwise.nil
 | (d,.al z)::r,i=>by
  rw[zjH,List.pairwise_cons];refine ⟨fun q hq=>?_,zsc r (i+1)⟩;obtain ⟨j,d',z'⟩:=q;obtain ⟨k,e,_⟩:=zsk.1 hq;show i<j;omega
 | (d,.flt p)::r,i=>by rw[zjH];exact zsc r (i+1);simp
 | (d,.ch)::r,i=>by rw[zjH];exact zsc r (i+1);simp
theorem zvo (sh:Shape n l ks cx er dsts) (hd:∀ (j:Nat) (o:Oper) (k:Kd) (d:Nat),l[j]?=some o→ks[j]?=some (d,k)→d=zjp o) (hlen:l.length=ks.length) (hq:q∈zjH 0 ks):
  ∃ oj,l[q.1]?=some oj∧oj.dst=some q.2.1∧ks[q.1]?=some (q.2.1,.al q.2.2):=by
 obtain ⟨j,d,z⟩:=q;obtain ⟨k,e,hk⟩:=zsk.1 hq;rw[zdv] at e;subst e;obtain ⟨hjl,_⟩:=k_List_getElem__eq_some_iff.1 hk;have hjo:l[j]?=some (l[j]'zW):=zn zW;exact ⟨_,hjo,by rw[zsm sh.kd j _ d _ hjo hk (by simp),hd j _ _ _ hjo hk],hk⟩
theorem zCQ (sh:Shape n l ks cx er dsts) (hd:∀ (j:Nat) (o:Oper) (k:Kd) (d:Nat),l[j]?=some o→ks[j]?=some (d,k)→d=zjp o) (hlen:l.length=ks.length) (hq:q∈zjH 0 ks) (hi:l[i]?=some o) (hne:q.1≠i):o.dst≠some q.2.1:=by
 obtain ⟨oj,h1,h2,_⟩:=zvo sh hd hlen hq;exact fun e=>(zje sh.ok).2 q.1 i oj o _ h1 hi hne h2 e
theorem zyU (sh:Shape n l ks cx er dsts) (hd:∀ (j:Nat) (o:Oper) (k:Kd) (d:Nat),l[j]?=some o→ks[j]?=some (d,k)→d=zjp o) (hlen:l.length=ks.length) (hi:l[i]?=some o) (hna:∀ d z,ks[i]?≠some (d,.al z)):
  (∀ az,(∀ q∈az,q∈zjH 0 ks)→zlu (listed.setIfInBounds i true) (updO α o.dst v) az=zlu listed α az)∧∀ q∈zjH 0 ks,(listed.setIfInBounds i true)[q.1]?=listed[q.1]?∧updO α o.dst v q.2.1=α q.2.1:=by
 have key:∀ q∈zjH 0 ks,(listed.setIfInBounds i true)[q.1]?=listed[q.1]?∧updO α o.dst v q.2.1=α q.2.1:=by
  intro q hq;have hne:q.1≠i:=by
   intro e;obtain ⟨_,_,_,h3⟩:=zvo sh hd hlen hq;rw[e] at h3;exact hna _ _ h3
  exact ⟨zbi (Ne.symm hne),zoc (zCQ sh hd hlen hq hi hne)⟩
 refine ⟨fun az has=>?_,key⟩;unfold zlu;refine zgo fun q hq=>?_;obtain ⟨h1,h2⟩:=key q (has q hq);rw[h1,h2]
theorem zAl {er:Er} {ks:List (Nat×Kd)}:∀ q∈zqw er ks,q∈zjH 0 ks:=fun _ h=>(mem_alsE.1 h).1
theorem zvW {er:Er} {ks:List (Nat×Kd)}:∀ q∈zmu er ks,q∈zjH 0 ks:=fun _ h=>(mem_alsL.1 h).1
theorem zGT (sh:Shape n l ks cx er dsts) {k:Kd} (hk:ks[i]?=some (d,k)) (hne:k≠.ch):∀ q∈cx,q.1≠i:=by
 intro q hq e;have:q.1∈zsY 0 ks:=by rw[sh.ch];exact zdq hq
 obtain ⟨k',d',e',h'⟩:=zuU.1 this;rw[zdv] at e';rw[← e',e,hk] at h';cases h';exact hne rfl
theorem zFr (sh:Shape n l ks cx er dsts) {k: Nat} {q q':Nat×Oper} (hj:cx[j]?=some q) (hk:cx[k]?=some q') (hlt:j<k):q.1<q'.1:=by
 have aux:∀ m j (q q':Nat×Oper),cx[j]?=some q→cx[j+m+1]?=some q'→q.1<q'.1:=by
  intro m
  induction m with
  | zero=>
   intro j q q' h1 h2;have h3:=zqE sh.seq j q q' h1 h2;obtain ⟨e,he,hb,heq⟩:=mem_bnd.1 h3;have:=((zje sh.ok).1 q'.1 q'.2 (sh.ops q' (zD h2))).2 e he hb;omega
  | succ m ih=>
   intro j q q' h1 h2;obtain ⟨hlt,_⟩:=k_List_getElem__eq_some_iff.1 h2;have h3:cx[j+1]?=some (cx[j+1]'zW):=zn zW;have h4:=zqE sh.seq j q _ h1 h3;obtain ⟨e,he,hb,heq⟩:=mem_bnd.1 h4;have h5:=((zje sh.ok).1 _ _ (sh.ops _ (zD h3))).2 e he hb;have h6:=ih (j+1) _ q' h3 (by rw[← h2];congr 1;omega);omega
 obtain ⟨m,rfl⟩:∃ m,k=j+m+1:=⟨k-j-1,by omega⟩;exact aux m j q q' hj hk
theorem zGe (sh:Shape n l ks cx er dsts) (hd:∀ (j:Nat) (o:Oper) (k:Kd) (d:Nat),l[j]?=some o→ks[j]?=some (d,k)→d=zjp o) (hlen:l.length=ks.length) {p:PF} (hi:l[i]?=some o) (hk:ks[i]?=some (d,.flt p)) (hnl:listed[i]?≠some true) (ha:Agr l dsts σ (listed.setIfInBounds i true) (updO α o.dst v)) (hle:Le hr h) (hf:FH ks listed α h) (hp:(Ph0 h0 w0 own0 er ks cx listed α h w∨PhP P n l h0 w0 er dsts σ Q ks cx listed α h w∨Ph1 P n l h0 w0 er dsts σ Q ks cx listed α h w)) (s:St h w h' w' []) (hv:p.holds h' v):Inv P n l h0 w0 own0 hr er dsts σ Q ks cx (listed.setIfInBounds i true) (updO α o.dst v) w':=by
 refine ⟨ha,h',hle.trans s.le,hf.step sh hd hlen hi s.le (fun d' p' e=>by rw[hk] at e;cases e;exact hv),?_⟩;obtain ⟨he,hes⟩:=zyU sh hd hlen (listed:=listed) (α:=α) (v:=v) hi (fun d z e=>by rw[hk] at e;cases e);have hcn:=zGT sh hk (by simp);have hcl:∀ q∈cx,(listed.setIfInBounds i true)[q.1]?=listed[q.1]?:=fun q hq=>zbi (Ne.symm (hcn q hq))
 rcases hp with ⟨p1,p2,p3⟩|⟨k,A,B,kn,hb,q1,q2,q3,q4,q5,q6,q7,q8,q8',q9⟩|⟨k,own,kn,hb,q1,q2,q3,q4,q5,q6,q7,q8,q9⟩
 ·left;refine ⟨fun q hq=>by rw[hcl q hq];exact p1 q hq,by rw[he _ zAl,he _ zvW];exact p2.call0 s,fun q hq hl=>?_⟩;obtain ⟨e1,e2⟩:=hes q hq;rw[e1] at hl;rw[e2];exact p3 q hq hl
 ·right;left;refine ⟨k,A,B,kn,hb,q1,fun j q hq=>by rw[hcl q (zD hq)];exact q2 j q hq,q3,q4.trans s.le,by rw[he _ zvW];exact q5.call0 s,?_,fun q hq=>?_,fun q hq=>zhd (q8 q hq),fun q hq hl=>?_,fun j hj=>zhd (q9 j hj)⟩
  ·rw[zui] at q6 ⊢;intro q hq;obtain ⟨j,oj,g1,g2,g3⟩:=q7 q hq;have hne:j≠i:=fun e=>hnl (e▸g1);rw[zoc (fun e=>(zje sh.ok).2 j i oj o _ g2 hi hne g3 e)];exact q6 q hq
  ·obtain ⟨j,oj,g1,g2,g3⟩:=q7 q hq;exact ⟨j,oj,zhd g1,g2,g3⟩
  ·obtain ⟨e1,e2⟩:=hes q (zvW q hq);rw[e1] at hl;rw[e2];exact q8' q hq hl
 ·right;right;refine ⟨k,own,kn,hb,q1,fun j q hq=>by rw[hcl q (zD hq)];exact q2 j q hq,q3,q4.trans s.le,q5.call0 s,?_,fun q hq=>?_,fun q hq=>zhd (q8 q hq),fun j hj=>zhd (q9 j hj)⟩
  ·rw[zui] at q6 ⊢;intro q hq;obtain ⟨j,oj,g1,g2,g3⟩:=q7 q hq;have hne:j≠i:=fun e=>hnl (e▸g1);rw[zoc (fun e=>(zje sh.ok).2 j i oj o _ g2 hi hne g3 e)];exact q6 q hq
  ·obtain ⟨j,oj,g1,g2,g3⟩:=q7 q hq;exact ⟨j,oj,zhd g1,g2,g3⟩
theorem zHq (sh:Shape n l ks cx er dsts) (hd:∀ (j:Nat) (o:Oper) (k:Kd) (d:Nat),l[j]?=some o→ks[j]?=some (d,k)→d=zjp o) (hlen:l.length=ks.length) {z:Obj} (hsz:listed.size=l.length) (hi:l[i]?=some o) (hk:ks[i]?=some (d,.al z)) (hnl:listed[i]?≠some true) (ha:Agr l dsts σ (listed.setIfInBounds i true) (updO α o.dst (znL w.heap.size))) (hle:Le hr h) (hf:FH ks listed α h) (hp:(Ph0 h0 w0 own0 er ks cx listed α h w∨PhP P n l h0 w0 er dsts σ Q ks cx listed α h w∨Ph1 P n l h0 w0 er dsts σ Q ks cx listed α h w)):
  Inv P n l h0 w0 own0 hr er dsts σ Q ks cx (listed.setIfInBounds i true) (updO α o.dst (znL w.heap.size)) (w.alloc z):=by
 refine ⟨ha,h,hle,hf.step sh hd hlen hi (Le.refl h) (fun d' p' e=>by rw[hk] at e;cases e),?_⟩;have hmem:(i,d,z)∈zjH 0 ks:=zsk.2 ⟨i,by omega,hk⟩;have hcn:=zGT sh hk (by simp);have hod:o.dst=some d:=by rw[zsm sh.kd i _ d _ hi hk (by simp),hd i _ _ _ hi hk]
 have hself:(listed.setIfInBounds i true)[i]?=some true:=by
  obtain ⟨hil,_⟩:=k_List_getElem__eq_some_iff.1 hi;have:i<listed.size:=by omega
  simp[this]
 -- the entries of a part of the allocations in which this one is at p
 have hent:∀ (az:List (Nat×Nat×Obj)) (p:Nat),(∀ q∈az,q∈zjH 0 ks)→az.Pairwise (fun a b=>a.1<b.1)→az[p]?=some (i,d,z)→
   zlu (listed.setIfInBounds i true) (updO α o.dst (znL w.heap.size)) az=(zlu listed α az).set p [(w.heap.size,z)]∧(zlu listed α az)[p]?=some []:=by
  intro az p hsub hpw hpm;refine ⟨?_,?_⟩
  ·apply zeF;intro k;unfold zlu;rw[zir,zcy,zaa,zcy]
   by_cases e:p=k
   ·subst e;obtain ⟨hlt,_⟩:=k_List_getElem__eq_some_iff.1 hpm;rw[zab rfl,zab hlt,hpm];simp only[zck,hself,if_true,hod,updO,zqi];rfl
   ·rw[zam e];cases eq:az[k]? with
    | none=>rfl
    | some q=>
     have hne:q.1≠i:=by
      intro e';obtain ⟨a1,a2⟩:=k_List_getElem__eq_some_iff.1 hpm;obtain ⟨b1,b2⟩:=k_List_getElem__eq_some_iff.1 eq
      rcases Nat.lt_or_gt_of_ne e with h1|h1
      ·have:=zdE.1 hpw p k a1 b1 h1;rw[a2,b2] at this;omega
      ·have:=zdE.1 hpw k p b1 a1 h1;rw[a2,b2] at this;omega
     have hq:=hsub _ (zD eq);simp only[zck];rw[zbi (Ne.symm hne),zoc (zCQ sh hd hlen hq hi hne)]
  ·unfold zlu;rw[zcy,hpm];simp[hnl]
 have hsame:∀ (az:List (Nat×Nat×Obj)),(∀ q∈az,q∈zjH 0 ks)→(∀ q∈az,q.1≠i)→zlu (listed.setIfInBounds i true) (updO α o.dst (znL w.heap.size)) az=zlu listed α az:=by
  intro az hsub hne;unfold zlu;refine zgo fun q hq=>?_;rw[zbi (Ne.symm (hne q hq)),zoc (zCQ sh hd hlen (hsub q hq) hi (hne q hq))]
 have hptr:∀ q∈zjH 0 ks,(listed[q.1]?=some true→α q.2.1=znL (zrk (α q.2.1)))→(listed.setIfInBounds i true)[q.1]?=some true→updO α o.dst (znL w.heap.size) q.2.1=znL (zrk (updO α o.dst (znL w.heap.size) q.2.1)):=by
  intro q hq p3 hl
  by_cases e:q.1=i
  ·have hq2:q.2.1=d:=by
    obtain ⟨oj,g1,g2,g3⟩:=zvo sh hd hlen hq;rw[e,hk] at g3;cases g3;rfl
   rw[hq2,hod];simp only[updO,zqi];rfl
  ·rw[zbi (Ne.symm e)] at hl;rw[zoc (zCQ sh hd hlen hq hi e)];exact p3 hl
 have hpwE:(zqw er ks).Pairwise (fun a b=>a.1<b.1):=(zsc ks 0).sublist zdC;have hpwL:(zmu er ks).Pairwise (fun a b=>a.1<b.1):=(zsc ks 0).sublist zdC
 rcases hp with ⟨p1,p2,p3⟩|⟨k,A,B,kn,hb,q1,q2,q3,q4,q5,q6,q7,q8,q8',q9⟩|⟨k,own,kn,hb,q1,q2,q3,q4,q5,q6,q7,q8,q9⟩
 ·left;refine ⟨fun q hq=>by rw[zbi (Ne.symm (hcn q hq))];exact p1 q hq,?_,fun q hq hl=>hptr q hq (p3 q hq) hl⟩;cases hlt:inL er.2.2.2.1 i with
  | false=>
   obtain ⟨p,hpm⟩:=k_List_mem_iff_getElem_.1 (mem_alsE.2 ⟨hmem,hlt⟩);obtain ⟨e1,e2⟩:=hent _ p zAl hpwE hpm;have hslot:(own0++zlu listed α (zqw er ks)++zlu listed α (zmu er ks))[own0.length+p]?=some []:=by
    rw[zaB,zdg zW,zfT];obtain ⟨h1,_⟩:=k_List_getElem__eq_some_iff.1 e2;rw[zcN h1];exact e2
   have hst:=p2.insert hslot z;rw[zaB,zfd _ _ zW,zfT] at hst;rw[List.set_append_left _ _ (k_List_getElem__eq_some_iff.1 e2).1] at hst;rw[e1,hsame _ zvW (fun q hq e=>by rw[← e,(mem_alsL.1 hq).2] at hlt;cases hlt),zaB];exact hst
  | true=>
   obtain ⟨p,hpm⟩:=k_List_mem_iff_getElem_.1 (mem_alsL.2 ⟨hmem,hlt⟩);obtain ⟨e1,e2⟩:=hent _ p zvW hpwL hpm;have hslot:((own0++zlu listed α (zqw er ks))++zlu listed α (zmu er ks))[(own0++zlu listed α (zqw er ks)).length+p]?=some []:=by
    rw[zdg zW,zfT];exact e2
   have hst:=p2.insert hslot z;rw[zfd _ _ zW,zfT] at hst;rw[e1,hsame _ zAl (fun q hq e=>by rw[← e,(mem_alsE.1 hq).2] at hlt;cases hlt)];exact hst
 ·right;left;have hlt:inL er.2.2.2.1 i=true:=by
   cases hlt:inL er.2.2.2.1 i with
   | true=>rfl
   | false=>exact absurd (q8 _ (mem_alsE.2 ⟨hmem,hlt⟩)) hnl
  obtain ⟨p,hpm⟩:=k_List_mem_iff_getElem_.1 (mem_alsL.2 ⟨hmem,hlt⟩);obtain ⟨e1,e2⟩:=hent _ p zvW hpwL hpm;have hslot:(A++zlu listed α (zmu er ks)++B)[A.length+p]?=some []:=by
   rw[zaB,zdg zW,zfT];obtain ⟨h1,_⟩:=k_List_getElem__eq_some_iff.1 e2;rw[zcN h1];exact e2
  have hst:=q5.insert hslot z;rw[zaB,zfd _ _ zW,zfT,List.set_append_left _ _ (k_List_getElem__eq_some_iff.1 e2).1] at hst;refine ⟨k,A,B,kn,hb,q1,fun j q hq=>by rw[zbi (Ne.symm (hcn q (zD hq)))];exact q2 j q hq,q3,q4,by rw[e1,zaB];exact hst,?_,fun q hq=>?_,fun q hq=>zhd (q8 q hq),fun q hq hl=>hptr q (zvW q hq) (q8' q hq) hl,fun j hj=>zhd (q9 j hj)⟩
  ·rw[zui] at q6 ⊢;intro q hq;obtain ⟨j,oj,g1,g2,g3⟩:=q7 q hq;have hne:j≠i:=fun e=>hnl (e▸g1);rw[zoc (fun e=>(zje sh.ok).2 j i oj o _ g2 hi hne g3 e)];exact q6 q hq
  ·obtain ⟨j,oj,g1,g2,g3⟩:=q7 q hq;exact ⟨j,oj,zhd g1,g2,g3⟩
 ·exact absurd (q8 _ hmem) hnl
theorem zGf (sh:Shape n l ks cx er dsts) (hd:∀ (j:Nat) (o:Oper) (k:Kd) (d:Nat),l[j]?=some o→ks[j]?=some (d,k)→d=zjp o) (hlen:l.length=ks.length) (hstart:zoj P n l h0 w0 hr dsts σ Q ks (cx.drop er.2.2.2.2) (cx.take er.2.2.2.2) (zmu er ks) (zqw er ks) own0 []) (hi:l[i]?=some o) (hk:ks[i]?=some (d,.ch)) (hnl:listed[i]?≠some true) (hready:∀ j∈bnd o,listed[j]?=some true) (hT:∀ j∈zGu l o,listed[j]?=some true) (hle:Le hr h) (hp:(Ph0 h0 w0 own0 er ks cx listed α h w∨PhP P n l h0 w0 er dsts σ Q ks cx listed α h w∨Ph1 P n l h0 w0 er dsts σ Q ks cx listed α h w)):
  ∃ k,cx[k]?=some (i,o)∧(∀ (j:Nat) (q:Nat×Oper),cx[j]?=some q→(listed[q.1]?=some true↔j<k))∧(∀ i,inL er.1 i=true→listed[i]?=some true)∧∃ kn hb,Le hb h∧Has α kn∧(∀ q∈kn,∃ (i:Nat) (o:Oper),listed[i]?=some true∧l[i]?=some o∧o.dst=some q.1)∧
  ((k<er.2.2.2.2∧∃ A B,zvr P n l h0 w0 dsts σ Q ks (cx.drop er.2.2.2.2) (zmu er ks) ((cx.take er.2.2.2.2).drop k) A B kn hb∧St h0 w0 h w (A++zlu listed α (zmu er ks)++B)∧(∀ q∈zqw er ks,listed[q.1]?=some true)∧(∀ q∈zmu er ks,listed[q.1]?=some true→α q.2.1=znL (zrk (α q.2.1))))∨
   (er.2.2.2.2≤k∧∃ own,zpS P n l h0 w0 dsts σ Q ks (cx.drop k) own kn hb∧St h0 w0 h w own∧(∀ q∈zjH 0 ks,listed[q.1]?=some true))):=by
 have hmem:i∈cx.map (·.1):=by rw[← sh.ch];exact zuU.2 ⟨i,d,by omega,hk⟩
 obtain ⟨q,hq,e⟩:=zbk.1 hmem;subst e;obtain ⟨k,hkq⟩:=k_List_mem_iff_getElem_.1 hq;have hoq:=sh.ops q hq;rw[hi] at hoq;have hoq:q.2=o:=by cases hoq;rfl
 subst hoq;have hprev:∀ j q',cx[j]?=some q'→j+1=k→listed[q'.1]?=some true:=by
  intro j q' hj e;subst e;exact hready _ (zqE sh.seq j q' q hj hkq)
 -- where the chain stands
 have hstand:∀ k1,(∀ (j:Nat) (q:Nat×Oper),cx[j]?=some q→(listed[q.1]?=some true↔j<k1))→k=k1:=by
  intro k1 q2;have h1:¬ k<k1:=fun h=>hnl ((q2 k q hkq).2 h)
  rcases zcO k1 k with h2|h2
  ·exfalso;obtain ⟨hlt,_⟩:=k_List_getElem__eq_some_iff.1 hkq;have h3:cx[k-1]?=some (cx[k-1]'zW):=zn zW;have:=(q2 _ _ h3).1 (hprev _ _ h3 zW);omega
  ·omega
 -- the late allocations are claimed
 have hclaim:∀ {A B:Own} {kn:List (Nat×Value)} {hb:Heap},k=er.2.2.2.2→zxO P n l h0 w0 dsts σ Q ks (cx.drop er.2.2.2.2) (zmu er ks) A B kn hb→Has α kn→(∀ q∈kn,∃ (i:Nat) (o:Oper),listed[i]?=some true∧l[i]?=some o∧o.dst=some q.1)→(∀ q∈zmu er ks,listed[q.1]?=some true→α q.2.1=znL (zrk (α q.2.1)))→
   (∀ q∈zmu er ks,listed[q.1]?=some true)∧∃ kn',zpS P n l h0 w0 dsts σ Q ks (cx.drop k) (A++zlu listed α (zmu er ks)++B) kn' hb∧Has α kn'∧(∀ q∈kn',∃ (i:Nat) (o:Oper),listed[i]?=some true∧l[i]?=some o∧o.dst=some q.1):=by
  intro A B kn hb hkc hl hhas hkn hptr;obtain ⟨hlt,hget⟩:=k_List_getElem__eq_some_iff.1 hkq;have hcl:=sh.cl;rw[zuo,← hkc,zcX hlt,hget] at hcl;simp only[zal] at hcl;have hlist:∀ a∈zmu er ks,listed[a.1]?=some true:=fun a ha=>hready _ (zkm.1 (hcl _ (zkm.1 (mem_alsL.1 ha).2)));obtain ⟨kn',c1,c2,c3⟩:=zAV hl (fun a ha=>⟨hlist a ha,hptr a ha (hlist a ha)⟩) hhas;refine ⟨hlist,kn',by rw[hkc];exact c1,c2,fun a ha=>?_⟩
  rcases c3 a ha with h|⟨b,hb,e⟩
  ·exact hkn a h
  ·obtain ⟨oj,g1,g2,_⟩:=zvo sh hd hlen (zvW b hb);exact ⟨b.1,oj,hlist b hb,g1,by rw[g2,e]⟩
 rcases hp with ⟨p1,p2,p3⟩|⟨k1,A,B,kn,hb,q1,q2,q3,q4,q5,q6,q7,q8,q8',q9⟩|⟨k1,own,kn,hb,q1,q2,q3,q4,q5,q6,q7,q8,q9⟩
 ·have hk0:k=0:=by
   cases k with
   | zero=>rfl
   | succ k=>
    obtain ⟨hlt,_⟩:=k_List_getElem__eq_some_iff.1 hkq;have h3:cx[k]?=some (cx[k]'zW):=zn zW;exact absurd (hprev k _ h3 rfl) (p1 _ (zD h3))
  subst hk0;have hfst:=sh.fst;have hcx:∃ r,cx=q::r:=by
   cases hcx:cx with
   | nil=>rw[hcx] at hkq;simp at hkq
   | cons q0 r=>rw[hcx] at hkq;simp at hkq;subst hkq;exact ⟨r,rfl⟩
  obtain ⟨r,hcx⟩:=hcx;rw[hcx] at hfst;simp only[zzw,zK,zal] at hfst;have hal:∀ a∈zqw er ks,listed[a.1]?=some true:=fun a ha=>hready _ (zkm.1 (hfst.2 a ha));have her:∀ j,inL er.1 j=true→listed[j]?=some true:=fun j hj=>hT _ (zkm.1 (hfst.1 j (zkm.1 hj)));have hj0:∀ (j:Nat) (q:Nat×Oper),cx[j]?=some q→(listed[q.1]?=some true↔j<0):=by
   intro j q' hj;constructor
   ·intro hl;exact absurd hl (p1 q' (zD hj))
   ·intro hl;omega
  obtain ⟨kn,c1,c2,c3⟩:=zuM hstart (fun a ha=>⟨hal a ha,p3 a (zAl a ha) (hal a ha)⟩) trivial;have c4:∀ q∈kn,∃ (i:Nat) (o:Oper),listed[i]?=some true∧l[i]?=some o∧o.dst=some q.1:=by
   intro a ha
   rcases c3 a ha with h|⟨b,hb,e⟩
   ·cases h
   ·obtain ⟨oj,g1,g2,_⟩:=zvo sh hd hlen (zAl b hb);exact ⟨b.1,oj,hal b hb,g1,by rw[g2,e]⟩
  rcases Nat.eq_zero_or_pos er.2.2.2.2 with hz|hz
  ·rw[hz,zfc] at c1;obtain ⟨h1,kn',h2,h3,h4⟩:=hclaim hz.symm (by rw[hz];exact c1) c2 c4 (fun a ha=>p3 a (zvW a ha));refine ⟨0,hkq,hj0,her,kn',hr,hle,h3,h4,.inr ⟨by omega,_,h2,by simpa [zaB] using p2,fun a ha=>?_⟩⟩;cases hlt:inL er.2.2.2.1 a.1 with
   | true=>exact h1 a (mem_alsL.2 ⟨ha,hlt⟩)
   | false=>exact hal a (mem_alsE.2 ⟨ha,hlt⟩)
  ·exact ⟨0,hkq,hj0,her,kn,hr,hle,c2,c4,.inl ⟨hz,_,[],by simpa using c1,by simpa [zaB] using p2,hal,fun a ha=>p3 a (zvW a ha)⟩⟩
 ·obtain rfl:=hstand k1 q2
  rcases zcO k er.2.2.2.2 with hz|hz
  ·exact ⟨k,hkq,q2,q9,kn,hb,q4,q6,q7,.inl ⟨hz,A,B,q3,q5,q8,q8'⟩⟩
  ·have hke:k=er.2.2.2.2:=by omega
   have hnil:(cx.take er.2.2.2.2).drop k=[]:=by
    rw[List.drop_eq_nil_iff,zt];omega
   rw[hnil] at q3;obtain ⟨h1,kn',h2,h3,h4⟩:=hclaim hke q3 q6 q7 q8';refine ⟨k,hkq,q2,q9,kn',hb,q4,h3,h4,.inr ⟨hz,_,h2,q5,fun a ha=>?_⟩⟩;cases hlt:inL er.2.2.2.1 a.1 with
   | true=>exact h1 a (mem_alsL.2 ⟨ha,hlt⟩)
   | false=>exact q8 a (mem_alsE.2 ⟨ha,hlt⟩)
 ·obtain rfl:=hstand k1 q2;exact ⟨k,hkq,q2,q9,kn,hb,q4,q6,q7,.inr ⟨by omega,own,q3,q5,q8⟩⟩
theorem zCG (sh:Shape n l ks cx er dsts) (hd:∀ (j:Nat) (o:Oper) (k:Kd) (d:Nat),l[j]?=some o→ks[j]?=some (d,k)→d=zjp o) (hlen:l.length=ks.length) {k: Nat} {kn:List (Nat×Value)} (hsz:listed.size=l.length) (hi:l[i]?=some o) (hk:ks[i]?=some (d,.ch)) (hnl:listed[i]?≠some true) (ha:Agr l dsts σ (listed.setIfInBounds i true) (updO α o.dst v)) (hle:Le hr h) (hf:FH ks listed α h) (hkq:cx[k]?=some (i,o)) (q2:∀ (j:Nat) (q:Nat×Oper),cx[j]?=some q→(listed[q.1]?=some true↔j<k)) (q6:Has α kn) (q7:∀ q∈kn,∃ (i:Nat) (o:Oper),listed[i]?=some true∧l[i]?=some o∧o.dst=some q.1) (q9:∀ i,inL er.1 i=true→listed[i]?=some true) (hll:Le h h') (hc:(k<er.2.2.2.2∧∃ A B,zvr P n l h0 w0 dsts σ Q ks (cx.drop er.2.2.2.2) (zmu er ks) ((cx.take er.2.2.2.2).drop (k+1)) A B (zvK o v kn) h'∧St h0 w0 h' w' (A++zlu listed α (zmu er ks)++B)∧(∀ q∈zqw er ks,listed[q.1]?=some true)∧(∀ q∈zmu er ks,listed[q.1]?=some true→α q.2.1=znL (zrk (α q.2.1))))∨
   (er.2.2.2.2≤k∧∃ own,zpS P n l h0 w0 dsts σ Q ks (cx.drop (k+1)) own (zvK o v kn) h'∧St h0 w0 h' w' own∧(∀ q∈zjH 0 ks,listed[q.1]?=some true))):
  Inv P n l h0 w0 own0 hr er dsts σ Q ks cx (listed.setIfInBounds i true) (updO α o.dst v) w':=by
 have hself:(listed.setIfInBounds i true)[i]?=some true:=by
  obtain ⟨hil,_⟩:=k_List_getElem__eq_some_iff.1 hi;have:i<listed.size:=by omega
  simp[this]
 have r2:∀ (j:Nat) (q:Nat×Oper),cx[j]?=some q→((listed.setIfInBounds i true)[q.1]?=some true↔j<k+1):=by
  intro j q hj
  by_cases e:q.1=i
  ·have:j=k:=by
    rcases Nat.lt_trichotomy j k with h1|h1|h1
    ·have:=zFr sh hj hkq h1;simp at this;omega
    ·exact h1
    ·have:=zFr sh hkq hj h1;simp at this;omega
   subst this;rw[e];exact ⟨fun _=>by omega,fun _=>hself⟩
  ·rw[zbi (Ne.symm e),q2 j q hj];constructor
   ·intro h1;omega
   ·intro h1
    rcases zcO j k with h2|h2
    ·exact h2
    ·have:j=k:=by omega
     subst this;rw[hkq] at hj;cases hj;exact absurd rfl e
 have r6:Has (updO α o.dst v) (zvK o v kn):=by
  have hold:Has (updO α o.dst v) kn:=by
   rw[zui] at q6 ⊢;intro q hq;obtain ⟨j,oj,g1,g2,g3⟩:=q7 q hq;have hne:j≠i:=fun e=>hnl (e▸g1);rw[zoc (fun e=>(zje sh.ok).2 j i oj o _ g2 hi hne g3 e)];exact q6 q hq
  unfold zvK;cases e:o.dst with
  | none=>rw[e] at hold;exact hold
  | some t=>rw[e] at hold;exact ⟨zqi _ _ _,hold⟩
 have r7:∀ q∈zvK o v kn,∃ (j:Nat) (o:Oper),(listed.setIfInBounds i true)[j]?=some true∧l[j]?=some o∧o.dst=some q.1:=by
  intro q hq;have hcase:(o.dst=some q.1)∨q∈kn:=by
   unfold zvK at hq;cases e:o.dst with
   | none=>rw[e] at hq;exact .inr hq
   | some t=>
    rw[e] at hq
    rcases zaV.1 hq with rfl|h
    ·exact .inl rfl
    ·exact .inr h
  rcases hcase with h|h
  ·exact ⟨i,o,hself,hi,h⟩
  ·obtain ⟨j,oj,g1,g2,g3⟩:=q7 q h;exact ⟨j,oj,zhd g1,g2,g3⟩
 refine ⟨ha,h',hle.trans hll,hf.step sh hd hlen hi hll (fun d' p' e=>by rw[hk] at e;cases e),?_⟩;obtain ⟨he,hes⟩:=zyU sh hd hlen (listed:=listed) (α:=α) (v:=v) hi (fun d z e=>by rw[hk] at e;cases e)
 rcases hc with ⟨hz,A,B,c1,c2,c3,c4⟩|⟨hz,own,c1,c2,c3⟩
 ·exact .inr (.inl ⟨k+1,A,B,_,h',⟨by omega,by omega⟩,r2,c1,Le.refl _,by rw[he _ zvW];exact c2,r6,r7,fun q hq=>zhd (c3 q hq),fun q hq hl=>by obtain ⟨e1,e2⟩:=hes q (zvW q hq);rw[e1] at hl;rw[e2];exact c4 q hq hl,fun j hj=>zhd (q9 j hj)⟩)
 ·exact .inr (.inr ⟨k+1,own,_,h',⟨by omega,by omega⟩,r2,c1,Le.refl _,c2,r6,r7,fun q hq=>zhd (c3 q hq),fun j hj=>zhd (q9 j hj)⟩)
end
section
variable {P:Program} {n:Nat} {l:List Oper} {h0:Heap} {w0:World} {own0:Own} {hr:Heap} {er:Er} {dsts:List Nat} {σ:Env} {Q:Exit→Env→World→Prop} {ks:List (Nat×Kd)} {cx:List (Nat×Oper)}
theorem zHr (hok:zwL n 0 l []=true) (hi:l[i]?=some o):zjw n o.dst=true:=by
 cases e:o.dst with
 | none=>rfl
 | some d=>exact Nat.ble_eq_true_of_le (((zje hok).1 i o hi).1 d e).1
theorem drawn (sh:Shape n l ks cx er dsts) (hops:Hops P n l h0 w0 own0 hr er dsts σ [] l ks) (hstart:zoj P n l h0 w0 hr dsts σ Q ks (cx.drop er.2.2.2.2) (cx.take er.2.2.2.2) (zmu er ks) (zqw er ks) own0 []):
  ∀ (fuel:Nat) (listed:Array Bool) (a:Act) (α:Env) (w:World),listed.size=l.length→unl l.length listed≤fuel→Fits n a α→Inv P n l h0 w0 own0 hr er dsts σ Q ks cx listed α w→
   wpAnyIn Fence.wide 0 P .any l.toArray (fun e a' w'=>∃ σ',Fits n a' σ'∧Q e σ' w') fuel listed a w:=by
 obtain ⟨hlen,hget⟩:=hops.get;have hd:∀ (j:Nat) (o:Oper) (k:Kd) (d:Nat),l[j]?=some o→ks[j]?=some (d,k)→d=zjp o:=by
  intro j o k d h1 h2;obtain ⟨k',h3,_⟩:=hget j o h1;rw[h2] at h3;cases h3;rfl
 have fin:∀ (listed:Array Bool) (a:Act) (α:Env) (w:World),listed.size=l.length→Region.ready .any l.toArray listed=[]→Fits n a α→Inv P n l h0 w0 own0 hr er dsts σ Q ks cx listed α w→∃ σ',Fits n a σ'∧Q .normal σ' w:=by
  intro listed a α w hsz hnil hfit hinv;have hall:=zCm sh.ok hsz hnil;have hcl:∀ q∈cx,listed[q.1]?=some true:=fun q hq=>hall _ (by
   obtain ⟨h,_⟩:=k_List_getElem__eq_some_iff.1 (sh.ops q hq);exact h)
  obtain ⟨hag,h,hle,hf,hp⟩:=hinv;have hfl:∀ q∈ks.filterMap zul,q.2.holds h (α q.1):=by
   intro q hq;obtain ⟨r,hr1,hr2⟩:=List.mem_filterMap.1 hq;obtain ⟨i,hi⟩:=k_List_mem_iff_getElem_.1 hr1;have e:=zxe hr2;obtain ⟨hlt,_⟩:=k_List_getElem__eq_some_iff.1 hi;exact hf i q.1 q.2 (hall i zW) (by rw[hi,e])
  have hdone:∃ own kn hb,zpS P n l h0 w0 dsts σ Q ks [] own kn hb∧Le hb h∧St h0 w0 h w own∧Has α kn:=by
   rcases hp with ⟨p1,p2,p3⟩|⟨k,A,B,kn,hb,q1,q2,q3,q4,q5,q6,q7,q8,q8',q9⟩|⟨k,own,kn,hb,q1,q2,q3,q4,q5,q6,q7,q8,q9⟩
   ·have hcx:cx=[]:=by
     cases e:cx with
     | nil=>rfl
     | cons q r=>exact absurd (hcl q (by rw[e];exact zct ..)) (p1 q (by rw[e];exact zct ..))
    have hal:∀ a∈zjH 0 ks,listed[a.1]?=some true:=fun a ha=>by
     obtain ⟨oj,g1,_⟩:=zvo sh hd hlen ha;obtain ⟨h,_⟩:=k_List_getElem__eq_some_iff.1 g1;exact hall _ h
    have hcl2:=sh.cl;rw[zuo,hcx,List.drop_nil] at hcl2;simp only[zK,List.isEmpty_iff] at hcl2;have hL:zmu er ks=[]:=by rw[zmu,hcl2.1];simp[inL]
    obtain ⟨kn,c1,c2,c3⟩:=zuM hstart (fun a ha=>⟨hal a (zAl a ha),p3 a (zAl a ha) (hal a (zAl a ha))⟩) trivial;rw[hcx,hL,List.drop_nil,List.take_nil] at c1;rw[hL] at p2;exact ⟨_,kn,hr,c1,hle,by simpa [zGR,zlu] using p2,c2⟩
   ·exfalso;obtain ⟨hk0,hk1⟩:=q1;have hcl2:=sh.cl;unfold zuo at hcl2;have hlen2:er.2.2.2.2<cx.length:=by
     rcases zcO er.2.2.2.2 cx.length with h|h
     ·exact h
     ·rw[zeV h] at hcl2;simp only[zK] at hcl2;have:=zhX hcl2.2;omega
    have:=(q2 er.2.2.2.2 _ (zn hlen2)).1 (hcl _ (zdB hlen2));omega
   ·have hk:cx.drop k=[]:=by
     rw[List.drop_eq_nil_iff]
     rcases zcO k cx.length with h|h
     ·exact absurd ((q2 k _ (zn h)).1 (hcl _ (zdB h))) (Nat.lt_irrefl k)
     ·exact h
    rw[hk] at q3;exact ⟨own,kn,hb,q3,q4,q5,q6⟩
  obtain ⟨own,kn,hb,c1,c2,c3,c4⟩:=hdone;obtain ⟨vs,h1,h2⟩:=zbT.use (c1 h w α c2 c3) hfl;rw[zwQ hag.1,zoq h2,zoq c4] at h1;exact ⟨α,hfit,h1⟩
 intro fuel
 induction fuel with
 | zero=>
  intro listed a α w hsz hu hfit hinv;have hnil:Region.ready .any l.toArray listed=[]:=by
   unfold Region.ready;rw[zgP];intro i hi;have hu0:unl l.length listed=0:=by omega
   unfold unl at hu0;rw[List.countP_eq_zero] at hu0;have:=hu0 i (by simpa using hi);simp only[zfp,Bool.not_eq_false] at this;simp[this]
  exact ⟨hnil,fin listed a α w hsz hnil hfit hinv⟩
 | succ fuel ih=>
  intro listed a α w hsz hu hfit hinv;refine ⟨fun hnil=>fin listed a α w hsz hnil hfit hinv,fun i hi=>?_⟩;obtain ⟨o,hio,hnl,hready⟩:=znS hi;obtain ⟨hil,_⟩:=k_List_getElem__eq_some_iff.1 hio;obtain ⟨k,hk,hflt,hal⟩:=hget i o hio;obtain ⟨hag,h,hle,hf,hp⟩:=hinv;have hdo:=zHr sh.ok hio;have next:∀ (v:Value) (w':World),Inv P n l h0 w0 own0 hr er dsts σ Q ks cx (listed.setIfInBounds i true) (updO α o.dst v) w'→
    wpAnyIn Fence.wide 0 P .any l.toArray (fun e a' w'=>∃ σ',Fits n a' σ'∧Q e σ' w') fuel (listed.setIfInBounds i true) (a.put o.dst v) w':=fun v w' hinv'=>
   ih _ _ _ w' (by simpa using hsz) (ztN hsz hil hnl hu) (hfit.put hdo v) hinv'
  have hev:a.eval=ev α:=hfit.eval;unfold wpOpIn;rw[zdI,hio];simp only[];cases k with
  | flt p=>
   have hop:=hflt p rfl;rw[zC,zdv,zcM] at hop;have hsub:Sub h w:=by
    rcases hp with ⟨_,p2,_⟩|⟨_,_,_,_,_,_,_,_,_,q5,_⟩|⟨_,_,_,_,_,_,_,_,q5,_⟩
    ·exact p2.sub
    ·exact q5.sub
    ·exact q5.sub
   have her:inL er.1 i=true→St h0 w0 h w own0:=by
    intro hin
    rcases hp with ⟨_,p2,_⟩|⟨_,_,_,_,_,_,_,_,_,_,_,_,_,_,q9⟩|⟨_,_,_,_,_,_,_,_,_,_,_,_,q9⟩
    ·rw[zaB] at p2;have:=p2.take own0.length;rwa [List.take_left'] at this;rfl
    ·exact absurd (q9 i hin) hnl
    ·exact absurd (q9 i hin) hnl
   have hag':zfs (zrn er dsts i) α σ:=by
    unfold zrn
    by_cases hin:inL er.2.2.1 i=true
    ·rw[zab hin];intro t ht
     by_cases h1:inL dsts t=true
     ·by_cases h2:inL er.2.1 t=true
      ·-- what turns t is not there yet
       have ht':t∈l.filterMap (·.dst):=by rw[sh.ds];exact zkm.1 h1
       obtain ⟨o',ho',hd'⟩:=List.mem_filterMap.1 ht';obtain ⟨j,hj⟩:=k_List_mem_iff_getElem_.1 ho';refine hag.2.1 j o' t hj hd' fun hlj=>hnl ?_;exact hag.2.2 j o' hj hlj i (zAW sh.late ho' hd' h2 hin)
      ·have:inL (dsts.filter fun d=>!inL er.2.1 d) t=true:=zkm.2 (zcl.2 ⟨zkm.1 h1,by simpa using h2⟩);rw[this] at ht;cases ht
     ·exact hag.1 t (by simpa using h1)
    ·rw[zam hin];exact hag.1
   obtain ⟨vs,hrun,hhas⟩:=zbT.use (hop h w α hle hsub her) (zyV hf hready);rw[zwQ hag',zoq hhas] at hrun;refine zuH hrun hfit ?_;rintro a' σ' w' hf' ⟨v,h',rfl,s,hh⟩;exact ih _ _ _ w' (by simpa using hsz) (ztN hsz hil hnl hu) hf' (zGe sh hd hlen hio hk hnl (zsp sh hsz hio hready hag) hle hf hp s hh)
  | al z=>
   obtain ⟨hg,hrun⟩:=hal z rfl;have hw:Region.wanted o (yielded l.toArray a.tmps)=true:=by simp[Region.wanted,hg]
   rw[zab hw];refine ⟨fun _ _=>trivial,?_⟩;show o.uponIn Fence.wide 0 P a _ _ ((execOp a.eval o).run P w);rw[hev,hrun];exact next _ _ (zHq sh hd hlen hsz hio hk hnl (zsp sh hsz hio hready hag) hle hf hp)
  | ch=>
   obtain ⟨k,hkq,q2,q9,kn,hb,q4,q6,q7,hcase⟩:=zGf sh hd hlen hstart hio hk hnl hready (zFv hsz hag.2.2 hready) hle hp;obtain ⟨hlt,hkq'⟩:=k_List_getElem__eq_some_iff.1 hkq;have hdeps:∀ q∈zxh ks o,q.2.holds h (α q.1):=by
    have:=zyV (m:=ks.length) hf hready;rwa [zhU] at this
   rcases hcase with ⟨hz,A,B,q3,q5,q8,q8'⟩|⟨hz,own,q3,q5,q8⟩
   ·have hlt2:k<(cx.take er.2.2.2.2).length:=by rw[zt];omega
    rw[zcX hlt2,List.getElem_take,hkq'] at q3;obtain ⟨vs,hrun,hhas⟩:=zbT.use (q3 h w α (zlu listed α (zmu er ks)) (by simp[zlu]) q4 q5) hdeps;rw[zwQ hag.1,zoq hhas,zoq q6] at hrun;refine zuH hrun hfit ?_;rintro a' σ' w' hf' ⟨v,rfl,h',A',B',e1,e2,e3⟩;exact ih _ _ _ w' (by simpa using hsz) (ztN hsz hil hnl hu) hf' (zCG sh hd hlen hsz hio hk hnl (zsp sh hsz hio hready hag) hle hf hkq q2 q6 q7 q9 e1 (.inl ⟨hz,A',B',e3,e2,q8,q8'⟩))
   ·rw[zcX hlt,hkq'] at q3;obtain ⟨vs,hrun,hhas⟩:=zbT.use (q3 h w α q4 q5) hdeps;rw[zwQ hag.1,zoq hhas,zoq q6] at hrun;refine zuH hrun hfit ?_;rintro a' σ' w' hf' ⟨v,rfl,h',own',e1,e2,e3⟩;exact ih _ _ _ w' (by simpa using hsz) (ztN hsz hil hnl hu) hf' (zCG sh hd hlen hsz hio hk hnl (zsp sh hsz hio hready hag) hle hf hkq q2 q6 q7 q9 e1 (.inr ⟨hz,own',e3,e2,q8⟩))
theorem zEe {own:Own} {id:Nat} (st:St h0 w0 h w own) (hm:P.follows .mixedOrders=true) (sh:Shape n l ks cx er dsts) (hops:Hops P n l h0 w0 own h er dsts σ [] l ks) (hstart:zoj P n l h0 w0 h dsts σ Q ks (cx.drop er.2.2.2.2) (cx.take er.2.2.2.2) (zmu er ks) (zqw er ks) own []):W P n (.region id l.toArray true) Q σ w:=by
 intro a ha;refine (wpIn_wide (n:=0)).1 (wpIn_region_any hm ?_);refine drawn sh hops hstart _ _ a σ _ (by simp) ?_ ha ⟨⟨zlV _ _,fun _ _ _ _ _ _=>rfl,fun j o _ hl=>by simp[zcF] at hl⟩,h,Le.refl h,?_,.inl ⟨?_,?_,?_⟩⟩
 ·unfold unl;refine zfl List.countP_le_length ?_;simp
 ·intro i d p hi _;simp[zcF] at hi
 ·intro q _ hi;simp[zcF] at hi
 ·have e:∀ az,zlu (Array.replicate l.toArray.size false) σ az=az.map fun _=>[]:=by
   intro az;unfold zlu;refine zgo fun q _=>?_;rw[zam];intro hi;simp[zcF] at hi
  rw[e,e];have:∀ m m2:List (Nat×Nat×Obj),St h0 w0 h w.drew (own++(m.map fun _=>[])++(m2.map fun _=>[])):=by
   intro m m2;have e2:(own++(m.map fun _=>([]:List (Nat×Obj)))++(m2.map fun _=>([]:List (Nat×Obj)))).flatten=own.flatten:=by
    rw[zdf,zdf];simp
   refine ⟨st.drew.le,st.drew.new,st.drew.sub,st.drew.below,?_,?_⟩
   ·rw[e2];exact st.drew.mine
   ·rw[e2];exact st.drew.nodup
  exact this _ _
 ·intro q _ hi;simp[zcF] at hi
end
section
variable {P:Program} {n:Nat} {l:List Oper} {h0:Heap} {w0:World} {own0:Own} {hr:Heap} {er:Er} {dsts:List Nat} {σ:Env} {Q:Exit→Env→World→Prop}
theorem Le.sub (hl:Le h h') (hs:Sub h' w):Sub h w:=fun b o e=>hs b o (hl b o e)
def znk (h:Heap) (rd:List (Nat×Kd)):List Nat→(List (Nat×Value)→Prop)→Prop
 | [],k=>k []
 | i::is,k=>match (rd[i]?).bind zul with
  | some (d,p)=>∀ g,p.fact g h→znk h rd is (fun vs=>k ((d,p.val g)::vs))
  | none=>znk h rd is k
theorem znk.to {h:Heap} {rd:List (Nat×Kd)}:∀ {is:List Nat} {js:List Nat} {k:List (Nat×Value)→Prop},(∀ j∈js,j<rd.length)→js.map (fun i=>rd.length-1-i)=is→znk h rd is k→zbT h (js.filterMap fun i=>(rd.reverse[i]?).bind zul) k
 | _,[],k,_,e,hk=>by subst e;exact hk
 | _,j::js,k,hj,e,hk=>by
  subst e;have hlt:=hj j (zct ..);have hget:rd.reverse[j]?=rd[rd.length-1-j]?:=by
   rw[List.getElem?_reverse hlt]
  rw[List.filterMap_cons,hget];rw[zbQ,znk] at hk;cases eq:(rd[rd.length-1-j]?).bind zul with
  | none=>
   rw[eq] at hk;exact znk.to (fun j hj'=>hj j (zcH _ hj')) rfl hk
  | some q=>
   rw[eq] at hk;intro g hf;exact znk.to (fun j hj'=>hj j (zcH _ hj')) rfl (hk g hf)
variable (P n l h0 w0 own0 hr er dsts σ Q) in
def Drw (rd:List (Nat×Kd)) (rc:List (Nat×Oper)) (rest:List Oper):Prop:=
 rd.length+rest.length=l.length→∃ ks cx,Hops P n l h0 w0 own0 hr er dsts σ rd.reverse rest ks∧Shape n l (rd.reverse++ks) (rc.reverse++cx) er dsts∧
  zoj P n l h0 w0 hr dsts σ Q (rd.reverse++ks) ((rc.reverse++cx).drop er.2.2.2.2) ((rc.reverse++cx).take er.2.2.2.2) (zmu er (rd.reverse++ks)) (zqw er (rd.reverse++ks)) own0 []
theorem zgR {id:Nat} (st:St h0 w0 h w own0) (hm:P.follows .mixedOrders=true) (hd:Drw P n l h0 w0 own0 h er dsts σ Q [] [] l):W P n (.region id l.toArray true) Q σ w:=by
 obtain ⟨ks,cx,h1,h2,h3⟩:=hd (by simp);simp only[List.reverse_nil,zcM] at h1 h2 h3;exact zEe st hm h2 h1 h3
theorem zCU {p:PF} (hlt:(zmF o).all (fun j=>Nat.blt j rd.length)=true) (his:(zmF o).map (fun i=>rd.length-1-i)=is) (H:∀ h w τ,Le hr h→Sub h w→(inL er.1 rd.length=true→St h0 w0 h w own0)→znk h rd is (fun vs=>zAc P n l.toArray (known vs (mix (zrn er dsts rd.length) τ σ)) h w o p)) (k:Drw P n l h0 w0 own0 hr er dsts σ Q ((zjp o,.flt p)::rd) rc rest):Drw P n l h0 w0 own0 hr er dsts σ Q rd rc (o::rest):=by
 intro hlen;obtain ⟨ks,cx,h1,h2,h3⟩:=k (by simp at hlen ⊢;omega);refine ⟨_::ks,cx,.flt _ _ _ _ _ ?_ (by simpa using h1),by simpa using h2,by simpa using h3⟩;intro h w τ hl hs ho;rw[List.length_reverse] at ho ⊢;exact znk.to (fun j hj=>zdU (zal.1 hlt j hj)) his (H h w τ hl hs ho)
theorem zmn (hz:∀ w,(zeroValue e).run P w=.ok z w) (hc:z.cells=cs.toArray) (k:Drw P n l h0 w0 own0 hr er dsts σ Q ((zjp ⟨dst,.alloc e,ty,pos,aft,none⟩,.al (.cells cs.toArray e))::rd) rc rest):Drw P n l h0 w0 own0 hr er dsts σ Q rd rc (⟨dst,.alloc e,ty,pos,aft,none⟩::rest):=by
 intro hlen;obtain ⟨ks,cx,h1,h2,h3⟩:=k (by simp at hlen ⊢;omega);exact ⟨_::ks,cx,.al _ _ _ _ _ ⟨rfl,fun σ w=>zCB hz hc⟩ (by simpa using h1),by simpa using h2,by simpa using h3⟩
theorem zcf (k:Drw P n l h0 w0 own0 hr er dsts σ Q ((zjp o,.ch)::rd) ((rd.length,o)::rc) rest):Drw P n l h0 w0 own0 hr er dsts σ Q rd rc (o::rest):=by
 intro hlen;obtain ⟨ks,cx,h1,h2,h3⟩:=k (by simp at hlen ⊢;omega);exact ⟨_::ks,_::cx,.ch _ _ _ _ (by simpa using h1),by simpa using h2,by simpa using h3⟩
theorem zGF {cx cx1 cx2:List (Nat×Oper)} {az ls:List (Nat×Nat×Obj)} (hk:rd.reverse=ks) (hx:rc.reverse=cx) (ha:zqw er ks=az) (hl:zmu er ks=ls) (h1:cx.drop er.2.2.2.2=cx1) (h2:cx.take er.2.2.2.2=cx2) (sh:Shape n l ks cx er dsts) (hs:zoj P n l h0 w0 hr dsts σ Q ks cx1 cx2 ls az own0 []):Drw P n l h0 w0 own0 hr er dsts σ Q rd rc []:=by
 intro _;refine ⟨[],[],.nil _,?_,?_⟩
 ·simpa [hk,hx] using sh
 simp only[zbL,hk,hx,ha,hl,h1,h2];exact hs
theorem zGG (hlt:(zmF o).all (fun j=>Nat.blt j rd.length)=true) (his:(zmF o).map (fun i=>rd.length-1-i)=is) (hg:o.guard=none) (hd:zjw n o.dst=true) (H:∀ h w τ,Le hr h→Sub h w→(inL er.1 rd.length=true→St h0 w0 h w own0)→znk h rd is (fun vs=>Run P (known vs (mix (zrn er dsts rd.length) τ σ)) w o v w)) (k:Drw P n l h0 w0 own0 hr er dsts σ Q ((zjp o,.flt (.det v))::rd) rc rest):Drw P n l h0 w0 own0 hr er dsts σ Q rd rc (o::rest):=by
 refine zCU hlt his (fun h w τ hl hs ho=>?_) k;have key:∀ (is:List Nat) (Kw K':List (Nat×Value)→Prop),(∀ vs,Kw vs→K' vs)→znk h rd is Kw→znk h rd is K':=by
  intro is
  induction is with
  | nil=>exact fun Kw K' hkk h=>hkk _ h
  | cons i is ih=>
   intro Kw K' hkk h;rw[znk] at h ⊢;split
   ·rename_i d p eq;rw[eq] at h;exact fun g hf=>ih _ _ (fun vs=>hkk _) (h g hf)
   ·rename_i eq;rw[eq] at h;exact ih _ _ hkk h
 refine key _ _ _ (fun vs hrun=>?_) (H h w τ hl hs ho);exact zax hg hd hrun (zl ⟨v,h,rfl,St.start hs,(),rfl,trivial⟩)
theorem Run.lit {t b:Bool} (h:Run P σ w o (.bool t) w') (e:t=b):Run P σ w o (.bool b) w':=e▸h
def PF.res (Φ:Heap→Value→Prop) (up:∀ h h' v,Le h h'→Φ h v→Φ h' v):PF:=⟨Value,id,fun v h=>Φ h v,fun _ _ _ hf hl=>up _ _ _ hl hf⟩
end
section
variable {P:Program} {n:Nat} {l:List Oper} {h0:Heap} {w0:World} {own0:Own} {hr:Heap} {er:Er} {dsts:List Nat} {σ:Env} {Q:Exit→Env→World→Prop}
theorem znk.mono {h:Heap} {rd:List (Nat×Kd)}:∀ {is:List Nat} {Kw K':List (Nat×Value)→Prop},(∀ vs,Kw vs→K' vs)→znk h rd is Kw→znk h rd is K'
 | [],_,_,hk,h=>hk _ h
 | i::is,Kw,K',hk,h=>by
  rw[znk] at h ⊢;split
  ·rename_i d p eq;rw[eq] at h;exact fun g hf=>znk.mono (fun vs=>hk _) (h g hf)
  ·rename_i eq;rw[eq] at h;exact znk.mono hk h
theorem zxR (m:Nat) (p:PF) (is:List Nat) (hm:rd.length=m) (hlt:(zmF o).all (fun j=>Nat.blt j m)=true) (his:(zmF o).map (fun i=>m-1-i)=is) (H:∀ h w τ,Le hr h→Sub h w→(inL er.1 m=true→St h0 w0 h w own0)→znk h rd is (fun vs=>zAc P n l.toArray (known vs (mix (zrn er dsts m) τ σ)) h w o p)) (k:Drw P n l h0 w0 own0 hr er dsts σ Q ((zjp o,.flt p)::rd) rc rest):Drw P n l h0 w0 own0 hr er dsts σ Q rd rc (o::rest):=by
 subst hm;exact zCU hlt his H k
theorem zFN (m:Nat) (is:List Nat) (hm:rd.length=m) (hlt:(zmF o).all (fun j=>Nat.blt j m)=true) (his:(zmF o).map (fun i=>m-1-i)=is) (hg:o.guard=none) (hd:zjw n o.dst=true) (H:∀ h w τ,Le hr h→Sub h w→(inL er.1 m=true→St h0 w0 h w own0)→znk h rd is (fun vs=>Run P (known vs (mix (zrn er dsts m) τ σ)) w o v w)) (k:Drw P n l h0 w0 own0 hr er dsts σ Q ((zjp o,.flt (.det v))::rd) rc rest):Drw P n l h0 w0 own0 hr er dsts σ Q rd rc (o::rest):=by
 subst hm;exact zGG hlt his hg hd H k
theorem zFM {b:Bool} (m:Nat) (is:List Nat) (hm:rd.length=m) (hlt:(zmF ⟨dst,op,type,pos,after,some (g,b)⟩).all (fun j=>Nat.blt j m)=true) (his:(zmF ⟨dst,op,type,pos,after,some (g,b)⟩).map (fun i=>m-1-i)=is) (hgd:(l.toArray[g]?).bind (·.dst)=some d) (hdn:Nat.blt d n=true) (hd:zjw n dst=true) (H:∀ h w τ,Le hr h→Sub h w→(inL er.1 m=true→St h0 w0 h w own0)→znk h rd is (fun vs=>known vs (mix (zrn er dsts m) τ σ) d=.bool b∧Run P (known vs (mix (zrn er dsts m) τ σ)) w ⟨dst,op,type,pos,after,none⟩ v w)) (k:Drw P n l h0 w0 own0 hr er dsts σ Q ((zjp ⟨dst,op,type,pos,after,some (g,b)⟩,.flt (.det v))::rd) rc rest):Drw P n l h0 w0 own0 hr er dsts σ Q rd rc (⟨dst,op,type,pos,after,some (g,b)⟩::rest):=by
 refine zxR m _ is hm hlt his (fun h w τ hl hs ho=>znk.mono (fun vs=>?_) (H h w τ hl hs ho)) k;rintro ⟨hv,hrun⟩;exact zuI hgd hdn hv (zax rfl hd hrun (zl ⟨v,h,rfl,St.start hs,(),rfl,trivial⟩))
theorem zFL {b c:Bool} (m:Nat) (is:List Nat) (hm:rd.length=m) (hlt:(zmF ⟨dst,op,type,pos,after,some (g,b)⟩).all (fun j=>Nat.blt j m)=true) (his:(zmF ⟨dst,op,type,pos,after,some (g,b)⟩).map (fun i=>m-1-i)=is) (hgd:(l.toArray[g]?).bind (·.dst)=some d) (hdn:Nat.blt d n=true) (hd:zjw n dst=true) (hc:(c == b)=false) (H:∀ h w τ,Le hr h→Sub h w→(inL er.1 m=true→St h0 w0 h w own0)→znk h rd is (fun vs=>known vs (mix (zrn er dsts m) τ σ) d=.bool c)) (k:Drw P n l h0 w0 own0 hr er dsts σ Q ((zjp ⟨dst,op,type,pos,after,some (g,b)⟩,.flt (.det undef))::rd) rc rest):Drw P n l h0 w0 own0 hr er dsts σ Q rd rc (⟨dst,op,type,pos,after,some (g,b)⟩::rest):=by
 refine zxR m _ is hm hlt his (fun h w τ hl hs ho=>znk.mono (fun vs=>?_) (H h w τ hl hs ho)) k;intro hv;exact zuG hgd hdn hv hc hd (zl ⟨undef,h,rfl,St.start hs,(),rfl,trivial⟩)
end
theorem zbT.fin {l:List (Nat×PF)} {k:List (Nat×Value)→Prop} (e:l=[]) (hk:k []):zbT h l k:=by
 subst e;exact hk
section
variable {P:Program} {n:Nat} {ops:Array Oper} {rest:List Oper} {Kw:Env→World→Prop} {σ:Env} {w w0:World} {h h0:Heap} {own:Own} {ty:TypeId} {pos:String} {aft:Array Edge}
theorem zBt (st:St h0 w0 h w own) {t:TypeId} {s:Str} (hx:ev σ x=zae s) (ht:P.underlying t=some .string) (hd:Nat.blt d n=true) (hk:∀ b w',St h0 w0 h w' (own++[[(b,.stringIter ⟨s.toArray⟩ 0)]])→M P n ops rest Kw (upd σ d (.pointer (some ⟨b,0,none⟩))) w'):M P n ops (⟨some d,.range t x,ty,pos,aft,none⟩::rest) Kw σ w:=by
 refine zax rfl hd (v:=.pointer (some ⟨w.heap.size,0,none⟩)) (w':=w.alloc (.stringIter ⟨s.toArray⟩ 0)) ?_ (hk _ _ (st.alloc _));simp[execOp,hx,zae,Instr.range,run_underlying ht]
theorem zCs (st:St h0 w0 h w own) {k: Nat} {s:Str} (hk:own[k]?=some [(b,.stringIter ⟨s.toArray⟩ p)]) (hx:ev σ x=.pointer (some ⟨b,0,none⟩)) (hc:s[p]?=some c) (hd:Nat.blt d n=true) (hK:∀ w',St h0 w0 h w' (own.set k [(b,.stringIter ⟨s.toArray⟩ (p+(Utf8.decode ⟨s.toArray⟩ p).2))])→M P n ops rest Kw (upd σ d (.tuple #[.bool true,.int .i64 (p:Int),.int .i32 ((Utf8.decode ⟨s.toArray⟩ p).1:Int)])) w'):M P n ops (⟨some d,.next x true,ty,pos,aft,none⟩::rest) Kw σ w:=by
 have hb:=st.get hk;have hlt:p<s.length:=(k_List_getElem__eq_some_iff.1 hc).1;refine zax rfl hd ?_ (hK _ (st.set _ hk));have hl:p<(⟨s.toArray⟩:ByteArray).size:=by simpa [ByteArray.size] using hlt
 simp[execOp,hx,Instr.next,getObj,setObj,Sem.run,hb,hl,goInt]
theorem zCu (st:St h0 w0 h w own) {k: Nat} {s:Str} (hk:own[k]?=some [(b,.stringIter ⟨s.toArray⟩ p)]) (hx:ev σ x=.pointer (some ⟨b,0,none⟩)) (hc:s.length≤p) (hd:Nat.blt d n=true) (hK:M P n ops rest Kw (upd σ d (.tuple #[.bool false])) w):M P n ops (⟨some d,.next x true,ty,pos,aft,none⟩::rest) Kw σ w:=by
 have hb:=st.get hk;refine zax rfl hd ?_ hK;have hl:¬ p<(⟨s.toArray⟩:ByteArray).size:=by simpa [ByteArray.size] using hc
 simp[execOp,hx,Instr.next,getObj,Sem.run,hb,hl]
end
theorem zsR (ha:Fits n a σ) (hg:(ops[g]?).bind (·.dst)=some d) (hd:Nat.blt d n=true) (hv:σ d=undef):yielded ops a.tmps g=none:=by
 have hd':d<a.tmps.size:=by rw[ha.size];exact zdU hd
 have h1:a.tmps[d]?=some undef:=by
  have:=ha.at_ d;rw[hv] at this;simp only[zbb] at this;rw[zcr hd'] at this ⊢;simpa using this
 simp[yielded,hg,h1,undef]
theorem zyv {b:Bool} (hg:(ops[g]?).bind (·.dst)=some d) (hd:Nat.blt d n=true) (hv:σ d=undef) (hdst:zjw n dst=true) (h:M P n ops rest Kw (updO σ dst undef) w):M P n ops (⟨dst,op,type,pos,after,some (g,b)⟩::rest) Kw σ w:=by
 intro a ha;unfold wpListIn;rw[zam (by simp[Region.wanted,zsR ha hg hd hv])];exact ⟨fun _ _=>trivial,h _ (ha.put hdst _)⟩
theorem zHi {g:Option (Nat×Bool)} {t t':TypeId} {a b:Bool} (hx:ev σ x=.bool a) (hy:ev σ y=.bool b) (ht:P.underlying t=some .bool):Run P σ w ⟨dst,.binOp .eql t x y t',ty,pos,aft,g⟩ (.bool (a == b)) w:=by
 simp[Run,execOp,hx,hy,eqGuard,run_eql_bool _ _ _ _ ht]
theorem zex {g:Option (Nat×Bool)} {t: TypeId} {ix: Operand} {o m k: Nat} {kd:IntKind} {i:Int} (hx:ev σ x=.pointer (some ⟨b,o,none⟩)) (hi:ev σ ix=.int kd i) (hk:i=(k:Int)) (hlt:Nat.blt k n=true) (hu:P.underlying t=some (.array n e)) (hz:∀ w,(sizeOf e).run P w=.ok m w):Run P σ w ⟨dst,.indexAddr t x ix,ty,pos,aft,g⟩ (.pointer (some ⟨b,o+k*m,none⟩)) w:=by
 subst hk;have h1:k<n:=zdU hlt;have h2:(k:Int)<(n:Int):=by omega
 simp[Run,execOp,hx,hi,Instr.indexAt,Instr.sureAddr,asIntOf,run_underlying hu,hz,h1,zik]
theorem zxi {s:Str} (hc:s[p]?=some c) (h:c.toNat<128):Utf8.decode ⟨s.toArray⟩ p=(c.toNat,1):=by
 have e:(⟨s.toArray⟩:ByteArray).get! (p+0)=c:=by
  obtain ⟨hl,e⟩:=k_List_getElem__eq_some_iff.1 hc;show s.toArray[p]! = c;simp[hl,e]
 unfold Utf8.decode;simp only[e];rw[zab h]
theorem zBf {s:Str} (hc:s[p]?=some c) (h:¬ c.toNat<128):128≤(Utf8.decode ⟨s.toArray⟩ p).1:=by
 have e:(⟨s.toArray⟩:ByteArray).get! (p+0)=c:=by
  obtain ⟨hl,e⟩:=k_List_getElem__eq_some_iff.1 hc;show s.toArray[p]! = c;simp[hl,e]
 unfold Utf8.decode;simp only[e];rw[zam h];have hr:(128:Nat)≤Utf8.runeError:=by decide
 split
 ·split
  ·assumption
  ·exact hr
 split
 ·split
  ·rename_i h1;simp only[zK,zX] at h1;exact zfl (by decide) h1.1
  ·exact hr
 split
 ·split
  ·rename_i h1;simp only[zK,zX] at h1;exact zfl (by decide) h1.1
  ·exact hr
 exact hr
structure Place where
 chapter:Int
 line:Int
 word:Int
 deriving DecidableEq
def zdO:Lay Place:={ size:=3,R:=fun _ vs x=>vs=[.int .i64 x.chapter,.int .i64 x.line,.int .i64 x.word],up:=fun h _=>h,len:=(by rintro _ _ _ rfl;rfl),one:=(by rintro _ _ _ rfl u hu;simp only[zaV,zbD,zec] at hu;rcases hu with rfl|rfl|rfl <;> first|rfl|exact Sl.one (by assumption)) }
structure Chapter where
 id:Int
 lines:(List (List Str))
 deriving DecidableEq
def zaN:Lay Chapter:={ size:=2,R:=fun h vs x=>∃ v0,vs=[.int .i64 x.id,v0]∧Sl (LSl zea) h v0 x.lines,up:=(by rintro _ _ _ _ ⟨v0,rfl,f0⟩ hl;exact ⟨v0,rfl,f0.up hl⟩),len:=(by rintro _ _ _ ⟨_,rfl,_⟩;rfl),one:=(by rintro _ _ _ ⟨v0,rfl,f0⟩ u hu;simp only[zaV,zbD,zec] at hu;rcases hu with rfl|rfl <;> first|rfl|exact Sl.one (by assumption)) }
structure Text where
 chapters:(List Chapter)
 deriving DecidableEq
def zBw:Lay Text:={ size:=1,R:=fun h vs x=>∃ v0,vs=[v0]∧Sl zaN h v0 x.chapters,up:=(by rintro _ _ _ _ ⟨v0,rfl,f0⟩ hl;exact ⟨v0,rfl,f0.up hl⟩),len:=(by rintro _ _ _ ⟨_,rfl,_⟩;rfl),one:=(by rintro _ _ _ ⟨v0,rfl,f0⟩ u hu;simp only[zaV,zbD,zec] at hu;rcases hu with rfl <;> first|rfl|exact Sl.one (by assumption)) }
structure Head where
 stem:Str
 mark:Int
 deriving DecidableEq
def zhb:Lay Head:={ size:=2,R:=fun _ vs x=>vs=[zae x.stem,.int .u8 x.mark]∧x.stem.length≤big∧(0≤x.mark∧x.mark≤255),up:=fun h _=>h,len:=(by rintro _ _ _ ⟨rfl,_,_⟩;rfl),one:=(by rintro _ _ _ ⟨rfl,f0,f1⟩ u hu;simp only[zaV,zbD,zec] at hu;rcases hu with rfl|rfl <;> first|rfl|exact Sl.one (by assumption)) }
structure Rule where
 cut:Str
 put:Str
 least:Int
 deriving DecidableEq
def zeE:Lay Rule:={ size:=3,R:=fun _ vs x=>vs=[zae x.cut,zae x.put,.int .i64 x.least]∧x.cut.length≤big∧x.put.length≤big,up:=fun h _=>h,len:=(by rintro _ _ _ ⟨rfl,_,_⟩;rfl),one:=(by rintro _ _ _ ⟨rfl,f0,f1⟩ u hu;simp only[zaV,zbD,zec] at hu;rcases hu with rfl|rfl|rfl <;> first|rfl|exact Sl.one (by assumption)) }
structure Decision where
 number:Int
 kind:Int
 form:Str
 at_:Place
 to:Head
 of_:Int
 deriving DecidableEq
def zaG:Lay Decision:={ size:=9,R:=fun _ vs x=>vs=[.int .i64 x.number,.int .u8 x.kind,zae x.form,.int .i64 x.at_.chapter,.int .i64 x.at_.line,.int .i64 x.at_.word,zae x.to.stem,.int .u8 x.to.mark,.int .i64 x.of_]∧(0≤x.kind∧x.kind≤255)∧x.form.length≤big∧x.to.stem.length≤big∧(0≤x.to.mark∧x.to.mark≤255),up:=fun h _=>h,len:=(by rintro _ _ _ ⟨rfl,_,_,_,_⟩;rfl),one:=(by rintro _ _ _ ⟨rfl,f0,f1,f2,f3⟩ u hu;simp only[zaV,zbD,zec] at hu;rcases hu with rfl|rfl|rfl|rfl|rfl|rfl|rfl|rfl|rfl <;> first|rfl|exact Sl.one (by assumption)) }
structure Lexicon where
 rules:(List Rule)
 decisions:(List Decision)
 deriving DecidableEq
def zxP:Lay Lexicon:={ size:=2,R:=fun h vs x=>∃ v0 v1,vs=[v0,v1]∧Sl zeE h v0 x.rules∧Sl zaG h v1 x.decisions,up:=(by rintro _ _ _ _ ⟨v0,v1,rfl,f0,f1⟩ hl;exact ⟨v0,v1,rfl,f0.up hl,f1.up hl⟩),len:=(by rintro _ _ _ ⟨_,_,rfl,_,_⟩;rfl),one:=(by rintro _ _ _ ⟨v0,v1,rfl,f0,f1⟩ u hu;simp only[zaV,zbD,zec] at hu;rcases hu with rfl|rfl <;> first|rfl|exact Sl.one (by assumption)) }
structure Question where
 at_:Place
 heads:(List Head)
 deriving DecidableEq
structure Voter where
 id:Int
 wrong:Int
 votes:(List Int)
 deriving DecidableEq
structure Poll where
 text:Text
 lexicon:Lexicon
 questions:(List Question)
 voters:(List Voter)
 deriving DecidableEq
structure Span where
 lo:Int
 hi:Int
 deriving DecidableEq
section
variable {κ υ:Type} {ek:κ→Value} {eu:υ→Value}
theorem OM.one {m:List (κ×υ)} {o:List (Nat×Obj)} (h:OM ek eu m o v):v.oneCell'=true:=by
 obtain ⟨b,es,clock,_,rfl,_⟩:=h;rfl
theorem OM.form {m:List (κ×υ)} {o:List (Nat×Obj)} (h:OM ek eu m o v):∃ b,v=.map (some b):=by
 obtain ⟨b,es,clock,_,rfl,_⟩:=h;exact ⟨b,rfl⟩
def FM (ek:κ→Value) (eu:υ→Value) (h:Heap) (m:List (κ×υ)) (v:Value):Prop:=
 ∃ b es clock,h b=some (.map es clock)∧v=.map (some b)∧Ent ek eu es.toList m∧(∀ e∈es.toList,e.born<clock)∧(es.toList.map (·.born)).Nodup
theorem FM.up {m:List (κ×υ)} (f:FM ek eu h m v) (l:Le h h'):FM ek eu h' m v:=by
 obtain ⟨b,es,clock,hb,q⟩:=f;exact ⟨b,es,clock,l _ _ hb,q⟩
theorem FM.one {m:List (κ×υ)} (f:FM ek eu h m v):v.oneCell'=true:=by
 obtain ⟨b,es,clock,_,rfl,_⟩:=f;rfl
theorem FM.to {m m':List (κ×υ)} (f:FM ek eu h m v) (e:m=m'):FM ek eu h m' v:=e▸f
theorem OM.freeze {h0 h:Heap} {w0 w:World} {own:Own} {k:Nat} {m:List (κ×υ)} {o:List (Nat×Obj)} {v:Value} (st:St h0 w0 h w own) (hM:OM ek eu m o v) (hk:own[k]?=some o):
  ∃ h',Le h h'∧FM ek eu h' m v∧St h0 w0 h' w (own.set k []):=by
 obtain ⟨b,es,clock,rfl,rfl,hE,hB,hD⟩:=hM;obtain ⟨h',hl,hg,st'⟩:=st.freeze hk;exact ⟨h',hl,⟨b,es,clock,hg,rfl,hE,hB,hD⟩,st'⟩
theorem FM.om {m:List (κ×υ)} (f:FM ek eu h m v) (hs:Sub h w):∃ o,OM ek eu m o v∧∀ b ob,o=[(b,ob)]→w.heap[b]?=some ob:=by
 obtain ⟨b,es,clock,hb,rfl,hE,hB,hD⟩:=f;exact ⟨[(b,.map es clock)],⟨b,es,clock,rfl,rfl,hE,hB,hD⟩,fun b' ob e=>by cases e;exact hs _ _ hb⟩
theorem Ent.erase:∀ {es:List MapEntry} {m:List (κ×υ)} (j:Nat),Ent ek eu es m→Ent ek eu (es.eraseIdx j) (m.eraseIdx j)
 | [],[],_,_=>trivial
 | _::_,_::_,0,h=>h.2.2
 | _::_,_::_,j+1,h=>⟨h.1,h.2.1,h.2.2.erase j⟩
 | [],_::_,_,h=>h.elim
 | _::_,[],_,h=>h.elim
def zni [DecidableEq κ] (m:List (κ×υ)) (k:κ):List (κ×υ):=m.filter fun p=>!decide (p.1=k)
theorem zuX [DecidableEq κ] {m:List (κ×υ)} {k:κ} (h:zcI m k=none):∀ p∈m,p.1≠k:=by
 intro p hp e;have:(m.find? fun q=>decide (q.1=k)).isSome=true:=by
  rw[List.find?_isSome];exact ⟨p,hp,by simp[e]⟩
 simp only[zcI,Option.map_eq_none_iff] at h;rw[h] at this;cases this
theorem zyW [DecidableEq κ] {m:List (κ×υ)} {k:κ} (h:zcI m k=none):zni m k=m:=by
 unfold zni;rw[zeN];intro p hp;simp[zuX h p hp]
theorem zto [DecidableEq κ]:∀ {m:List (κ×υ)} {k:κ} {j:Nat} {u:υ},(m.map (·.1)).Nodup→m[j]?=some (k,u)→zni m k=m.eraseIdx j
 | [],_,_,_,_,h=>by simp at h
 | p::m,k,0,u,hn,h=>by
  simp only[zeL,zeS] at h;subst h;simp only[zbQ,zgb] at hn;simp only[zni,zbo,decide_true,Bool.not_true,zbd,if_false,List.eraseIdx_cons_zero];rw[zeN];intro q hq;have:q.1≠k:=by rintro rfl;exact hn.1 (zdq hq)
  simp[this]
 | p::m,k,j+1,u,hn,h=>by
  simp only[zbQ,zgb] at hn;have h':m[j]?=some (k,u):=by simpa using h
  have hne:¬ p.1=k:=by
   intro e;exact hn.1 (e▸zbk.2 ⟨(k,u),zD h',rfl⟩)
  have:=zto hn.2 h';simp only[zni] at this;simp only[zni,zbo,hne,decide_false,Bool.not_false,if_true,List.eraseIdx_cons_succ,this]
theorem zuY [DecidableEq κ] (m:List (κ×υ)) (k k':κ):zcI (zni m k) k'=if k'=k then none else zcI m k':=by
 induction m with
 | nil=>simp[zcI,zni]
 | cons p m ih=>
  simp only[zcI,zni,zbo,zdu] at ih ⊢
  by_cases h1:p.1=k
  ·simp only[h1,decide_true,Bool.not_true,zbd,if_false];rw[ih]
   by_cases h2:k'=k
   ·simp[h2]
   ·have h3:¬ k=k':=fun e=>h2 e.symm;simp[h2,h3]
  ·simp only[h1,decide_false,Bool.not_false,if_true,zdu]
   by_cases h4:p.1=k'
   ·have:¬ k'=k:=fun e=>h1 (h4.trans e);simp[h4,this]
   ·simp only[h4,decide_false];exact ih
variable {P:Program} {n:Nat} {ops:Array Oper} {rest:List Oper} {Kw:Env→World→Prop} {σ:Env} {w w0:World} {h0 h:Heap} {own:Own} {ty:TypeId} {pos:String} {aft:Array Edge} {d:Nat} {dst:Option Tmp} {g:Option (Nat×Bool)}
theorem zxM [DecidableEq κ] {t kty: TypeId} {kind:TypeDesc} {m:List (κ×υ)} {o:List (Nat×Obj)} {k:κ} (st:St h0 w0 h w own) (hM:OM ek eu m o v) (hi:own[i]?=some o) (hn:(m.map (·.1)).Nodup) (hK:Key P kt kind ek) (ht:P.underlying t=some (.map kt et)) (hx:ev σ x=v) (hy:ev σ y=ek k) (hk:∀ o' w' own',own'=own.set i o'→OM ek eu (zni m k) o' v→((zni m k).map (·.1)).Nodup→St h0 w0 h w' own'→M P n ops rest Kw σ w'):
  M P n ops (⟨none,.call ⟨.builtin .delete,#[x,y],#[t,kty]⟩,ty,pos,aft,none⟩::rest) Kw σ w:=by
 obtain ⟨b,es,clock,rfl,rfl,hE,hB,hD⟩:=hM;have hb:=st.get hi;have hg:(getObj b).run P w=.ok (.map es clock) w:=by simp[getObj,Sem.run,hb]
 have hset:∀ es' c',(setObj b (.map es' c')).run P w=.ok () { w with heap:=w.heap.setIfInBounds b (.map es' c') }:=by
  intro es' c';simp[setObj,Sem.run,hb]
 have hc:=hK.check es.isEmpty k w;have hnd:((zni m k).map (·.1)).Nodup:=(zdC.map _).nodup hn;cases hl:zcI m k with
 | none=>
  have hf:=zmS hK k es.toList none (zqp hK.tells 0 hE hl) w;refine zax rfl rfl (v:=.tuple #[]) (w':={ w with heap:=w.heap.setIfInBounds b (.map es clock) }) ?_ (hk _ _ _ rfl ⟨b,es,clock,rfl,rfl,by rw[zyW hl];exact hE,hB,hD⟩ hnd (st.set _ hi));refine zpb rfl (vs:=[.map (some b),ek k]) (by simp[hx,hy]) fun cs=>?_;simp only[builtin,Builtin.delete_,Sem.run_bind,run_underlying ht,Result.andThen_ok,zdI,zeL,List.getElem?_cons_succ,hg,hc,hf,hset,Sem.run_pure]
 | some q=>
  obtain ⟨j,h1,h2,_,h4⟩:=zqo hK.tells 0 hE hl;have hf:=zmS hK k es.toList _ h4 w;simp only[zdv] at hf;have hlen:=hE.len;have hes:(es.eraseIdxIfInBounds j).toList=es.toList.eraseIdx j:=by
   unfold Array.eraseIdxIfInBounds;split
   ·simp
   ·rename_i hq;rw[List.eraseIdx_of_length_le (by simpa using hq)]
  have hsub:(es.toList.eraseIdx j).Sublist es.toList:=List.eraseIdx_sublist _ _;refine zax rfl rfl (v:=.tuple #[]) (w':={ w with heap:=w.heap.setIfInBounds b (.map (es.eraseIdxIfInBounds j) clock) }) ?_ (hk _ _ _ rfl ⟨b,es.eraseIdxIfInBounds j,clock,rfl,rfl,?_,?_,?_⟩ hnd (st.set _ hi))
  ·refine zpb rfl (vs:=[.map (some b),ek k]) (by simp[hx,hy]) fun cs=>?_;simp only[builtin,Builtin.delete_,Sem.run_bind,run_underlying ht,Result.andThen_ok,zdI,zeL,List.getElem?_cons_succ,hg,hc,hf,hset,Sem.run_pure]
  ·rw[hes,zto hn h2];exact hE.erase j
  ·intro e he;rw[hes] at he;exact hB e (hsub.subset he)
  ·rw[hes];exact (hsub.map _).nodup hD
def MI (ek:κ→Value) (eu:υ→Value) (h:Heap) (v:Value) (o:List (Nat×Obj)) (vi:Value) (rm:List (κ×υ)):Prop:=
 ∃ b mb es clock seen,h mb=some (.map es clock)∧v=.map (some mb)∧(∀ e∈es.toList,e.born<clock)∧(es.toList.map (·.born)).Nodup∧o=[(b,.mapIter (some mb) clock seen clock)]∧vi=.pointer (some ⟨b,0,none⟩)∧Ent ek eu (es.toList.filter fun e=>!seen.contains e.born) rm
def MC (ek:κ→Value) (eu:υ→Value) (h:Heap) (o:List (Nat×Obj)) (vi:Value) (p:κ×υ):Prop:=
 ∃ b mb es clock seen e,h mb=some (.map es clock)∧o=[(b,.mapIter (some mb) clock seen clock)]∧vi=.pointer (some ⟨b,0,none⟩)∧e∈es.toList∧seen.back?=some e.born∧(es.toList.map (·.born)).Nodup∧e.key=ek p.1∧e.val=eu p.2
theorem MI.up {h: Heap} {o:List (Nat×Obj)} {rm:List (κ×υ)} (f:MI ek eu h v o vi rm) (l:Le h h'):MI ek eu h' v o vi rm:=by
 obtain ⟨b,mb,es,clock,seen,hb,q⟩:=f;exact ⟨b,mb,es,clock,seen,l _ _ hb,q⟩
theorem zBu {t: TypeId} {m:List (κ×υ)} (st:St h0 w0 h w own) (hF:FM ek eu h m v) (hx:ev σ x=v) (ht:P.underlying t=some (.map kt et)) (hd:Nat.blt d n=true) (hk:∀ o vi w',MI ek eu h v o vi m→St h0 w0 h w' (own++[o])→M P n ops rest Kw (upd σ d vi) w'):
  M P n ops (⟨some d,.range t x,ty,pos,aft,none⟩::rest) Kw σ w:=by
 obtain ⟨mb,es,clock,hb,rfl,hE,hB,hD⟩:=hF;have hg:(getObj mb).run P w=.ok (.map es clock) w:=by simp[getObj,Sem.run,st.sub _ _ hb]
 refine zax rfl hd (v:=.pointer (some ⟨w.heap.size,0,none⟩)) (w':=w.alloc (.mapIter (some mb) clock #[] clock)) ?_ (hk [(w.heap.size,.mapIter (some mb) clock #[] clock)] _ _ ⟨_,mb,es,clock,#[],hb,rfl,hB,hD,rfl,rfl,?_⟩ (st.alloc _))
 ·simp[Run,execOp,hx,Instr.range,run_underlying ht,hg]
 ·have:(es.toList.filter fun e=>!(#[]:Array Nat).contains e.born)=es.toList:=by
   rw[zeN];intro e _;simp
  rw[this];exact hE
theorem Ent.split:∀ {l1 l2:List MapEntry} {e:MapEntry} {rm:List (κ×υ)},Ent ek eu (l1++e::l2) rm→∃ p rm',rm.Perm (p::rm')∧e.key=ek p.1∧e.val=eu p.2∧Ent ek eu (l1++l2) rm'
 | [],l2,e,[],h=>h.elim
 | [],l2,e,p::rm,h=>⟨p,rm,List.Perm.refl _,h.1,h.2.1,h.2.2⟩
 | _::_,_,_,[],h=>h.elim
 | e1::l1,l2,e,q::rm,h=>by
  obtain ⟨p,rm',h1,h2,h3,h4⟩:=Ent.split (l1:=l1) (l2:=l2) (e:=e) h.2.2;exact ⟨p,q::rm',(h1.cons q).trans (List.Perm.swap p q rm'),h2,h3,⟨h.1,h.2.1,h4⟩⟩
theorem zvA {Nw:Nat} (hN:0<Nw) (w:World):∃ c w',(choose (.mapNext Nw)).run P w=.ok c w'∧c<Nw∧(w'=w∨w'=w.drew):=by
 cases hf:(Question.mapNext Nw).forced with
 | true=>exact ⟨0,w,by simp[choose,Sem.run,hf],hN,.inl rfl⟩
 | false=>exact ⟨_,w.drew,by simp only[choose,Sem.run,hf,zbd,if_false];rfl,Nat.mod_lt _ hN,.inr rfl⟩
theorem zCt [DecidableEq κ] {o:List (Nat×Obj)} {rm:List (κ×υ)} (st:St h0 w0 h w own) (hI:MI ek eu h v o vi rm) (hi:own[i]?=some o) (hx:ev σ x=vi) (hd:Nat.blt d n=true) (hE:rm=[]→∀ w',St h0 w0 h w' own→M P n ops rest Kw (upd σ d (.tuple #[.bool false])) w') (hN:∀ p rm' o' w' own',own'=own.set i o'→rm.Perm (p::rm')→MI ek eu h v o' vi rm'→MC ek eu h o' vi p→St h0 w0 h w' own'→M P n ops rest Kw (upd σ d (.tuple #[.bool true,ek p.1,eu p.2])) w'):
  M P n ops (⟨some d,.next x false,ty,pos,aft,none⟩::rest) Kw σ w:=by
 obtain ⟨b,mb,es,clock,seen,hb,rfl,hB,hD,rfl,rfl,hent⟩:=hI;have hmb:=st.sub _ _ hb;have hib:=st.get hi;have hg1:(getObj b).run P w=.ok (.mapIter (some mb) clock seen clock) w:=by simp[getObj,Sem.run,hib]
 have hg2:(getObj mb).run P w=.ok (.map es clock) w:=by simp[getObj,Sem.run,hmb]
 have hnot:(!seen.isEmpty && !es.isEmpty && es.all (fun e=>decide (e.born≥clock)))=false:=by
  cases hes:es.isEmpty with
  | true=>simp
  | false=>
   have:es.all (fun e=>decide (e.born≥clock))=false:=by
    rw[Bool.eq_false_iff];intro hall;rw[Array.all_eq_true'] at hall;have hne:es.toList≠[]:=by
     intro e;rw[Array.isEmpty] at hes;simp at hes;exact hes (by simpa using e)
    obtain ⟨e,he⟩:=List.exists_mem_of_ne_nil _ hne;have h1:=hall e (by simpa using he);have h2:=hB e he;simp at h1;omega
   rw[this];simp
 -- what is left, and what of it is old: all
 have hleft:(es.filter fun e=>!seen.contains e.born).toList=es.toList.filter fun e=>!seen.contains e.born:=by simp
 have hold:((es.filter fun e=>!seen.contains e.born).filter fun e=>decide (e.born<clock))=es.filter fun e=>!seen.contains e.born:=by
  rw[Array.filter_eq_self];intro e he;have:e∈es.toList:=by
   have:=(Array.mem_filter.1 he).1;simpa using this
  simpa using hB e this
 have hnew:((es.filter fun e=>!seen.contains e.born).filter fun e=>decide (e.born≥clock))=#[]:=by
  rw[Array.filter_eq_empty_iff];intro e he;have:e∈es.toList:=by
   have:=(Array.mem_filter.1 he).1;simpa using this
  have:=hB e this;simp;omega
 cases hlf:es.toList.filter (fun e=>!seen.contains e.born) with
 | nil=>
  rw[hlf] at hent;have hrm:rm=[]:=by
   cases rm with
   | nil=>rfl
   | cons p r=>exact hent.elim
  have hl0:(es.filter fun e=>!seen.contains e.born)=#[]:=by
   apply Array.ext';rw[hleft,hlf]
  obtain ⟨c,w',hr,hc,hw'⟩:=zvA (P:=P) (Nw:=1) zW w;have hc0:c=0:=by omega
  subst hc0;have st':St h0 w0 h w' own:=by
   rcases hw' with rfl|rfl
   ·exact st
   ·exact st.drew
  refine zax rfl hd (v:=.tuple #[.bool false]) (w':=w') ?_ (hE hrm _ st');rw[hl0] at hold hnew;simp only[Run,execOp,hx,Instr.next,Sem.run_bind,hg1,Result.andThen_ok,hg2,hnot,zbd,if_false,hl0,hold,hnew,Sem.run_pure];have e1:((if (#[]:Array MapEntry).isEmpty=true then #[none] else #[])++((#[]:Array MapEntry)++#[]).map some).size=1:=by simp
  rw[e1,hr];simp
 | cons e0 l0=>
  have hsz:0<(es.filter fun e=>!seen.contains e.born).size:=by
   rw[← zhE,hleft,hlf];simp
  have hne:(es.filter fun e=>!seen.contains e.born).isEmpty=false:=by
   cases hq:(es.filter fun e=>!seen.contains e.born).isEmpty with
   | false=>rfl
   | true=>rw[Array.isEmpty_iff] at hq;rw[hq] at hsz;simp at hsz
  obtain ⟨c,w1,hr1,hclt,hw1⟩:=zvA (P:=P) hsz w;have st1:St h0 w0 h w1 own:=by
   rcases hw1 with rfl|rfl
   ·exact st
   ·exact st.drew
  have hib1:=st1.get hi;obtain ⟨e,he⟩:∃ e,e=(es.filter fun e=>!seen.contains e.born)[c]:=⟨_,rfl⟩;have hget:(es.toList.filter fun e=>!seen.contains e.born)[c]?=some e:=by
   rw[← hleft,zgu,zcr hclt,he]
  have hcl:c<(es.toList.filter fun e=>!seen.contains e.born).length:=(k_List_getElem__eq_some_iff.1 hget).1;have hsplit:(es.toList.filter fun e=>!seen.contains e.born)=(es.toList.filter fun e=>!seen.contains e.born).take c++e::(es.toList.filter fun e=>!seen.contains e.born).drop (c+1):=by
   have h1:(es.toList.filter fun e=>!seen.contains e.born)[c]=e:=(k_List_getElem__eq_some_iff.1 hget).2;rw[← h1,zhM hcl,zbS]
  rw[hsplit] at hent;obtain ⟨p,rm',hp,hk1,hk2,hent'⟩:=hent.split;have hmem:e∈es.toList:=(zcl.1 (zD hget)).1;have hrest:(es.toList.filter fun e'=>!(seen.push e.born).contains e'.born)=(es.toList.filter fun e=>!seen.contains e.born).take c++(es.toList.filter fun e=>!seen.contains e.born).drop (c+1):=by
   have h1:(es.toList.filter fun e'=>!(seen.push e.born).contains e'.born)=(es.toList.filter fun e=>!seen.contains e.born).filter fun e'=>!decide (e'.born=e.born):=by
    rw[List.filter_filter];apply zfo;intro e' _;simp[Array.contains_eq_mem,Array.mem_push];rw[Bool.and_comm]
   have hnd:((es.toList.filter fun e=>!seen.contains e.born).map (·.born)).Nodup:=(zdC.map _).nodup hD;rw[h1];have hnd2:=hnd;rw[hsplit,zaz,zbQ,zcx,zgb] at hnd2
   conv=>lhs;rw[hsplit]
   rw[zbc,zbo];simp only[decide_true,Bool.not_true,zbd,if_false];congr 1
   ·rw[zeN];intro q hq;have:=hnd2.2.2 q.born (zdq hq) e.born (zct ..);simp[this]
   ·rw[zeN];intro q hq;have:q.born≠e.born:=fun h=>hnd2.2.1.1 (h▸zdq hq);simp[this]
  have hset:(setObj b (.mapIter (some mb) clock (seen.push e.born) clock)).run P w1=.ok () { w1 with heap:=w1.heap.setIfInBounds b (.mapIter (some mb) clock (seen.push e.born) clock) }:=by
   simp[setObj,Sem.run,hib1]
  refine zax rfl hd (v:=.tuple #[.bool true,ek p.1,eu p.2]) (w':={ w1 with heap:=w1.heap.setIfInBounds b (.mapIter (some mb) clock (seen.push e.born) clock) }) ?_ (hN p rm' [(b,.mapIter (some mb) clock (seen.push e.born) clock)] _ _ rfl hp ⟨b,mb,es,clock,_,hb,rfl,hB,hD,rfl,rfl,?_⟩ ⟨b,mb,es,clock,_,e,hb,rfl,rfl,hmem,by simp,hD,hk1,hk2⟩ (st1.set _ hi))
  ·simp only[Run,execOp,hx,Instr.next,Sem.run_bind,hg1,Result.andThen_ok,hg2,hnot,zbd,if_false,hold,hnew,hne,Sem.run_pure];have hcand:((#[]++((es.filter fun e:MapEntry=>!seen.contains e.born)++#[]).map some:Array (Option MapEntry)))[c]?=some (some e):=by
    rw[he];simp only[Array.append_empty,Array.empty_append,Array.getElem?_map,zcr hclt,zck]
   have hcs:(#[]++((es.filter fun e:MapEntry=>!seen.contains e.born)++#[]).map some:Array (Option MapEntry)).size=(es.filter fun e:MapEntry=>!seen.contains e.born).size:=by simp only[Array.append_empty,Array.empty_append,Array.size_map]
   rw[hcs,hr1];simp only[Result.andThen_ok,hcand,Sem.run_bind,hset,Sem.run_pure,hk1,hk2]
  ·rw[hrest];exact hent'
theorem zFY {o:List (Nat×Obj)} {p:κ×υ} (hs:Sub h w) (hC:MC ek eu h o vi p) (hw:∀ b ob,o=[(b,ob)]→w.heap[b]?=some ob) (hx:ev σ x=vi):
  Run P σ w ⟨dst,.entry x,ty,pos,aft,g⟩ (.tuple [ek p.1,eu p.2].toArray) w:=by
 obtain ⟨b,mb,es,clock,seen,e,hb,rfl,rfl,hm,hs',hD,h1,h2⟩:=hC;have hg1:(getObj b).run P w=.ok (.mapIter (some mb) clock seen clock) w:=by simp[getObj,Sem.run,hw _ _ rfl]
 have hg2:(getObj mb).run P w=.ok (.map es clock) w:=by simp[getObj,Sem.run,hs _ _ hb]
 have hf:es.find? (fun q=>q.born == e.born)=some e:=by
  rw[← Array.find?_toList];obtain ⟨j,hj⟩:=k_List_mem_iff_getElem_.1 hm;obtain ⟨hl,hj'⟩:=k_List_getElem__eq_some_iff.1 hj;rw[List.find?_eq_some_iff_getElem];refine ⟨by simp,j,hl,hj',fun q hq=>?_⟩;have:=zdE.1 hD q j (by rw[zaa];omega) (by simpa using hl) hq;simp only[List.getElem_map,hj'] at this;simpa using this
 simp[Run,execOp,hx,Instr.entry,hg1,hg2,hs',hf,h1,h2]
end
theorem Sl.nilb {α:Type} {L:Lay α} {xs:List α} (hs:Sl L h v xs):∃ b,(b=true→xs=[])∧∀ {σ:Env} {w:World} {ty:TypeId} {pos:String} {aft:Array Edge} {g:Option (Nat×Bool)} {dst:Option Tmp} {t t':TypeId} {e:TypeId} {x y:Operand},P.underlying t=some (.slice e)→ev σ x=v→ev σ y=.slice none 0 0→
  Run P σ w ⟨dst,.binOp .eql t x y t',ty,pos,aft,g⟩ (.bool b) w:=by
 obtain ⟨p,c,rfl,_,hh⟩:=hs;refine ⟨p.isNone,?_,?_⟩
 ·intro hp
  rcases hh with rfl|⟨b,off,rfl,_⟩
  ·rfl
  ·cases hp
 ·intro σ w ty pos aft g dst t t' e x y ht hx hy;have hr:=run_equal_slice_nil (P:=P) w t e p xs.length c ht;simp[Run,execOp,hx,hy,eqGuard,binOp,hr]
section
variable {P:Program} {n:Nat} {ops:Array Oper} {rest:List Oper} {Kw:Env→World→Prop} {σ:Env} {w w0:World} {h0 h:Heap} {own:Own} {ty ty':TypeId} {pos pos':String} {aft aft':Array Edge} {d:Nat}
theorem zrC:∀ (us pre cs:List Value),us.length=cs.length→zlm (pre++cs) pre.length us=pre++us
 | [],pre,[],_=>by simp[zlm]
 | u::us,pre,c::cs,h=>by
  have:=zrC us (pre++[u]) cs (by simpa using h);simp only[zlm,zfd _ _ (zbR _),Nat.sub_self,List.set_cons_zero];simpa using this
 | [],_,_::_,h=>by simp at h
 | _::_,_,[],h=>by simp at h
theorem zhy (st:St h0 w0 h w own) {t: TypeId} (hz:∀ w,(zeroValue e).run P w=.ok z w) (hc:z.cells=cs.toArray) (hd:Nat.blt d n=true) (hx:x=.tmp d) (hy:∀ b,ev (upd σ d (.pointer (some ⟨b,0,none⟩))) y=.agg us.toArray) (h1:us.all (·.oneCell')=true) (hs:∀ w,(sizeOf t).run P w=.ok us.length w) (hl:us.length=cs.length) (hk:∀ b w' h',Le h h'→zaL h' b 0 us→St h0 w0 h' w' own→M P n ops rest Kw (upd σ d (.pointer (some ⟨b,0,none⟩))) w'):
  M P n ops (⟨some d,.alloc e,ty,pos,aft,none⟩::⟨none,.store t x y,ty',pos',aft',none⟩::rest) Kw σ w:=by
 refine zaf st hz hc hd fun b w1 st1=>?_;subst hx;refine zou st1 (k:=own.length) (b:=b) (off:=0) (cs:=cs) (T:=e) (us:=us) (by simp) (by simp[ev,upd]) (hy b) h1 hs (by simp[hl]) (cs':=us) ?_ rfl fun w2 st2=>?_
 ·have:=zrC us [] cs hl;simpa using this
 ·have e1:(own++[[(b,Obj.cells cs.toArray e)]]).set own.length [(b,.cells us.toArray e)]=own++[[(b,.cells us.toArray e)]]:=by simp
  rw[e1] at st2;obtain ⟨h',hle,hb,st3⟩:=st2.freeze (k:=own.length) (b:=b) (o:=.cells us.toArray e) (by simp);have e2:(own++[[(b,Obj.cells us.toArray e)]]).set own.length []=own++[[]]:=by simp
  rw[e2] at st3;exact hk b w2 h' hle (zaL.of hb) ⟨st3.le,st3.new,st3.sub,st3.below,fun p hp=>st3.mine p (by simpa using hp),by simpa using st3.nodup⟩
end
theorem St.perm {own own':Own} (st:St h0 w0 h w own) (hp:own.Perm own'):St h0 w0 h w own':=by
 have e:own.flatten.Perm own'.flatten:=hp.flatten;exact ⟨st.le,st.new,st.sub,st.below,fun p hq=>st.mine p (e.mem_iff.2 hq),(e.map _).nodup_iff.1 st.nodup⟩
theorem ziX {own:Own} {t: TypeId} (st:St h0 w0 h w own) (hd:Nat.blt d n=true) (hs:∃ m,∀ w,(sizeOf e).run P w=.ok m w) (ht:P.underlying t=some (.slice e)) (hK:∀ v w',(∃ p,v=.slice p 0 0)→St h0 w0 h w' own→M P n ops rest Kw (upd σ d v) w'):
  M P n ops (⟨some d,.buildSlice t 0 #[],ty,pos,aft,none⟩::rest) Kw σ w:=by
 obtain ⟨m,hs⟩:=hs;have st1:=(st.alloc (.cells #[] e)).take own.length;rw[List.take_left'] at st1
 ·refine zax rfl hd (v:=.slice (some ⟨w.heap.size,0,none⟩) 0 0) (w':=w.alloc (.cells #[] e)) ?_ (hK _ _ ⟨_,rfl⟩ st1);have e0:Array.range 0=#[]:=rfl;simp[Run,execOp,Instr.buildSlice,run_underlying ht,hs,Instr.fill,newRow,e0]
 ·rfl
theorem zuE {a: Nat} {t:TypeId} {T:TypeId} (hr:fn.results=#[.cell a t]) (hp:σ a=.pointer (some ⟨b,0,none⟩)) (ha:∀ w,(isAgg t).run P w=.ok true w) (hz:∀ w,(sizeOf t).run P w=.ok n w) (hn:cs.length=n) (hb:w.heap[b]?=some (.cells cs.toArray T)) (h:R (.returned (.agg cs.toArray)) w):zZ fn P R .ret σ w:=by
 intro tmps ht;refine ⟨_,?_,h⟩;subst hn;have hl:=run_loadCells_list (P:=P) (w:=w) ⟨b,0,none⟩ cs (fun j v hj=>by rw[zik];simp[World.cell?,hb,hj]);have hp':tmps.getD a undef=.pointer (some ⟨b,0,none⟩):=by rw[ht,hp]
 simp only[zbb] at hp';simp[results,hr,hp',asAddr,loadVar,ha,hz,hl]
theorem zgj {a: Nat} {t:TypeId} (hr:fn.results=#[.cell a t]) (hp:σ a=.pointer (some ⟨b,0,none⟩)) (ha:∀ w,(isAgg t).run P w=.ok true w) (hz:∀ w,(sizeOf t).run P w=.ok n w) (hn:cs.length=n) (hs:Sub h w) (hb:zaL h b 0 cs) (hR:R (.returned (.agg cs.toArray)) w):zZ fn P R .ret σ w:=by
 intro tmps ht;refine ⟨_,?_,hR⟩;subst hn;have hl:=run_loadCells_list (P:=P) (w:=w) ⟨b,0,none⟩ cs (fun j v hj=>by rw[zik];exact hb.cell hs hj);have hp':tmps.getD a undef=.pointer (some ⟨b,0,none⟩):=by rw[ht,hp]
 simp only[zbb] at hp';simp[results,hr,hp',asAddr,loadVar,ha,hz,hl]
theorem Sl.form {α:Type} {L:Lay α} {xs:List α} (hs:Sl L h v xs):∃ p c,v=.slice p xs.length c:=by
 obtain ⟨p,c,rfl,_⟩:=hs;exact ⟨p,c,rfl⟩
section
variable {P:Program} {σ:Env} {w:World} {ty:TypeId} {pos:String} {aft:Array Edge} {g:Option (Nat×Bool)} {dst:Option Tmp} {κ υ:Type} {ek:κ→Value} {eu:υ→Value}
end
section
variable {P:Program} {n:Nat} {ops:Array Oper} {rest:List Oper} {Kw:Env→World→Prop} {σ:Env} {w w0:World} {h0 h:Heap} {own:Own} {ty ty' ty2:TypeId} {pos pos' pos2:String} {aft aft' aft2:Array Edge} {d:Nat}
theorem znG (st:St h0 w0 h w own) {t: TypeId} {z2: Operand} {d2:Nat} {v2:Value} (hz:∀ w,(zeroValue e).run P w=.ok z w) (hc:z.cells=cs.toArray) (hd:Nat.blt d n=true) (h2:∀ b,ev (upd σ d (.pointer (some ⟨b,0,none⟩))) z2=v2) (hd2:Nat.blt d2 n=true) (hx:x=.tmp d) (hne:Nat.beq d d2=false) (hy:∀ b,ev (upd (upd σ d (.pointer (some ⟨b,0,none⟩))) d2 v2) y=.agg us.toArray) (h1:us.all (·.oneCell')=true) (hs:∀ w,(sizeOf t).run P w=.ok us.length w) (hl:us.length=cs.length) (hk:∀ b w' h',Le h h'→zaL h' b 0 us→St h0 w0 h' w' own→M P n ops rest Kw (upd (upd σ d (.pointer (some ⟨b,0,none⟩))) d2 v2) w'):
  M P n ops (⟨some d,.alloc e,ty,pos,aft,none⟩::⟨some d2,.assign z2,ty2,pos2,aft2,none⟩::⟨none,.store t x y,ty',pos',aft',none⟩::rest) Kw σ w:=by
 refine zaf st hz hc hd fun b w1 st1=>?_;subst hx;refine zax rfl hd2 (zmq (v:=v2) (h2 b)) ?_;refine zou st1 (k:=own.length) (b:=b) (off:=0) (cs:=cs) (T:=e) (us:=us) (by simp) (by simp[ev,upd,updO,hne]) (hy b) h1 hs (by simp[hl]) (cs':=us) ?_ rfl fun w2 st2=>?_
 ·have:=zrC us [] cs hl;simpa using this
 ·have e1:(own++[[(b,Obj.cells cs.toArray e)]]).set own.length [(b,.cells us.toArray e)]=own++[[(b,.cells us.toArray e)]]:=by simp
  rw[e1] at st2;obtain ⟨h',hle,hb,st3⟩:=st2.freeze (k:=own.length) (b:=b) (o:=.cells us.toArray e) (by simp);have e2:(own++[[(b,Obj.cells us.toArray e)]]).set own.length []=own++[[]]:=by simp
  rw[e2] at st3;exact hk b w2 h' hle (zaL.of hb) ⟨st3.le,st3.new,st3.sub,st3.below,fun p hp=>st3.mine p (by simpa using hp),by simpa using st3.nodup⟩
end
def FML {κ υ:Type} (ek:κ→Value) (eu:υ→List Value) (L:Lay υ) (h:Heap) (m:List (κ×υ)) (v:Value):Prop:=FM ek (fun x=>.agg (eu x).toArray) h m v∧∀ p∈m,L.R h (eu p.2) p.2
theorem FML.up {κ υ:Type} {ek:κ→Value} {eu:υ→List Value} {L:Lay υ} {h h':Heap} {m:List (κ×υ)} {v:Value} (f:FML ek eu L h m v) (l:Le h h'):FML ek eu L h' m v:=⟨f.1.up l,fun p hp=>L.up (f.2 p hp) l⟩
theorem FML.one {κ υ:Type} {ek:κ→Value} {eu:υ→List Value} {L:Lay υ} {h:Heap} {m:List (κ×υ)} {v:Value} (f:FML ek eu L h m v):v.oneCell'=true:=f.1.one
structure Office where
 lex:Lexicon
 text:Text
 stands:(List (Int×Decision))
 deriving DecidableEq
def zCT:Lay Office:={ size:=4,R:=fun h vs x=>∃ v0 v1 v2 v3,vs=[v0,v1,v2,v3]∧Sl zeE h v0 x.lex.rules∧Sl zaG h v1 x.lex.decisions∧Sl zaN h v2 x.text.chapters∧FML (fun n:Int=>.int .i64 n) (fun x:Decision=>[.int .i64 x.number,.int .u8 x.kind,zae x.form,.int .i64 x.at_.chapter,.int .i64 x.at_.line,.int .i64 x.at_.word,zae x.to.stem,.int .u8 x.to.mark,.int .i64 x.of_]) zaG h x.stands v3,up:=(by rintro _ _ _ _ ⟨v0,v1,v2,v3,rfl,f0,f1,f2,f3⟩ hl;exact ⟨v0,v1,v2,v3,rfl,f0.up hl,f1.up hl,f2.up hl,f3.up hl⟩),len:=(by rintro _ _ _ ⟨_,_,_,_,rfl,_,_,_,_⟩;rfl),one:=(by rintro _ _ _ ⟨v0,v1,v2,v3,rfl,f0,f1,f2,f3⟩ u hu;simp only[zaV,zbD,zec] at hu;rcases hu with rfl|rfl|rfl|rfl <;> first|rfl|exact Sl.one (by assumption)|exact FML.one (by assumption)) }
structure Entry where
 at_:Place
 word:Str
 head:Head
 deriving DecidableEq
def ziY:Lay Entry:={ size:=6,R:=fun _ vs x=>vs=[.int .i64 x.at_.chapter,.int .i64 x.at_.line,.int .i64 x.at_.word,zae x.word,zae x.head.stem,.int .u8 x.head.mark]∧x.word.length≤big∧x.head.stem.length≤big∧(0≤x.head.mark∧x.head.mark≤255),up:=fun h _=>h,len:=(by rintro _ _ _ ⟨rfl,_,_,_⟩;rfl),one:=(by rintro _ _ _ ⟨rfl,f0,f1,f2⟩ u hu;simp only[zaV,zbD,zec] at hu;rcases hu with rfl|rfl|rfl|rfl|rfl|rfl <;> first|rfl|exact Sl.one (by assumption)) }
theorem St.setAt {o:Obj} (st:St h0 w0 h w (A++[(b,o)]::C)) (o':Obj):St h0 w0 h (w.putObj b o') (A++[(b,o')]::C):=by
 have:=st.set (k:=A.length) (b:=b) (o:=o) o' (by simp);have e:(A++[(b,o)]::C).set A.length [(b,o')]=A++[(b,o')]::C:=by
  rw[zfd _ _ (zbR _),Nat.sub_self,List.set_cons_zero]
 rw[e] at this;exact this
theorem St.at {o:Obj} (st:St h0 w0 h w (A++[(b,o)]::C)):w.heap[b]?=some o:=st.get (k:=A.length) (by simp)
def zqe (P:Program) (l:Nat) (args:Array Value) (w:World) (R:Value→World→Prop):Prop:=
 ∃ fn tmps assign body,(Instr.yield l args).run P w=.ok (.round l fn tmps assign body) w∧RoundIn Fence.wide 0 P l fn tmps assign body w fun e w'=>∃ v,e=.returned v∧R v w'
theorem zBs {l:Nat} (ho:o.op=.call ⟨.value x,args,ats⟩) (hg:o.guard=none) (hd:zjw n o.dst=true) (hx:ev σ x=.func (.yield l) #[] #[]) (hv:args.toList.map (ev σ)=vs) (h:zqe P l vs.toArray w fun v w'=>M P n ops rest Kw (updO σ o.dst v) w'):M P n ops (o::rest) Kw σ w:=by
 obtain ⟨fn,tmps,assign,body,hr,hR⟩:=h;refine zCr (l:=l) (f:=fn) (tmps:=tmps) (assign:=assign) (body:=body) (w':=w) hg hd ?_ hR;subst hv;have e:args.map (ev σ)=(args.toList.map (ev σ)).toArray:=zFD (ev σ) args;rw[← e] at hr;unfold execOp;simp[ho,resolve,hx,invoke,callFunc,hr,go_sem]
theorem St.tl {o:List (Nat×Obj)} {own:Own} (st:St h0 w0 h w (o::own)):St h0 w0 h w own:=by
 have s:=st.drop 0;rw[List.set_cons_zero] at s;exact ⟨s.le,s.new,s.sub,s.below,fun p hp=>s.mine p (by simpa using hp),by simpa using s.nodup⟩
theorem zqe.mono {P:Program} {l:Nat} {args:Array Value} {w:World} {R R':Value→World→Prop} (h:zqe P l args w R) (hr:∀ v w',R v w'→R' v w'):zqe P l args w R':=by
 obtain ⟨fn,tmps,assign,body,hrun,hR⟩:=h;exact ⟨fn,tmps,assign,body,hrun,RoundIn.mono hR fun e w' ⟨v,he,h⟩=>⟨v,he,hr v w' h⟩⟩
theorem zmg {l:Nat} {B:Own} {J1 J2:Heap→Own→Prop} (ho:o.op=.call ⟨.value x,args,ats⟩) (hg:o.guard=none) (hd:zjw n o.dst=true) (hx:ev σ x=.func (.yield l) #[] #[]) (hv:args.toList.map (ev σ)=vs) (h:zqe P l vs.toArray w fun v w2=>∃ h2 rest2,Le h1 h2∧St h0 w0 h2 w2 (B++rest2)∧((v=.bool true∧J1 h2 rest2)∨(v=.bool false∧J2 h2 rest2))) (hk:∀ b w2 h2 rest2,Le h1 h2→St h0 w0 h2 w2 (B++rest2)→(b=true→J1 h2 rest2)→(b=false→J2 h2 rest2)→M P n ops rest Kw (updO σ o.dst (.bool b)) w2):M P n ops (o::rest) Kw σ w:=by
 refine zBs ho hg hd hx hv (h.mono ?_);rintro v w2 ⟨h2,rest2,le,st,⟨rfl,hj⟩|⟨rfl,hj⟩⟩
 ·exact hk true w2 h2 rest2 le st (fun _=>hj) (fun e=>by cases e)
 ·exact hk false w2 h2 rest2 le st (fun e=>by cases e) (fun _=>hj)
theorem zgh {own:Own} {fs: List Value} {Φ:Heap→World→Value→Prop} (st:St h0 w0 h w own) (ho:o.op=.call ⟨.value x,args,ats⟩) (hx:ev σ x=.func (.func f) fs.toArray cs.toArray) (hg:o.guard=none) (hd:zjw n o.dst=true) (hf:∀ a w,(callFunc f a).run P w=.ok (.enter f a) w) (hv:fs++args.toList.map (ev σ)++cs=vs) (hc:Calls P f vs.toArray w (zbH h w Φ)) (hk:∀ v w' h',Le h h'→St h0 w0 h' w' own→Φ h' w' v→M P n ops rest Kw (updO σ o.dst v) w'):M P n ops (o::rest) Kw σ w:=by
 refine zcG hg hd (zfk ho hx hf hv) (hc.mono ?_);rintro e w' ⟨h',v,rfl,s,hΦ⟩;exact ⟨v,rfl,hk v w' h' s.le (st.call0 s) hΦ⟩
def zGZ {α:Type} (P:Program) (gf:FuncId) (caps:List Value) (A:Heap→Value→α→Prop) (S:List α→Prop) (h0:Heap) (w0:World) (h:Heap):Prop:=
 ∀ (l:Nat) (Jw Jx:List α→Heap→Own→Prop),
  (∀ xs h1 h2 o,Jw xs h1 o→Le h1 h2→Jw xs h2 o)→(∀ xs h1 h2 o,Jx xs h1 o→Le h1 h2→Jx xs h2 o)→
  (∀ pre x h1 w1 B rest u,Le h h1→Jw pre h1 rest→St h0 w0 h1 w1 (B++rest)→A h1 u x→zqe P l #[u] w1 fun v w2=>∃ h2 rest2,Le h1 h2∧St h0 w0 h2 w2 (B++rest2)∧((v=.bool true∧Jw (pre++[x]) h2 rest2)∨(v=.bool false∧Jx (pre++[x]) h2 rest2)))→
  ∀ h1 w rest,Le h h1→Jw [] h1 rest→St h0 w0 h1 w rest→
   Calls P gf (.func (.yield l) #[] #[]::caps).toArray w fun e w'=>∃ h' rest' v,e=.returned v∧Le h1 h'∧St h0 w0 h' w' rest'∧((∃ xs,S xs∧Jw xs h' rest')∨(∃ pre,Jx pre h' rest'))
structure FitsD (ds:List Deferred) (n:Nat) (a:Act) (σ:Env):Prop where
 size:a.tmps.size=n
 defers:a.defers=ds
 at_:∀ i,a.tmps.getD i undef=σ i
abbrev VS:=List Deferred×Env
variable {Q:Exit→VS→World→Prop} {s:VS}
theorem FitsD.bare (h:FitsD ds n a σ):Fits n { a with defers:=[] } σ:=⟨h.size,rfl,h.at_⟩
theorem FitsD.eval {ds:List Deferred} {n:Nat} {a:Act} {σ:Env} (h:FitsD ds n a σ):a.eval=ev σ:=by
 funext x;cases x <;> simp only[Act.eval,ev];exact h.at_ _
def V (F:Fence) (P:Program) (n:Nat) (c:Code) (Q:Exit→VS→World→Prop) (s:VS) (w:World):Prop:=
 ∀ k a,FitsD s.1 n a s.2→c.wpIn F k P (fun e a' w'=>∃ s':VS,FitsD s'.1 n a' s'.2∧Q e s' w') a w
def zcC (Kw:VS→World→Prop) (Q:Exit→VS→World→Prop):Exit→VS→World→Prop
 | .normal,σ,w=>Kw σ w
 | e,σ,w=>Q e σ w
def zld (id:Nat) (Q:Exit→VS→World→Prop):Exit→VS→World→Prop
 | .exit id',σ,w=>if id'=id then Q .normal σ w else Q (.exit id') σ w
 | e,σ,w=>Q e σ w
theorem zay {Kw:VS→World→Prop} (h:Kw s w):zcC Kw Q .normal s w:=h
theorem zCq {Kw:VS→World→Prop} {id:Nat} (h:Q (.exit id) s w):zcC Kw Q (.exit id) s w:=h
theorem zjd {Kw:VS→World→Prop} (h:Q .ret s w):zcC Kw Q .ret s w:=h
theorem zfY {id:Nat} (h:Q .normal s w):zld id Q .normal s w:=h
theorem zBz {id:Nat} (h:Q .normal s w):zld id Q (.exit id) s w:=by simp only[zld,if_true];exact h
theorem zBy {id:Nat} (h:Q .ret s w):zld id Q .ret s w:=h
section
variable {F:Fence} {P:Program} {n:Nat} {Q:Exit→VS→World→Prop} {s:VS} {w:World}
theorem zmP (h:Q .normal s w):V F P n .skip Q s w:=fun _ _ ha=>wpIn_skip ⟨s,ha,h⟩
theorem zGC {l:Nat} (h:Q .normal s w):V F P n (.label l) Q s w:=fun _ _ ha=>wpIn_label ⟨s,ha,h⟩
theorem zHG {id:Nat} (h:Q (.exit id) s w):V F P n (.exit id) Q s w:=fun _ _ ha=>wpIn_exit ⟨s,ha,h⟩
theorem zlR (h:Q .ret s w):V F P n .ret Q s w:=fun _ _ ha=>wpIn_ret ⟨s,ha,h⟩
theorem zdA {x y:Code} (h:V F P n x (zcC (V F P n y Q) Q) s w):V F P n (.seq x y) Q s w:=by
 intro k a ha;refine wpIn_seq (wpIn_mono (h k a ha) ?_);rintro e a' w' ⟨s',hf,q⟩;cases e <;> first|exact q k a' hf|exact ⟨s',hf,q⟩
theorem zkh {id:Nat} {c:Code} (h:V F P n c (zld id Q) s w):V F P n (.block id c) Q s w:=by
 intro k a ha;refine wpIn_block (wpIn_mono (h k a ha) ?_);rintro e a' w' ⟨s',hf,q⟩;cases e with
 | exit id'=>
  simp only[zld] at q;simp only[Exit.inBlock];split
  ·rename_i h;rw[zab h] at q;exact ⟨s',hf,q⟩
  ·rename_i h;rw[zam h] at q;exact ⟨s',hf,q⟩
 | _=>exact ⟨s',hf,q⟩
theorem zjP {c:Operand} {x y:Code} {t:Bool} (hc:ev s.2 c=.bool t) (ht:t=true→V F P n x Q s w) (hf:t=false→V F P n y Q s w):V F P n (.cond c x y) Q s w:=by
 intro k a ha;exact wpIn_cond_split (t:=t) (by rw[ha.eval];exact hc) (fun e=>ht e k a ha) (fun e=>hf e k a ha)
def znv:List Oper→Bool
 | []=>true
 | o::l=>(match o.op with|.defer _=>false|_=>true) && znv l
theorem zvJ (h:(match o.op with|.defer _=>false|_=>true)=true):∀ c,o.op≠.defer c:=by
 intro c e;rw[e] at h;cases h
theorem zyO {ops:Array Oper} {ds:List Deferred} {q:Exit→Act→World→Prop} {q':Exit→Act→World→Prop} {r:Option Nat} (hq:∀ e a1 a2 w,a2.tmps=a1.tmps→a2.defers=a1.defers++ds→q e a1 w→q' e a2 w) (hn:∀ e a w,q e a w→e=.normal) {k:Nat}:
  ∀ (l:List Oper) (a1 a2:Act) (w:World),znv l=true→a2.tmps=a1.tmps→a2.defers=a1.defers++ds→wpListIn Fence.wide 0 P ops q l a1 w→wpListIn { Fence.wide with round:=r } k P ops q' l a2 w
 | [],a1,a2,w,_,h1,h2,h=>hq _ _ _ _ h1 h2 h
 | o::l,a1,a2,w,hd,h1,h2,h=>by
  simp only[znv,zK] at hd;have ih:=fun a1 a2 w=>zyO (r:=r) (ops:=ops) hq hn (k:=k) l a1 a2 w hd.2;have hev:a2.eval=a1.eval:=by funext x;cases x <;> simp only[Act.eval,h1]
  unfold wpListIn at h ⊢;rw[h1];have hp1:∀ (d:Option Tmp) (v:Value),(a2.put d v).tmps=(a1.put d v).tmps:=by
   intro d v;cases d <;> simp[Act.put,h1]
  have hp2:∀ (d:Option Tmp) (v:Value),(a2.put d v).defers=(a1.put d v).defers++ds:=by
   intro d v;cases d <;> simp[Act.put,h2]
  split
  ·rename_i hw;rw[zab hw] at h;obtain ⟨_,h⟩:=h;refine ⟨fun _ _=>trivial,?_⟩;rw[Oper.semAt_eq _ _ _ (zvJ hd.1),hev];have h:o.uponIn Fence.wide 0 P a1 _ _ ((execOp a1.eval o).run P w):=h;cases hr:(execOp a1.eval o).run P w with
   | ok nx w'=>
    rw[hr] at h;cases nx with
    | value v=>exact ih _ _ _ (hp1 _ _) (hp2 _ _) h
    | skip=>exact ih _ _ _ (hp1 _ _) (hp2 _ _) h
    | defer d=>
     refine ih _ _ _ ?_ ?_ h
     ·cases o.dst <;> simp[Act.put,h1]
     ·cases o.dst <;> simp[Act.put,h2]
    | enter f args=>
     refine ⟨fun hh=>absurd hh (by simp[Fence.wide]),?_⟩;have h2':=(callsIn_wide (n:=k-1)).2 (callsIn_wide.1 h.2);have h3:CallsIn { Fence.wide with round:=r } (k-1) P f args w' _:=h2';refine CallsIn.mono h3 ?_;intro e w'' he;cases e with
     | returned v=>exact ih _ _ _ (hp1 _ _) (hp2 _ _) he
     | panicked c=>exact absurd (hn _ _ _ he) (by simp)
     | outgrown=>obtain ⟨_,_,he⟩:=he;exact absurd (hn _ _ _ he) (by simp)
    | round l f tmps assign body=>
     refine ⟨fun hh=>absurd hh (by simp[Fence.wide]),?_⟩;have h3:RoundIn { Fence.wide with round:=r } (k-1) P l f tmps assign body w' _:=⟨trivial,fun c cs _=>h.2.2 c cs (room_wide _)⟩;refine RoundIn.mono h3 ?_;intro e w'' he;cases e with
     | returned v=>exact ih _ _ _ (hp1 _ _) (hp2 _ _) he
     | panicked c=>exact absurd (hn _ _ _ he) (by simp)
     | outgrown=>obtain ⟨_,_,he⟩:=he;exact absurd (hn _ _ _ he) (by simp)
    | row rw_ args=>
     refine ⟨fun hh=>absurd hh (by simp[Fence.wide]),?_⟩;have h3:RowsIn { Fence.wide with round:=r } (k-1) P rw_ args w' _:=fun c cs _=>h.2 c cs (room_wide _);refine RowsIn.mono h3 ?_;intro v w'' he;exact ih _ _ _ (hp1 _ _) (hp2 _ _) he
    | _=>exact h.elim
   | halt x w'=>
    rw[hr] at h;cases x with
    | panic v=>exact absurd (hn _ _ _ h) (by simp)
    | _=>exact h.elim
  ·rename_i hw;rw[zam hw] at h;obtain ⟨_,h⟩:=h;exact ⟨fun _ _=>trivial,ih _ _ _ (hp1 _ _) (hp2 _ _) h⟩
theorem zby {r:Option Nat} {id:Nat} (hnd:znv l=true) (h:M P n l.toArray l (fun σ w=>Q .normal (ds,σ) w) σ w):V { Fence.wide with round:=r } P n (.region id l.toArray false) Q (ds,σ) w:=by
 intro k a ha;refine wpIn_region_lit (zyO (ds:=ds) ?_ ?_ l { a with defers:=[] } a w hnd rfl (by simpa using ha.defers) (h _ ha.bare))
 ·rintro e a1 a2 w h1 h2 ⟨rfl,σ',hf,q⟩;refine ⟨(ds,σ'),⟨by rw[h1];exact hf.size,by rw[h2,hf.defers];rfl,by rw[h1];exact hf.at_⟩,q⟩
 rintro e a w ⟨rfl,_⟩;rfl
end
theorem zGW {c:Code} (h:W P n c (fun e σ' w'=>Q e ([],σ') w') σ w):V Fence.wide P n c Q ([],σ) w:=by
 intro k a ha;have hf:Fits n a σ:=⟨ha.size,ha.defers,ha.at_⟩;refine (wpIn_wide (n:=k)).2 (Code.wp_mono ?_ (h a hf));rintro e a' w' ⟨σ',hf',q⟩;exact ⟨([],σ'),⟨hf'.size,hf'.defers,hf'.at_⟩,q⟩
def zkz {α:Type} (I:List α→Heap→Own→Prop) (Ix:Code→List α→Heap→Own→Prop) (h0:Heap) (w0:World) (h2:Heap) (xs:List α) (tail:Own):Exit→VS→World→Prop:=fun e _ w4=>
 ∃ h3 own3,Le h2 h3∧St h0 w0 h3 w4 (own3++tail)∧(match e with
  | .normal=>I xs h3 own3
  | .ret=>Ix .ret xs h3 own3
  | .exit id=>Ix (.exit id) xs h3 own3
  | .goto t=>Ix (.goto t) xs h3 own3
  | _=>False)
def zpT {α:Type} (F:Fence) (P:Program) (n:Nat) (body:Code) (I:List α→Heap→Own→Prop) (Ix:Code→List α→Heap→Own→Prop) (h0:Heap) (w0:World) (h1:Heap) (xs:List α) (tail:Own):Exit→VS→World→Prop:=fun e s w2=>
 e=.normal∧∃ h2 own2,Le h1 h2∧St h0 w0 h2 w2 (own2++tail)∧∀ tail' w3,St h0 w0 h2 w3 (own2++tail')→V F P n body (zkz I Ix h0 w0 h2 xs tail') s w3
theorem zow {α:Type} {F:Fence} {I:List α→Heap→Own→Prop} {Ix:Code→List α→Heap→Own→Prop} {xs:List α} {own2: Own} {w2:World} (le:Le h1 h2) (st:St h0 w0 h2 w2 (own2++tail)) (hb:∀ tail' w3,St h0 w0 h2 w3 (own2++tail')→V F P n body (zkz I Ix h0 w0 h2 xs tail') s w3):zpT F P n body I Ix h0 w0 h1 xs tail .normal s w2:=⟨rfl,h2,own2,le,st,hb⟩
theorem zgV {α:Type} {I:List α→Heap→Own→Prop} {Ix:Code→List α→Heap→Own→Prop} {xs:List α} (le:Le h2 h3) (st:St h0 w0 h3 w4 (own3++tail)) (hI:I xs h3 own3):zkz I Ix h0 w0 h2 xs tail .normal s w4:=⟨h3,own3,le,st,hI⟩
theorem zkz.exit {α:Type} {I:List α→Heap→Own→Prop} {Ix:Code→List α→Heap→Own→Prop} {xs:List α} {id:Nat} (le:Le h2 h3) (st:St h0 w0 h3 w4 (own3++tail)) (hI:Ix (.exit id) xs h3 own3):zkz I Ix h0 w0 h2 xs tail (.exit id) s w4:=⟨h3,own3,le,st,hI⟩
theorem zAK {α:Type} (A B C:List α):(B++(A++C)).Perm (A++(C++B)):=by
 rw[← zaB A C B];exact zfe
def zFK {α:Type} (P:Program) (gf:FuncId) (caps:List Value) (A:List α→Heap→List Value→α→Prop) (S:List α→Prop) (Xw:Own) (h0:Heap) (w0:World) (h:Heap):Prop:=
 ∀ (l:Nat) (Jw Jx:List α→Heap→Own→Prop),
  (∀ xs h1 h2 o,Jw xs h1 o→Le h1 h2→Jw xs h2 o)→(∀ xs h1 h2 o,Jx xs h1 o→Le h1 h2→Jx xs h2 o)→
  (∀ pre x h1 w1 B rest us,Le h h1→Jw pre h1 rest→St h0 w0 h1 w1 (B++rest)→A pre h1 us x→zqe P l us.toArray w1 fun v w2=>∃ h2 rest2,Le h1 h2∧St h0 w0 h2 w2 (B++rest2)∧((v=.bool true∧Jw (pre++[x]) h2 rest2)∨(v=.bool false∧Jx (pre++[x]) h2 rest2)))→
  ∀ h1 w rest,Le h h1→Jw [] h1 rest→St h0 w0 h1 w (Xw++rest)→
   Calls P gf (.func (.yield l) #[] #[]::caps).toArray w fun e w'=>∃ h' rest' v,e=.returned v∧Le h1 h'∧St h0 w0 h' w' rest'∧((∃ xs,S xs∧Jw xs h' rest')∨(∃ pre,Jx pre h' rest'))
def zrf {α:Type} (P:Program) (gf:FuncId) (caps:List Value) (A:List α→Heap→List Value→α→Prop) (S:List α→Prop) (h0:Heap) (w0:World) (h:Heap):Prop:=zFK P gf caps A S [] h0 w0 h
theorem zzW {α:Type} {A:List α→Heap→List Value→α→Prop} {g:Operand} {up:List Value→Env} {caps:List Value} {S:List α→Prop} {Xw own:Own} (st:St h0 w0 h w (Xw++own)) (hg:ev σ g=.func (.func gf) #[] caps.toArray) (eg:∀ a w,(callFunc gf a).run P w=.ok (.enter gf a) w) (hput:∀ (a:Act) pre us h x,FitsD [] n a σ→A pre h us x→FitsD [] n ({ tmps:=(ps.zip us.toArray).foldl (fun tmps (x:Nat×Value)=>tmps.setIfInBounds x.1 x.2) a.tmps,defers:=[] }:Act) (up us)) (hsz:∀ pre us h x,A pre h us x→us.toArray.size=ps.size) (seq:zFK P gf caps A S Xw h0 w0 h) (I:List α→Heap→Own→Prop) (Ix:Code→List α→Heap→Own→Prop) (hI:∀ xs h1 h2 o,I xs h1 o→Le h1 h2→I xs h2 o) (hIx:∀ c xs h1 h2 o,Ix c xs h1 o→Le h1 h2→Ix c xs h2 o) (h00:I [] h own) (hround:∀ (l:Nat) pre x h1 w1 own1 tail us,Le h h1→I pre h1 own1→St h0 w0 h1 w1 (own1++tail)→A pre h1 us x→
   V { Fence.wide with round:=some l } P n assign (zpT { Fence.wide with round:=some l } P n body I Ix h0 w0 h1 (pre++[x]) tail) ([],up us) w1) (hdone:∀ Dw xs h' w' own',Le h h'→S xs→I xs h' own'→St h0 w0 h' w' (own'++[[(Dw,.deferred (some []))]])→Q .normal ({ target:=.collected Dw,args:=#[] }::ds0,σ) w') (hstop:∀ Dw c pre h' w' own',Le h h'→Ix c pre h' own'→St h0 w0 h' w' (own'++[[(Dw,.deferred (some []))]])→V Fence.wide P n c Q ({ target:=.collected Dw,args:=#[] }::ds0,σ) w'):
  V Fence.wide P n (.rangeFunc g ps assign body) Q (ds0,σ) w:=by
 intro k a ha;refine wpIn_rangeFunc ?_;intro fn _;obtain ⟨Dw,hD⟩:∃ Dw,Dw=w.heap.size:=⟨_,rfl⟩;obtain ⟨l,hl⟩:∃ l,l=w.heap.size+1:=⟨_,rfl⟩;obtain ⟨rec,hrec⟩:∃ rec:LoopState→Option Code→Loop,rec=fun st pe=>{ state:=st,pending:=pe,fn,tmps:=a.tmps,params:=ps,assign,body,defers:=Dw }:=⟨_,rfl⟩;have st1:=(st.alloc (.deferred (some []))).alloc (.loop (rec .ready none));have hsz':(w.alloc (.deferred (some []))).heap.size=l:=by rw[hl];simp
 rw[hsz',← hD] at st1;have hxa:a.eval=ev σ:=ha.eval;obtain ⟨w1,ew1⟩:∃ w1,w1=(w.alloc (.deferred (some []))).alloc (.loop (rec .ready none)):=⟨_,rfl⟩;rw[← ew1] at st1;have e1:(Instr.enterLoop fn a.tmps ps assign body none).run P w=.ok (l,[({ target:=.collected Dw,args:=#[] }:Deferred)]) w1:=by
  rw[ew1,hrec,hl,hD];exact run_enterLoop_outer _ _ _ _ _
 refine ⟨l,[({ target:=.collected Dw,args:=#[] }:Deferred)],w1,({ target:=.fn (.func gf) caps.toArray,args:=#[.func (.yield l) #[] #[]] }:Deferred),w1,gf,#[.func (.yield l) #[] #[]]++caps.toArray,w1,?_,?_,fun _ _=>trivial,?_,fun hh=>absurd hh (by simp[Fence.wide]),?_⟩
 ·exact e1
 ·simp only[resolve,hxa,hg];simp[go_sem,rangeCall,ev]
 ·simp[invoke,go_sem,eg]
 ·have con:=seq l (fun pre h1 rest=>∃ own1,I pre h1 own1∧rest=own1++[[(Dw,.deferred (some []))],[(l,.loop (rec .ready none))]])
   (fun pre h1 rest=>∃ own1 c,Ix c pre h1 own1∧rest=own1++[[(Dw,.deferred (some []))],[(l,.loop (rec .done (some c)))]])
   (by rintro xs h1 h2 o ⟨own1,hi,rfl⟩ le;exact ⟨own1,hI _ _ _ _ hi le,rfl⟩) (by rintro xs h1 h2 o ⟨own1,c,hi,rfl⟩ le;exact ⟨own1,c,hIx _ _ _ _ _ hi le,rfl⟩) ?_ h _ _ (Le.refl h) ⟨own,h00,rfl⟩ (by simpa using st1)
  ·refine (callsIn_wide.2 ?_);have e0:(.func (.yield l) #[] #[]::caps:List Value).toArray=#[.func (.yield l) #[] #[]]++caps.toArray:=by simp
   rw[e0] at con;refine con.mono ?_;rintro e w2 ⟨h',rest',v,rfl,le,st2,hout⟩;have tk:∀ {own1:Own} {r:Loop},St h0 w0 h' w2 (own1++[[(Dw,.deferred (some []))],[(l,.loop r)]])→∀ o',St h0 w0 h' (w2.putObj l o') (own1++[[(Dw,.deferred (some []))]]):=by
    intro own1 r s o';have s2:St h0 w0 h' w2 ((own1++[[(Dw,.deferred (some []))]])++[(l,.loop r)]::[]):=by simpa using s
    have s3:=(s2.setAt o').take (own1++[[(Dw,Obj.deferred (some []))]]).length;rwa [List.take_left'] at s3;rfl
   rcases hout with ⟨xs,hS,own1,hi,rfl⟩|⟨pre,own1,c,hi,rfl⟩
   ·have hlr:w2.heap[l]?=some (.loop (rec .ready none)):=St.at (A:=own1++[[(Dw,.deferred (some []))]]) (C:=[]) (by simpa using st2);have hend:=run_endLoop (P:=P) hlr (by rw[hrec];simp);rw[hrec] at hend;refine ⟨none,_,hend,⟨({ target:=.collected Dw,args:=#[] }::ds0,σ),⟨ha.size,by simp[ha.defers],ha.at_⟩,hdone Dw xs h' _ own1 le hS hi (tk st2 _)⟩⟩
   ·have hlr:w2.heap[l]?=some (.loop (rec .done (some c))):=St.at (A:=own1++[[(Dw,.deferred (some []))]]) (C:=[]) (by simpa using st2);have hend:=run_endLoop (P:=P) hlr (by rw[hrec];simp);rw[hrec] at hend;refine ⟨some c,_,hend,?_⟩;exact hstop Dw c pre h' _ own1 le hi (tk st2 _) k _ ⟨ha.size,by simp[ha.defers],ha.at_⟩
  ·rintro pre x h1 w1 B rest us le ⟨own1,hi,rfl⟩ s1 hA;have hlr:w1.heap[l]?=some (.loop (rec .ready none)):=St.at (A:=B++(own1++[[(Dw,.deferred (some []))]])) (C:=[]) (by simpa using s1);have hy:=run_yield (P:=P) (args:=us.toArray) hlr (by rw[hrec];exact hsz pre us h1 x hA);rw[hrec] at hy;refine ⟨fn,_,assign,body,hy,roundIn_of_wpIn trivial ?_⟩
   -- the caller's entries first
   have s2:St h0 w0 h1 w1 (own1++([[(Dw,.deferred (some []))],[(l,.loop (rec .ready none))]]++B)):=s1.perm (zAK own1 B _);have hfit:=hput { tmps:=a.tmps,defers:=[] } pre us h1 x ⟨ha.size,rfl,ha.at_⟩ hA;have hr:=hround l pre x h1 w1 own1 _ us le hi s2 hA 0 _ hfit;refine wpIn_mono hr ?_;rintro e a2 w2 ⟨s',hf2,rfl,h2,own2,le2,s3,hbody⟩;have s3':St h0 w0 h2 w2 ((own2++[[(Dw,.deferred (some []))]])++[(l,.loop (rec .ready none))]::B):=by simpa using s3
   have hl2:=s3'.at;have hbr:=run_beginRound (P:=P) hl2 (by rw[hrec]);refine ⟨_,hbr,?_⟩;have s4:=s3'.setAt (.loop { rec .ready none with state:=.busy });have s4':=s4;rw[show (own2++[[(Dw,.deferred (some []))]])++[(l,.loop { rec .ready none with state:=.busy })]::B=own2++([[(Dw,.deferred (some []))],[(l,.loop { rec .ready none with state:=.busy })]]++B) by simp] at s4';refine wpIn_mono (hbody _ _ s4' 0 a2 hf2) ?_;have fin:∀ (jump:Option Code) (h3:Heap) (own3:Own) (w4:World),St h0 w0 h3 w4 (own3++([[(Dw,.deferred (some []))],[(l,.loop { rec .ready none with state:=.busy })]]++B))→
     ∃ w5,(Instr.endRound l jump).run P w4=.ok (.bool jump.isNone) w5∧St h0 w0 h3 w5 (B++(own3++[[(Dw,.deferred (some []))],[(l,.loop (rec (if jump.isNone then .ready else .done) jump))]])):=by
    intro jump h3 own3 w4 s5;have s5':St h0 w0 h3 w4 ((own3++[[(Dw,.deferred (some []))]])++[(l,.loop { rec .ready none with state:=.busy })]::B):=by simpa using s5
    refine ⟨_,run_endRound (P:=P) jump s5'.at,?_⟩;have s6:=s5'.setAt (.loop (rec (if jump.isNone then .ready else .done) jump));rw[show (own3++[[(Dw,.deferred (some []))]])++[(l,.loop (rec (if jump.isNone then .ready else .done) jump))]::B=own3++([[(Dw,.deferred (some []))],[(l,.loop (rec (if jump.isNone then .ready else .done) jump))]]++B) by simp] at s6;have s7:=s6.perm (zAK own3 B _).symm;rw[hrec] at s7 ⊢;exact s7
   rintro e a4 w4 ⟨s'',hf4,h3,own3,le3,s5,hm⟩;cases e with
   | normal=>
    obtain ⟨w5,hr5,s6⟩:=fin none h3 own3 w4 s5;exact ⟨_,w5,hr5,_,rfl,h3,_,le2.trans le3,s6,.inl ⟨rfl,own3,hm,rfl⟩⟩
   | ret=>
    obtain ⟨w5,hr5,s6⟩:=fin (some .ret) h3 own3 w4 s5;exact ⟨_,w5,hr5,_,rfl,h3,_,le2.trans le3,s6,.inr ⟨rfl,own3,.ret,hm,rfl⟩⟩
   | exit id=>
    obtain ⟨w5,hr5,s6⟩:=fin (some (.exit id)) h3 own3 w4 s5;exact ⟨_,w5,hr5,_,rfl,h3,_,le2.trans le3,s6,.inr ⟨rfl,own3,.exit id,hm,rfl⟩⟩
   | goto t=>
    obtain ⟨w5,hr5,s6⟩:=fin (some (.goto t)) h3 own3 w4 s5;exact ⟨_,w5,hr5,_,rfl,h3,_,le2.trans le3,s6,.inr ⟨rfl,own3,.goto t,hm,rfl⟩⟩
   | panic ch=>exact hm.elim
   | outgrown=>exact hm.elim
theorem zuD {α:Type} {A:List α→Heap→List Value→α→Prop} {g:Operand} {up:List Value→Env} {caps:List Value} {S:List α→Prop} {own:Own} (st:St h0 w0 h w own) (hg:ev σ g=.func (.func gf) #[] caps.toArray) (eg:∀ a w,(callFunc gf a).run P w=.ok (.enter gf a) w) (hput:∀ (a:Act) pre us h x,FitsD [] n a σ→A pre h us x→FitsD [] n ({ tmps:=(ps.zip us.toArray).foldl (fun tmps (x:Nat×Value)=>tmps.setIfInBounds x.1 x.2) a.tmps,defers:=[] }:Act) (up us)) (hsz:∀ pre us h x,A pre h us x→us.toArray.size=ps.size) (seq:zrf P gf caps A S h0 w0 h) (I:List α→Heap→Own→Prop) (Ix:Code→List α→Heap→Own→Prop) (hI:∀ xs h1 h2 o,I xs h1 o→Le h1 h2→I xs h2 o) (hIx:∀ c xs h1 h2 o,Ix c xs h1 o→Le h1 h2→Ix c xs h2 o) (h00:I [] h own) (hround:∀ (l:Nat) pre x h1 w1 own1 tail us,Le h h1→I pre h1 own1→St h0 w0 h1 w1 (own1++tail)→A pre h1 us x→
   V { Fence.wide with round:=some l } P n assign (zpT { Fence.wide with round:=some l } P n body I Ix h0 w0 h1 (pre++[x]) tail) ([],up us) w1) (hdone:∀ Dw xs h' w' own',Le h h'→S xs→I xs h' own'→St h0 w0 h' w' (own'++[[(Dw,.deferred (some []))]])→Q .normal ({ target:=.collected Dw,args:=#[] }::ds0,σ) w') (hstop:∀ Dw c pre h' w' own',Le h h'→Ix c pre h' own'→St h0 w0 h' w' (own'++[[(Dw,.deferred (some []))]])→V Fence.wide P n c Q ({ target:=.collected Dw,args:=#[] }::ds0,σ) w'):
  V Fence.wide P n (.rangeFunc g ps assign body) Q (ds0,σ) w:=
 zzW (Xw:=[]) st hg eg hput hsz seq I Ix hI hIx h00 hround hdone hstop
theorem zBr {α:Type} {A:Heap→Value→α→Prop} {g:Operand} {p:Tmp} {caps:List Value} {S:List α→Prop} {own:Own} (st:St h0 w0 h w own) (hg:ev σ g=.func (.func gf) #[] caps.toArray) (eg:∀ a w,(callFunc gf a).run P w=.ok (.enter gf a) w) (hp:Nat.blt p n=true) (seq:zGZ P gf caps A S h0 w0 h) (I:List α→Heap→Own→Prop) (Ix:Code→List α→Heap→Own→Prop) (hI:∀ xs h1 h2 o,I xs h1 o→Le h1 h2→I xs h2 o) (hIx:∀ c xs h1 h2 o,Ix c xs h1 o→Le h1 h2→Ix c xs h2 o) (h00:I [] h own) (hround:∀ (l:Nat) pre x h1 w1 own1 tail u,Le h h1→I pre h1 own1→St h0 w0 h1 w1 (own1++tail)→A h1 u x→
   V { Fence.wide with round:=some l } P n assign (zpT { Fence.wide with round:=some l } P n body I Ix h0 w0 h1 (pre++[x]) tail) ([],upd σ p u) w1) (hdone:∀ Dw xs h' w' own',Le h h'→S xs→I xs h' own'→St h0 w0 h' w' (own'++[[(Dw,.deferred (some []))]])→Q .normal ([{ target:=.collected Dw,args:=#[] }],σ) w') (hstop:∀ Dw c pre h' w' own',Le h h'→Ix c pre h' own'→St h0 w0 h' w' (own'++[[(Dw,.deferred (some []))]])→V Fence.wide P n c Q ([{ target:=.collected Dw,args:=#[] }],σ) w'):
  V Fence.wide P n (.rangeFunc g #[p] assign body) Q ([],σ) w:=by
 refine zuD (A:=fun _ h us x=>∃ u,us=[u]∧A h u x) (up:=fun us=>upd σ p (us.headD undef)) st hg eg ?_ (by rintro _ _ _ _ ⟨u,rfl,_⟩;rfl) ?_ I Ix hI hIx h00 ?_ hdone hstop
 ·rintro a pre us h x hf ⟨u,rfl,_⟩;have h2:=hf.bare.put (d:=some p) (by exact hp) u;have e1:(#[p].zip [u].toArray).foldl (fun tmps (x:Nat×Value)=>tmps.setIfInBounds x.1 x.2) a.tmps=a.tmps.setIfInBounds p u:=by simp
  show FitsD [] n ({ tmps:=(#[p].zip [u].toArray).foldl (fun tmps (x:Nat×Value)=>tmps.setIfInBounds x.1 x.2) a.tmps,defers:=[] }:Act) (upd σ p u);rw[e1];exact ⟨h2.size,rfl,h2.at_⟩
 ·intro l Jw Jx hm hxm hY;exact seq l Jw Jx hm hxm fun pre x h1 w1 B rest u a b c d=>hY pre x h1 w1 B rest [u] a b c ⟨u,rfl,d⟩
 ·rintro l pre x h1 w1 own1 tail us a b c ⟨u,rfl,d⟩;exact hround l pre x h1 w1 own1 tail u a b c d
theorem zkR {α:Type} {A:List α→Heap→Value→Value→α→Prop} {g:Operand} {p p2:Tmp} {caps:List Value} {S:List α→Prop} {own:Own} (st:St h0 w0 h w own) (hg:ev σ g=.func (.func gf) #[] caps.toArray) (eg:∀ a w,(callFunc gf a).run P w=.ok (.enter gf a) w) (hp:Nat.blt p n=true) (hp2:Nat.blt p2 n=true) (seq:zrf P gf caps (fun pre h us x=>∃ u v,us=[u,v]∧A pre h u v x) S h0 w0 h) (I:List α→Heap→Own→Prop) (Ix:Code→List α→Heap→Own→Prop) (hI:∀ xs h1 h2 o,I xs h1 o→Le h1 h2→I xs h2 o) (hIx:∀ c xs h1 h2 o,Ix c xs h1 o→Le h1 h2→Ix c xs h2 o) (h00:I [] h own) (hround:∀ (l:Nat) pre x h1 w1 own1 tail u v,Le h h1→I pre h1 own1→St h0 w0 h1 w1 (own1++tail)→A pre h1 u v x→
   V { Fence.wide with round:=some l } P n assign (zpT { Fence.wide with round:=some l } P n body I Ix h0 w0 h1 (pre++[x]) tail) ([],upd (upd σ p u) p2 v) w1) (hdone:∀ Dw xs h' w' own',Le h h'→S xs→I xs h' own'→St h0 w0 h' w' (own'++[[(Dw,.deferred (some []))]])→Q .normal ({ target:=.collected Dw,args:=#[] }::ds0,σ) w') (hstop:∀ Dw c pre h' w' own',Le h h'→Ix c pre h' own'→St h0 w0 h' w' (own'++[[(Dw,.deferred (some []))]])→V Fence.wide P n c Q ({ target:=.collected Dw,args:=#[] }::ds0,σ) w'):
  V Fence.wide P n (.rangeFunc g #[p,p2] assign body) Q (ds0,σ) w:=by
 refine zuD (up:=fun us=>upd (upd σ p (us.headD undef)) p2 ((us.drop 1).headD undef)) st hg eg ?_ (by rintro _ _ _ _ ⟨u,v,rfl,_⟩;rfl) seq I Ix hI hIx h00 ?_ hdone hstop
 ·rintro a pre us h x hf ⟨u,v,rfl,_⟩;have h2:=(hf.bare.put (d:=some p) (by exact hp) u).put (d:=some p2) (by exact hp2) v;have e1:(#[p,p2].zip [u,v].toArray).foldl (fun tmps (x:Nat×Value)=>tmps.setIfInBounds x.1 x.2) a.tmps=(a.tmps.setIfInBounds p u).setIfInBounds p2 v:=by simp
  show FitsD [] n ({ tmps:=(#[p,p2].zip [u,v].toArray).foldl (fun tmps (x:Nat×Value)=>tmps.setIfInBounds x.1 x.2) a.tmps,defers:=[] }:Act) (upd (upd σ p u) p2 v);rw[e1];exact ⟨h2.size,rfl,h2.at_⟩
 ·rintro l pre x h1 w1 own1 tail us a b c ⟨u,v,rfl,d⟩;exact hround l pre x h1 w1 own1 tail u v a b c d
def zFG (P:Program):List Deferred→World→(World→Prop)→Prop
 | [],w,Kw=>Kw w
 | d::ds,w,Kw=>∃ Dw,d.target=.collected Dw∧w.heap[Dw]?=some (.deferred (some []))∧zFG P ds (w.putObj Dw (.deferred none)) Kw
def zjz (fn:Func) (P:Program) (R:Ending→World→Prop):Exit→VS→World→Prop
 | .normal,s,w|.ret,s,w=>zFG P s.1 w fun w'=>zZ fn P R .ret s.2 w'
 | _,_,_=>False
theorem zrd {c:Code} {args:List Value} (hf:P.funcs[f]?=some fn) (hb:fn.body=some c) (hn:fn.ntmps=n) (hl:Nat.ble args.length n=true) (h:V Fence.wide P n c (zjz fn P R) ([],start args) w):Calls P f args.toArray w R:=by
 have hl':args.length≤n:=by simpa using hl
 refine (callsIn_wide (n:=0)).1 (callsIn_of_wp_marks hf hb trivial ?_);have hfit:FitsD [] n { tmps:=args.toArray++Array.replicate (fn.ntmps-args.toArray.size) undef,defers:=[] } (start args):=by
  refine ⟨by simp[hn];omega,rfl,fun i=>?_⟩;rw[← zAn];simp only[zbb,List.getD_eq_getElem?_getD]
  by_cases hi:i<args.length
  ·rw[Array.getElem?_append_left (by simpa using hi)];simp
  ·rw[Array.getElem?_append_right (by simpa using hi),zbF zW]
   by_cases hj:i-args.toArray.size<fn.ntmps-args.toArray.size
   ·rw[zcF,zab hj];rfl
   ·rw[zcF,zam hj]
 have key:∀ (ds:List Deferred) (w:World) (tmps:Array Value) (σ:Env),(∀ i,tmps.getD i undef=σ i)→zFG P ds w (fun w'=>zZ fn P R .ret σ w')→LeavesInM Fence.wide 0 P fn tmps R ds .returning w:=by
  intro ds
  induction ds with
  | nil=>
   intro w tmps σ ht h;exact h tmps ht
  | cons d ds ih=>
   intro w tmps σ ht h;obtain ⟨Dw,hd,hD,h⟩:=h;exact ⟨by simp,.inl ⟨Dw,_,hd,run_takeDeferred hD,ih _ _ _ ht h⟩⟩
 refine wpIn_mono (h 0 _ hfit) ?_;rintro e a' w' ⟨s',hf',hq⟩;cases e with
 | normal=>show LeavesInM _ _ _ _ _ _ a'.defers _ _;rw[hf'.defers];exact key _ _ _ _ hf'.at_ hq
 | ret=>show LeavesInM _ _ _ _ _ _ a'.defers _ _;rw[hf'.defers];exact key _ _ _ _ hf'.at_ hq
 | exit id=>exact hq.elim
 | goto l=>exact hq.elim
 | panic ch=>exact hq.elim
 | outgrown=>exact hq.elim
theorem zim (h:zZ fn P R .ret σ w):zjz fn P R .ret ([],σ) w:=h
theorem zne {own:Own} {Dw:Nat} (st:St h0 w0 h w (own++[[(Dw,.deferred (some []))]])) (hk:∀ w',St h0 w0 h w' own→zZ fn P R .ret σ w'):zjz fn P R .ret ([{ target:=.collected Dw,args:=#[] }],σ) w:=by
 have s2:St h0 w0 h w (own++[(Dw,.deferred (some []))]::[]):=st;refine ⟨Dw,rfl,s2.at,hk _ ?_⟩;have s3:=(s2.setAt (.deferred none)).take own.length;rwa [List.take_left'] at s3;rfl
end Go.Pk

namespace Go.Pk
open Go Go.RowKit
end Go.Pk

namespace Go.Pk
open Go Go.RowKit
variable {h:Heap} {w:World} {P:Program} {ds:List Deferred} {r:Option Nat}
section
variable {P:Program} {n:Nat} {l:List Oper} {h0:Heap} {w0:World} {own0:Own} {hr:Heap} {er:Er} {dsts:List Nat} {σ:Env} {Q:Exit→Env→World→Prop} {ks:List (Nat×Kd)} {cx:List (Nat×Oper)}
theorem zFE {own:Own} (st:St h0 w0 h w own) (sh:Shape n l ks cx er dsts) (hops:Hops P n l h0 w0 own h er dsts σ [] l ks) (hstart:zoj P n l h0 w0 h dsts σ Q ks (cx.drop er.2.2.2.2) (cx.take er.2.2.2.2) (zmu er ks) (zqw er ks) own []) (a:Act) (ha:Fits n a σ):
  wpAnyIn Fence.wide 0 P .any l.toArray (fun e a' w'=>∃ σ',Fits n a' σ'∧Q e σ' w') l.toArray.size (Array.replicate l.toArray.size false) a { w with drawn:=w.drawn+1 }:=by
 refine drawn sh hops hstart _ _ a σ _ (by simp) ?_ ha ⟨⟨zlV _ _,fun _ _ _ _ _ _=>rfl,fun j o _ hl=>by simp[zcF] at hl⟩,h,Le.refl h,?_,.inl ⟨?_,?_,?_⟩⟩
 ·unfold unl;refine zfl List.countP_le_length ?_;simp
 ·intro i d p hi _;simp[zcF] at hi
 ·intro q _ hi;simp[zcF] at hi
 ·have e:∀ az,zlu (Array.replicate l.toArray.size false) σ az=az.map fun _=>[]:=by
   intro az;unfold zlu;refine zgo fun q _=>?_;rw[zam];intro hi;simp[zcF] at hi
  rw[e,e];have:∀ m m2:List (Nat×Nat×Obj),St h0 w0 h w.drew (own++(m.map fun _=>[])++(m2.map fun _=>[])):=by
   intro m m2;have e2:(own++(m.map fun _=>([]:List (Nat×Obj)))++(m2.map fun _=>([]:List (Nat×Obj)))).flatten=own.flatten:=by
    rw[zdf,zdf];simp
   refine ⟨st.drew.le,st.drew.new,st.drew.sub,st.drew.below,?_,?_⟩
   ·rw[e2];exact st.drew.mine
   ·rw[e2];exact st.drew.nodup
  exact this _ _
 ·intro q _ hi;simp[zcF] at hi
end
theorem zzs {ops:Array Oper} {q q':Exit→Act→World→Prop} (hn:∀ e a w,q e a w→e=.normal) {k i:Nat} {Kw K':Act→World→Prop} (ih:∀ (a1 a2:Act) (w:World),a2.tmps=a1.tmps→a2.defers=a1.defers++ds→Kw a1 w→K' a2 w) (hd:∀ o,ops[i]?=some o→(match o.op with|.defer _=>false|_=>true)=true) (a1 a2:Act) (w:World) (h1:a2.tmps=a1.tmps) (h2:a2.defers=a1.defers++ds) (h:wpOpIn Fence.wide 0 P ops q i Kw a1 w):wpOpIn { Fence.wide with round:=r } k P ops q' i K' a2 w:=by
 have hev:a2.eval=a1.eval:=by funext x;cases x <;> simp only[Act.eval,h1]
 unfold wpOpIn at h ⊢;cases ho:ops[i]? with
 | none=>rw[ho] at h;exact ih _ _ _ h1 h2 h
 | some o=>
  rw[ho] at h;simp only at h ⊢;have hd:=hd o ho;rw[h1];have hp1:∀ (d:Option Tmp) (v:Value),(a2.put d v).tmps=(a1.put d v).tmps:=by
   intro d v;cases d <;> simp[Act.put,h1]
  have hp2:∀ (d:Option Tmp) (v:Value),(a2.put d v).defers=(a1.put d v).defers++ds:=by
   intro d v;cases d <;> simp[Act.put,h2]
  split
  ·rename_i hw;rw[zab hw] at h;unfold Oper.wpIn at h ⊢;obtain ⟨_,h⟩:=h;refine ⟨fun _ _=>trivial,?_⟩;rw[Oper.semAt_eq _ _ _ (zvJ hd),hev];have h:o.uponIn Fence.wide 0 P a1 _ _ ((execOp a1.eval o).run P w):=h;cases hr:(execOp a1.eval o).run P w with
   | ok nx w'=>
    rw[hr] at h;cases nx with
    | value v=>exact ih _ _ _ (hp1 _ _) (hp2 _ _) h
    | skip=>exact ih _ _ _ (hp1 _ _) (hp2 _ _) h
    | defer d=>
     refine ih _ _ _ ?_ ?_ h
     ·cases o.dst <;> simp[Act.put,h1]
     ·cases o.dst <;> simp[Act.put,h2]
    | enter f args=>
     refine ⟨fun hh=>absurd hh (by simp[Fence.wide]),?_⟩;have h2':=(callsIn_wide (n:=k-1)).2 (callsIn_wide.1 h.2);have h3:CallsIn { Fence.wide with round:=r } (k-1) P f args w' _:=h2';refine CallsIn.mono h3 ?_;intro e w'' he;cases e with
     | returned v=>exact ih _ _ _ (hp1 _ _) (hp2 _ _) he
     | panicked c=>exact absurd (hn _ _ _ he) (by simp)
     | outgrown=>obtain ⟨_,_,he⟩:=he;exact absurd (hn _ _ _ he) (by simp)
    | round l f tmps assign body=>
     refine ⟨fun hh=>absurd hh (by simp[Fence.wide]),?_⟩;have h3:RoundIn { Fence.wide with round:=r } (k-1) P l f tmps assign body w' _:=⟨trivial,fun c cs _=>h.2.2 c cs (room_wide _)⟩;refine RoundIn.mono h3 ?_;intro e w'' he;cases e with
     | returned v=>exact ih _ _ _ (hp1 _ _) (hp2 _ _) he
     | panicked c=>exact absurd (hn _ _ _ he) (by simp)
     | outgrown=>obtain ⟨_,_,he⟩:=he;exact absurd (hn _ _ _ he) (by simp)
    | row rw_ args=>
     refine ⟨fun hh=>absurd hh (by simp[Fence.wide]),?_⟩;have h3:RowsIn { Fence.wide with round:=r } (k-1) P rw_ args w' _:=fun c cs _=>h.2 c cs (room_wide _);refine RowsIn.mono h3 ?_;intro v w'' he;exact ih _ _ _ (hp1 _ _) (hp2 _ _) he
    | _=>exact h.elim
   | halt x w'=>
    rw[hr] at h;cases x with
    | panic v=>exact absurd (hn _ _ _ h) (by simp)
    | _=>exact h.elim
  ·rename_i hw;rw[zam hw] at h;obtain ⟨_,h⟩:=h;exact ⟨fun _ _=>trivial,ih _ _ _ (hp1 _ _) (hp2 _ _) h⟩
theorem zuC {P:Program} {md:Region.Mode} {ops:Array Oper} {ds:List Deferred} {q q':Exit→Act→World→Prop} {r:Option Nat} (hq:∀ e a1 a2 w,a2.tmps=a1.tmps→a2.defers=a1.defers++ds→q e a1 w→q' e a2 w) (hn:∀ e a w,q e a w→e=.normal) (hd:∀ (i:Nat) o,ops[i]?=some o→(match o.op with|.defer _=>false|_=>true)=true) {k:Nat}:
  ∀ (fuel:Nat) (listed:Array Bool) (a1 a2:Act) (w:World),a2.tmps=a1.tmps→a2.defers=a1.defers++ds→wpAnyIn Fence.wide 0 P md ops q fuel listed a1 w→wpAnyIn { Fence.wide with round:=r } k P md ops q' fuel listed a2 w
 | 0,_,_,_,_,h1,h2,h=>⟨h.1,hq _ _ _ _ h1 h2 h.2⟩
 | fuel+1,listed,a1,a2,w,h1,h2,h=>⟨fun e=>hq _ _ _ _ h1 h2 (h.1 e),fun i hi=>zzs (k:=k) hn (fun b1 b2 w2 g1 g2 g=>zuC hq hn hd fuel _ b1 b2 w2 g1 g2 g) (hd i) a1 a2 w h1 h2 (h.2 i hi)⟩
theorem zpK:∀ {l:List Oper},znv l=true→∀ (i:Nat) o,l[i]?=some o→(match o.op with|.defer _=>false|_=>true)=true
 | o::l,h,0,o',e=>by simp only[znv,zK] at h;simp at e;subst e;exact h.1
 | o::l,h,i+1,o',e=>by simp only[znv,zK] at h;exact zpK h.2 i o' (by simpa using e)
 | [],_,_,_,e=>by simp at e
theorem zvp {n:Nat} {l:List Oper} {h0:Heap} {w0:World} {own0:Own} {er:Er} {dsts:List Nat} {σ:Env} {Q:Exit→VS→World→Prop} {id:Nat} (hnd:znv l=true) (st:St h0 w0 h w own0) (hm:P.follows .mixedOrders=true) (hd:Drw P n l h0 w0 own0 h er dsts σ (fun e σ' w'=>e=.normal∧Q .normal (ds,σ') w') [] [] l):V { Fence.wide with round:=r } P n (.region id l.toArray true) Q (ds,σ) w:=by
 obtain ⟨ks,cx,h1,h2,h3⟩:=hd (by simp);simp only[List.reverse_nil,zcM] at h1 h2 h3;intro k a ha;refine wpIn_region_any hm ?_;refine zuC (ds:=ds) ?_ ?_ (fun i o e=>zpK hnd i o (by simpa using e)) _ _ { a with defers:=[] } a _ rfl (by simpa using ha.defers) (zFE st h2 h1 h3 _ ha.bare)
 ·rintro e a1 a2 w h1 h2 ⟨σ',hf,rfl,q⟩;exact ⟨(ds,σ'),⟨by rw[h1];exact hf.size,by rw[h2,hf.defers];rfl,by rw[h1];exact hf.at_⟩,q⟩
 ·rintro e a w ⟨_,_,rfl,_⟩;rfl
end Go.Pk
