/- A PART OF THE PROOF: contracts of functions, each walked once (much of it printed by a program of the author's own). -/
import Derived.Test.YtjkkoclmagdpoaaGreatDoorT0
import Derived.Orders
import Derived.Laws.Small
import Derived.Laws.Cover3
import Derived.WideLaws
import Derived.DeepKeys5
import Derived.Carry
import Derived.LaidMore
import Derived.SizedLaws
import Derived.Deep.DeepHandedRow
import Derived.ProofKit
import Derived.OpenShut
import Derived.ChangeMaps5
set_option linter.unusedSimpArgs false
set_option linter.unusedVariables false
set_option maxRecDepth 4000
namespace Go.Pk
open Go Go.RowKit
variable {p k i n d j g:Nat} {h h' h0:Heap} {v z vi:Value} {w0 w w':World} {l is:List Nat} {o:Oper} {q:Nat×Nat×Obj} {P:Program} {ops:Array Oper} {σ α:Env} {K:Env→World→Prop} {a:Act} {listed:Array Bool} {κ υ:Type} {m:List (κ×υ)} {rc:List (Nat×Oper)} {rest:List Oper} {dst:Option Tmp} {e ty type kt et:TypeId} {pos:String} {aft after:Array Edge} {cs us:List Value} {b:Bool} {op:Op} {c:UInt8} {x y:Operand} {s:Str} {fn:Func} {R:Ending→World→Prop} {ek:κ→Value}
abbrev Er:=List Nat×List Nat×List Nat×List Nat×Nat
variable {er:Er}
def jn (A B:Own):Own:=match B with
 | []=>A
 | b::B=>A++b::B
theorem zCh (A B:Own):jn A B=A++B:=by cases B <;> simp[jn]
structure PF where
 G:Type
 val:G→Value
 fact:G→Heap→Prop
 up:∀ g h h',fact g h→Le h h'→fact g h'
def PF.holds (p:PF) (h:Heap) (v:Value):Prop:=∃ g,v=p.val g∧p.fact g h
theorem PF.holds_up {p:PF} (hh:p.holds h v) (hl:Le h h'):p.holds h' v:=by
 obtain ⟨g,e,f⟩:=hh;exact ⟨g,e,p.up _ _ _ f hl⟩
def PF.det (v:Value):PF:=⟨Unit,fun _=>v,fun _ _=>True,fun _ _ _ _ _=>trivial⟩
def zbk (h:Heap):List (Nat×PF)→(List (Nat×Value)→Prop)→Prop
 | [],k=>k []
 | (d,p)::l,k=>∀ g,p.fact g h→zbk h l (fun vs=>k ((d,p.val g)::vs))
theorem zbk.use {h:Heap} {α:Env}:∀ {l:List (Nat×PF)} {k:List (Nat×Value)→Prop},zbk h l k→(∀ q∈l,q.2.holds h (α q.1))→∃ vs,k vs∧Has α vs
 | [],_,hk,_=>⟨[],hk,trivial⟩
 | (d,p)::l,k,hk,hh=>by
  obtain ⟨g,e,hf⟩:=hh (d,p) (List.mem_cons_self ..);obtain ⟨vs,h1,h2⟩:=zbk.use (hk g hf) (fun q hq=>hh q (List.mem_cons_of_mem _ hq));exact ⟨_,h1,e,h2⟩
theorem St.insert {own:Own} (st:St h0 w0 h w own) (hk:own[k]?=some []) (o:Obj):St h0 w0 h (w.alloc o) (own.set k [(w.heap.size,o)]):=by
 have hlt:k<own.length:=by
  rcases Nat.lt_or_ge k own.length with h1|h1
  ·exact h1
  ·rw[List.getElem?_eq_none h1] at hk;cases hk
 have hsplit:own=own.take k++[]::own.drop (k+1):=by
  have h1:own[k]=[]:=by rw[List.getElem?_eq_getElem hlt] at hk;simpa using hk
  rw[← h1,List.getElem_cons_drop hlt,List.take_append_drop]
 have hset:own.set k [(w.heap.size,o)]=own.take k++[(w.heap.size,o)]::own.drop (k+1):=by
  rw[List.set_eq_take_append_cons_drop,if_pos hlt]
 have hflat':own.flatten=(own.take k).flatten++(own.drop (k+1)).flatten:=by
  have e:=congrArg List.flatten hsplit;simpa using e
 have hflat:(own.set k [(w.heap.size,o)]).flatten=(own.take k).flatten++(w.heap.size,o)::(own.drop (k+1)).flatten:=by rw[hset];simp
 have hold:∀ p∈own.flatten,p.1<w.heap.size:=fun p hp=>zek (st.mine p hp).1;have hnd:=st.nodup;rw[hflat',List.map_append,List.nodup_append] at hnd;obtain ⟨n1,n2,n3⟩:=hnd;refine ⟨st.le,st.new,fun b o' hb=>?_,st.below.alloc st.below.size o,fun p hp=>?_,?_⟩
 ·rw[zlf _ _ _ (zek (st.sub b o' hb))];exact st.sub b o' hb
 ·rw[hflat,List.mem_append,List.mem_cons] at hp;have hcase:p=(w.heap.size,o)∨p∈own.flatten:=by
   rw[hflat',List.mem_append]
   rcases hp with hp|hp|hp
   ·exact .inr (.inl hp)
   ·exact .inl hp
   ·exact .inr (.inr hp)
  rcases hcase with rfl|hp'
  ·exact ⟨znw w o,zsr st.sub (Nat.le_refl _),st.below.size⟩
  ·obtain ⟨a1,a2,a3⟩:=st.mine p hp';exact ⟨by rw[zlf _ _ _ (zek a1)];exact a1,a2,a3⟩
 rw[hflat,List.map_append,List.map_cons,List.nodup_append,List.nodup_cons];have hnot:∀ q∈own.flatten,q.1≠w.heap.size:=fun q hq=>Nat.ne_of_lt (hold q hq);refine ⟨n1,⟨fun hm=>?_,n2⟩,fun a ha c hc e=>?_⟩
 ·obtain ⟨q,hq,e⟩:=List.mem_map.1 hm;exact hnot q (by rw[hflat',List.mem_append];exact .inr hq) e
 rw[List.mem_cons] at hc
 rcases hc with hc|hc
 ·obtain ⟨q,hq,e'⟩:=List.mem_map.1 ha;exact hnot q (by rw[hflat',List.mem_append];exact .inl hq) (by rw[e',e,hc])
 exact n3 a ha c hc e
def dd:List Nat→List Nat
 | []=>[]
 | i::l=>bif inL (dd l) i then dd l else i::dd l
theorem zhJ:inL l i=true↔i∈l:=by
 induction l with
 | nil=>simp[inL]
 | cons d l ih=>
  simp only[inL,List.mem_cons];cases e:Nat.beq i d with
  | true=>simp[Nat.eq_of_beq_eq_true e]
  | false=>
   have:i≠d:=fun q=>by subst q;simp at e
   simp[this,ih]
theorem zCU (h:i∈dd l):i∈l:=by
 induction l with
 | nil=>simp[dd] at h
 | cons c l ih2=>
  simp only[dd] at h;cases e2:inL (dd l) c with
  | true=>rw[e2] at h;exact List.mem_cons_of_mem _ (ih2 h)
  | false=>
   rw[e2] at h;simp only[cond_false,List.mem_cons] at h ⊢;exact h.imp id ih2
def bnd (o:Oper):List Nat:=(o.after.toList.filter (Region.binds .any)).map (·.on)
theorem mem_bnd:i∈bnd o↔∃ e∈o.after.toList,Region.binds .any e=true∧e.on=i:=by
 unfold bnd;rw[List.mem_map];constructor
 ·rintro ⟨e,he,rfl⟩;rw[List.mem_filter] at he;exact ⟨e,he.1,he.2,rfl⟩
 rintro ⟨e,he,hb,rfl⟩;exact ⟨e,List.mem_filter.2 ⟨he,hb⟩,rfl⟩
inductive Kd where
 | flt (p:PF)
 | al (z:Obj)
 | ch
variable {ks rd:List (Nat×Kd)}
def zpS:Nat×Kd→Option (Nat×PF)
 | (d,.flt p)=>some (d,p)
 | _=>none
theorem zsH {q:Nat×Kd} {r:Nat×PF} (h:zpS q=some r):q=(r.1,.flt r.2):=by
 rcases q with ⟨d,p|z|_⟩ <;> simp[zpS] at h
 subst h;rfl
def ziV (o:Oper):List Nat:=dd (bnd o)
def zfZ (o:Oper):Nat:=o.dst.getD 0
def zsM (ks:List (Nat×Kd)) (o:Oper):List (Nat×PF):=(ziV o).filterMap fun i=>(ks[i]?).bind zpS
def zjU (b:Nat):Value:=.pointer (some ⟨b,0,none⟩)
def zna:Value→Nat
 | .pointer (some a)=>a.block
 | _=>0
def zvx (P:Program) (n:Nat) (ops:Array Oper) (σ:Env) (h:Heap) (w:World) (o:Oper) (p:PF):Prop:=
 E P n ops [o] (fun σ' w'=>∃ v h',σ'=updO σ o.dst v∧St h w h' w' []∧p.holds h' v) σ w
def zCm (P:Program) (n:Nat) (ops:Array Oper) (σ:Env) (w:World) (o:Oper) (K:Value→World→Prop):Prop:=
 E P n ops [o] (fun σ' w'=>∃ v,σ'=updO σ o.dst v∧K v w') σ w
theorem zto (h:E P n ops [o] K σ w) (ha:Fits n a σ) {next:Act→World→Prop} {Q:Exit→Act→World→Prop} (hk:∀ a' σ' w',Fits n a' σ'→K σ' w'→next a' w'):if Region.wanted o (yielded ops a.tmps) then o.wpIn Fence.wide 0 P a w next Q else (∀ f,o.about P w a.eval=some f→Fence.wide.fn f)∧next (a.put o.dst undef) w:=by
 have h:=h a ha;unfold wpListIn at h;split at h
 ·rename_i hw;rw[if_pos hw];obtain ⟨h0,h⟩:=h;refine ⟨h0,?_⟩;generalize (o.semAt Fence.wide.round a.eval).run P w=r at h ⊢;cases r with
  | ok x w'=>
   cases x with
   | value v=>obtain ⟨_,σ',hf,hK⟩:=h;exact hk _ _ _ hf hK
   | skip=>obtain ⟨_,σ',hf,hK⟩:=h;exact hk _ _ _ hf hK
   | defer d=>obtain ⟨_,σ',hf,hK⟩:=h;exact hk _ _ _ hf hK
   | enter f args=>
    refine ⟨h.1,CallsIn.mono h.2 ?_⟩;intro e w'' he;cases e with
    | returned v=>obtain ⟨_,σ',hf,hK⟩:=he;exact hk _ _ _ hf hK
    | panicked c=>obtain ⟨he,_⟩:=he;cases he
    | outgrown=>obtain ⟨_,_,he,_⟩:=he;cases he
   | row r args=>
    refine ⟨h.1,RowsIn.mono h.2 ?_⟩;intro v w'' he;obtain ⟨_,σ',hf,hK⟩:=he;exact hk _ _ _ hf hK
   | round l f tmps assign body=>
    refine ⟨h.1,RoundIn.mono h.2 ?_⟩;intro e w'' he;cases e with
    | returned v=>obtain ⟨_,σ',hf,hK⟩:=he;exact hk _ _ _ hf hK
    | panicked c=>obtain ⟨he,_⟩:=he;cases he
    | outgrown=>obtain ⟨_,_,he,_⟩:=he;cases he
   | _=>exact h
  | halt x w'=>
   cases x with
   | panic v=>obtain ⟨he,_⟩:=h;cases he
   | _=>exact h
 ·rename_i hw;rw[if_neg hw];obtain ⟨h0,_,σ',hf,hK⟩:=h;exact ⟨h0,hk _ _ _ hf hK⟩
def zCn (P:Program) (o:Oper) (z:Obj):Prop:=o.guard=none∧∀ σ w,(execOp (ev σ) o).run P w=.ok (.value (zjU w.heap.size)) (w.alloc z)
def zrm (o:Oper) (v:Value) (kn:List (Nat×Value)):List (Nat×Value):=
 match o.dst with
 | some d=>(d,v)::kn
 | none=>kn
def znb (er:Er) (dsts:List Nat) (i:Nat):List Nat:=if inL er.2.2.1 i=true then dsts.filter (fun d=>!inL er.2.1 d) else dsts
section
variable (P:Program) (n:Nat) (l:List Oper) (h0:Heap) (w0:World) (own0:Own) (hr:Heap) (er:Er) (dsts:List Nat) (σ:Env) (Q:Exit→Env→World→Prop)
def Hop (i:Nat) (done:List (Nat×Kd)) (o:Oper) (p:PF):Prop:=
 ∀ h w τ,Le hr h→Sub h w→(inL er.1 i=true→St h0 w0 h w own0)→zbk h (zsM done o) (fun vs=>zvx P n l.toArray (known vs (mix (znb er dsts i) τ σ)) h w o p)
inductive Hops:List (Nat×Kd)→List Oper→List (Nat×Kd)→Prop
 | nil (done):Hops done [] []
 | flt (done:List (Nat×Kd)) (o:Oper) (rest:List Oper) (p:PF) (ks:List (Nat×Kd)):Hop P n l h0 w0 own0 hr er dsts σ done.length done o p→Hops (done++[(zfZ o,.flt p)]) rest ks→Hops done (o::rest) ((zfZ o,.flt p)::ks)
 | al (done:List (Nat×Kd)) (o:Oper) (rest:List Oper) (z:Obj) (ks:List (Nat×Kd)):zCn P o z→Hops (done++[(zfZ o,.al z)]) rest ks→Hops done (o::rest) ((zfZ o,.al z)::ks)
 | ch (done:List (Nat×Kd)) (o:Oper) (rest:List Oper) (ks:List (Nat×Kd)):Hops (done++[(zfZ o,.ch)]) rest ks→Hops done (o::rest) ((zfZ o,.ch)::ks)
def zlO (ks:List (Nat×Kd)):List (Nat×Oper)→Own→List (Nat×Value)→Heap→Prop
 | [],own,kn,hb=>∀ h w τ,Le hb h→St h0 w0 h w own→zbk h (ks.filterMap zpS) (fun vs=>Q .normal (known kn (known vs (mix dsts τ σ))) w)
 | (_,o)::rest,own,kn,hb=>∀ h w τ,Le hb h→St h0 w0 h w own→zbk h (zsM ks o) (fun vs=>zCm P n l.toArray (known kn (known vs (mix dsts τ σ))) w o
   (fun v w'=>∃ h' own',Le h h'∧St h0 w0 h' w' own'∧zlO ks rest own' (zrm o v kn) h'))
def zts (ks:List (Nat×Kd)) (cx:List (Nat×Oper)):List (Nat×Nat×Obj)→Own→Own→List (Nat×Value)→Heap→Prop
 | [],A,B,kn,hb=>zlO P n l h0 w0 dsts σ Q ks cx (jn A B) kn hb
 | (_,d,z)::az,A,B,kn,hb=>∀ b,zts ks cx az (A++[[(b,z)]]) B ((d,zjU b)::kn) hb
def zqQ (ks:List (Nat×Kd)) (cx:List (Nat×Oper)) (las:List (Nat×Nat×Obj)):List (Nat×Oper)→Own→Own→List (Nat×Value)→Heap→Prop
 | [],A,B,kn,hb=>zts P n l h0 w0 dsts σ Q ks cx las A B kn hb
 | (_,o)::rest,A,B,kn,hb=>∀ h w τ ls,ls.length=las.length→Le hb h→St h0 w0 h w (A++ls++B)→zbk h (zsM ks o) (fun vs=>zCm P n l.toArray (known kn (known vs (mix dsts τ σ))) w o
   (fun v w'=>∃ h' A' B',Le h h'∧St h0 w0 h' w' (A'++ls++B')∧zqQ ks cx las rest A' B' (zrm o v kn) h'))
def zko (ks:List (Nat×Kd)) (cx pd:List (Nat×Oper)) (las:List (Nat×Nat×Obj)):List (Nat×Nat×Obj)→Own→List (Nat×Value)→Prop
 | [],own,kn=>zqQ P n l h0 w0 dsts σ Q ks cx las pd own [] kn hr
 | (_,d,z)::az,own,kn=>∀ b,zko ks cx pd las az (own++[[(b,z)]]) ((d,zjU b)::kn)
end
def zgu:Nat→List (Nat×Kd)→List (Nat×Nat×Obj)
 | _,[]=>[]
 | i,(d,.al z)::r=>(i,d,z)::zgu (i+1) r
 | i,_::r=>zgu (i+1) r
theorem znX {j d:Nat} {z:Obj}:∀ {ks:List (Nat×Kd)} {i:Nat},(j,d,z)∈zgu i ks↔∃ k,j=i+k∧ks[k]?=some (d,.al z)
 | [],i=>by simp[zgu]
 | (d',k)::r,i=>by
  have ih:=znX (j:=j) (d:=d) (z:=z) (ks:=r) (i:=i+1);have shift:(∃ k',j=i+k'∧((d',k)::r)[k']?=some (d,Kd.al z))↔(j=i∧(d',k)=(d,Kd.al z))∨∃ k',j=i+1+k'∧r[k']?=some (d,Kd.al z):=by
   constructor
   ·rintro ⟨k',e,hk⟩;cases k' with
    | zero=>simp at hk;exact .inl ⟨by omega,by simp[hk]⟩
    | succ k'=>exact .inr ⟨k',by omega,by simpa using hk⟩
   ·rintro (⟨e,hk⟩|⟨k',e,hk⟩)
    ·exact ⟨0,by omega,by simp[hk]⟩
    ·exact ⟨k'+1,by omega,by simpa using hk⟩
  rw[shift];cases k with
  | al z'=>
   rw[zgu,List.mem_cons,ih];constructor
   ·rintro (e|e)
    ·cases e;exact .inl ⟨rfl,rfl⟩
    ·exact .inr e
   ·rintro (⟨e1,e2⟩|e)
    ·cases e2;subst e1;exact .inl rfl
    ·exact .inr e
  | flt p=>
   rw[zgu,ih]
   ·constructor
    ·exact .inr
    ·rintro (⟨_,e2⟩|e)
     ·cases e2
     ·exact e
   ·simp
  | ch=>
   rw[zgu,ih]
   ·constructor
    ·exact .inr
    ·rintro (⟨_,e2⟩|e)
     ·cases e2
     ·exact e
   ·simp
def zmp (er:Er) (ks:List (Nat×Kd)):List (Nat×Nat×Obj):=(zgu 0 ks).filter fun q=>!inL er.2.2.2.1 q.1
def ziL (er:Er) (ks:List (Nat×Kd)):List (Nat×Nat×Obj):=(zgu 0 ks).filter fun q=>inL er.2.2.2.1 q.1
theorem mem_alsE:q∈zmp er ks↔q∈zgu 0 ks∧inL er.2.2.2.1 q.1=false:=by simp[zmp,List.mem_filter]
theorem mem_alsL:q∈ziL er ks↔q∈zgu 0 ks∧inL er.2.2.2.1 q.1=true:=by simp[ziL,List.mem_filter]
def unl (n:Nat) (listed:Array Bool):Nat:=(List.range n).countP fun i=>!listed.getD i true
theorem zxx (hn:l.Nodup) (hi:i∈l) {p q:Nat→Bool} (hp:p i=true) (hq:q i=false) (he:∀ j,j≠i→q j=p j):l.countP q+1=l.countP p:=by
 induction l with
 | nil=>cases hi
 | cons a l ih=>
  rw[List.nodup_cons] at hn
  by_cases e:a=i
  ·subst e;have:l.countP q=l.countP p:=List.countP_congr fun j hj=>by
    rw[he j (fun e=>hn.1 (e▸hj))]
   simp[List.countP_cons,hp,hq,this]
  ·have hi':i∈l:=(List.mem_cons.1 hi).resolve_left (Ne.symm e);have:=ih hn.2 hi';rw[List.countP_cons,List.countP_cons,he a e];omega
def zsp (n:Nat):Nat→List Oper→List Nat→Bool
 | _,[],_=>true
 | i,o::l,seen=>(match o.dst with|some d=>Nat.blt d n && !inL seen d|none=>true) && (o.after.toList.all fun e=>!Region.binds .any e || Nat.blt e.on i) && zsp n (i+1) l (match o.dst with|some d=>d::seen|none=>seen)
theorem zfU {n:Nat}:∀ {l:List Oper} {i:Nat} {seen:List Nat},zsp n i l seen=true→
  (∀ (j:Nat) (o:Oper),l[j]?=some o→(∀ d,o.dst=some d→d<n∧d ∉ seen)∧(∀ e∈o.after.toList,Region.binds .any e=true→e.on<i+j))∧
  (∀ (j k:Nat) (o o':Oper) (d:Nat),l[j]?=some o→l[k]?=some o'→j≠k→o.dst=some d→o'.dst≠some d)
 | [],_,_,_=>by simp
 | o::l,i,seen,h=>by
  simp only[zsp,Bool.and_eq_true] at h;obtain ⟨⟨h1,h2⟩,h3⟩:=h;obtain ⟨g1,g2⟩:=zfU h3;have hseen:∀ x,x∈seen→x∈(match o.dst with|some d=>d::seen|none=>seen):=by
   intro x hx;cases o.dst with
   | none=>exact hx
   | some d=>exact List.mem_cons_of_mem _ hx
  constructor
  ·intro j o' hj;cases j with
   | zero=>
    simp at hj;subst hj;refine ⟨fun d hd=>?_,fun e he hb=>?_⟩
    ·rw[hd] at h1;simp only[Bool.and_eq_true,Bool.not_eq_true'] at h1;refine ⟨Nat.le_of_ble_eq_true h1.1,fun hm=>?_⟩;rw[zhJ.2 hm] at h1;cases h1.2
    ·have:=List.all_eq_true.1 h2 e he;simp only[hb,Bool.not_true,Bool.false_or] at this;exact Nat.le_of_ble_eq_true this
   | succ j=>
    obtain ⟨a1,a4⟩:=g1 j o' (by simpa using hj);exact ⟨fun d hd=>⟨(a1 d hd).1,fun hm=>(a1 d hd).2 (hseen _ hm)⟩,fun e he hb=>by have:=a4 e he hb;omega⟩
  ·intro j k a b d hj hk hne hd hd';have first:∀ (k:Nat) (b:Oper),l[k]?=some b→o.dst=some d→b.dst=some d→False:=by
    intro k b hb e e';have:=(g1 k b hb).1 d e';rw[e] at this;exact this.2 (List.mem_cons_self ..)
   cases j with
   | zero=>
    simp at hj;subst hj;cases k with
    | zero=>exact absurd rfl hne
    | succ k=>exact first k b (by simpa using hk) hd hd'
   | succ j=>
    cases k with
    | zero=>simp at hk;subst hk;exact first j a (by simpa using hj) hd' hd
    | succ k=>exact g2 j k a b d (by simpa using hj) (by simpa using hk) zU hd hd'
def ztJ:List Oper→List (Nat×Kd)→Bool
 | [],_=>true
 | _,[]=>true
 | o::l,(_,.ch)::ks=>ztJ l ks
 | o::l,_::ks=>o.dst.isSome && ztJ l ks
theorem znZ:∀ {l:List Oper} {ks:List (Nat×Kd)},ztJ l ks=true→∀ (j:Nat) (o:Oper) (d:Nat) (k:Kd),l[j]?=some o→ks[j]?=some (d,k)→k≠.ch→o.dst=some (zfZ o)
 | [],_,_=>by simp
 | _::_,[],_=>by simp
 | o::l,(d0,k0)::ks,h=>by
  intro j o' d k hj hk hne;cases j with
  | zero=>
   simp at hj hk;obtain ⟨rfl,rfl⟩:=hk;subst hj;have:o.dst.isSome=true:=by
    cases k0 with
    | ch=>exact absurd rfl hne
    | flt p=>simp only[ztJ,Bool.and_eq_true] at h;exact h.1
    | al z=>simp only[ztJ,Bool.and_eq_true] at h;exact h.1
   cases e:o.dst with
   | none=>rw[e] at this;cases this
   | some d=>simp[zfZ,e]
  | succ j=>
   have h':ztJ l ks=true:=by
    cases k0 with
    | ch=>exact h
    | flt p=>simp only[ztJ,Bool.and_eq_true] at h;exact h.2
    | al z=>simp only[ztJ,Bool.and_eq_true] at h;exact h.2
   exact znZ h' j o' d k (by simpa using hj) (by simpa using hk) hne
def zoH:Nat→List (Nat×Kd)→List Nat
 | _,[]=>[]
 | i,(_,.ch)::r=>i::zoH (i+1) r
 | i,_::r=>zoH (i+1) r
theorem zqu {j:Nat}:∀ {ks:List (Nat×Kd)} {i:Nat},j∈zoH i ks↔∃ k d,j=i+k∧ks[k]?=some (d,.ch)
 | [],i=>by simp[zoH]
 | (d',k)::r,i=>by
  have ih:=zqu (j:=j) (ks:=r) (i:=i+1);have shift:(∃ k' d,j=i+k'∧((d',k)::r)[k']?=some (d,Kd.ch))↔(j=i∧k=Kd.ch)∨∃ k' d,j=i+1+k'∧r[k']?=some (d,Kd.ch):=by
   constructor
   ·rintro ⟨k',d,e,hk⟩;cases k' with
    | zero=>simp at hk;exact .inl ⟨by omega,hk.2⟩
    | succ k'=>exact .inr ⟨k',d,by omega,by simpa using hk⟩
   ·rintro (⟨e,hk⟩|⟨k',d,e,hk⟩)
    ·exact ⟨0,d',by omega,by simp[hk]⟩
    ·exact ⟨k'+1,d,by omega,by simpa using hk⟩
  rw[shift];cases k with
  | ch=>rw[zoH,List.mem_cons,ih];simp
  | flt p=>rw[zoH,ih] <;> simp
  | al z=>rw[zoH,ih] <;> simp
def zvO:List (Nat×Oper)→Bool
 | (c,_)::(c',o')::r=>inL (bnd o') c && zvO ((c',o')::r)
 | _=>true
theorem zmu:∀ {cx:List (Nat×Oper)},zvO cx=true→∀ (j:Nat) (q q':Nat×Oper),cx[j]?=some q→cx[j+1]?=some q'→q.1∈bnd q'.2
 | [],_=>by simp
 | [_],_=>by
  intro j q q' _ h2;simp at h2
 | (c,o)::(c',o')::r,h=>by
  simp only[zvO,Bool.and_eq_true] at h;intro j q q' h1 h2;cases j with
  | zero=>simp at h1 h2;subst h1;subst h2;exact zhJ.1 h.1
  | succ j=>exact zmu h.2 j q q' (by simpa using h1) (by simpa using h2)
theorem zpQ {α:Env}:∀ {kn:List (Nat×Value)},Has α kn↔∀ q∈kn,α q.1=q.2
 | []=>by simp[Has]
 | (d,v)::l=>by
  rw[Has,zpQ];simp
def zBI (l:List Oper) (o:Oper):List Nat:=bnd o++(bnd o).flatMap fun j=>match l[j]? with|some p=>bnd p|none=>[]
theorem zAF {l:List Oper} (hlt:listed.size=l.length) (hc:∀ (j:Nat) (o:Oper),l[j]?=some o→listed[j]?=some true→∀ i∈bnd o,listed[i]?=some true) (h:∀ j∈bnd o,listed[j]?=some true):∀ j∈zBI l o,listed[j]?=some true:=by
 intro j hj;rw[zBI,List.mem_append,List.mem_flatMap] at hj
 rcases hj with hj|⟨i,hi,hj⟩
 ·exact h j hj
 cases e:l[i]? with
 | none=>rw[e] at hj;cases hj
 | some p=>rw[e] at hj;exact hc i p e (h i hi) j hj
def zvf (l:List Oper) (ks:List (Nat×Kd)) (er:Er):List (Nat×Oper)→Bool
 | []=>true
 | (_,o)::_=>er.1.all (inL (zBI l o)) && (zmp er ks).all fun q=>inL (bnd o) q.1
def zpV (er:Er) (cx:List (Nat×Oper)):Bool:=match cx.drop er.2.2.2.2 with
 | []=>er.2.2.2.1.isEmpty && Nat.beq er.2.2.2.2 0
 | (_,o)::_=>er.2.2.2.1.all (inL (bnd o))
def zxt (late readers:List Nat) (l:List Oper):Bool:=l.all fun o=>match o.dst with|some d=>!inL late d || readers.all (inL (bnd o))|none=>true
theorem zwr {late readers:List Nat} {l:List Oper} (h:zxt late readers l=true) {r: Nat} (ho:o∈l) (hd:o.dst=some d) (hl:inL late d=true) (hr:inL readers r=true):r∈bnd o:=by
 have:=List.all_eq_true.1 h o ho;simp only[hd,hl,Bool.not_true,Bool.false_or] at this;exact zhJ.1 (List.all_eq_true.1 this r (zhJ.1 hr))
theorem Hops.get {l:List Oper} {own0:Own} {hr:Heap} {dsts:List Nat} {m:List Oper} {done: List (Nat×Kd)} (h:Hops P n l h0 w0 own0 hr er dsts σ done m ks):
  m.length=ks.length∧∀ i o,m[i]?=some o→∃ k,ks[i]?=some (zfZ o,k)∧
   (∀ p,k=.flt p→Hop P n l h0 w0 own0 hr er dsts σ (done.length+i) (done++ks.take i) o p)∧(∀ z,k=.al z→zCn P o z):=by
 induction h with
 | nil done=>exact ⟨rfl,by simp⟩
 | flt done o rest p ks h1 h2 ih=>
  obtain ⟨e,hg⟩:=ih;refine ⟨by simp[e],fun i o' hi=>?_⟩;cases i with
  | zero=>simp at hi;subst hi;exact ⟨_,rfl,fun p' e=>by cases e;simpa using h1,fun z e=>by cases e⟩
  | succ i=>
   obtain ⟨k,h3,h4,h5⟩:=hg i o' (by simpa using hi);refine ⟨k,by simpa using h3,fun p' e=>?_,h5⟩;have:=h4 p' e;rw[List.length_append,List.length_singleton,List.append_assoc] at this;have e2:done.length+1+i=done.length+(i+1):=by omega
   rw[e2] at this;simpa using this
 | al done o rest z ks h1 h2 ih=>
  obtain ⟨e,hg⟩:=ih;refine ⟨by simp[e],fun i o' hi=>?_⟩;cases i with
  | zero=>simp at hi;subst hi;exact ⟨_,rfl,fun p' e=>(by cases e),fun z' e=>by cases e;exact h1⟩
  | succ i=>
   obtain ⟨k,h3,h4,h5⟩:=hg i o' (by simpa using hi);refine ⟨k,by simpa using h3,fun p' e=>?_,h5⟩;have:=h4 p' e;rw[List.length_append,List.length_singleton,List.append_assoc] at this;have e2:done.length+1+i=done.length+(i+1):=by omega
   rw[e2] at this;simpa using this
 | ch done o rest ks h2 ih=>
  obtain ⟨e,hg⟩:=ih;refine ⟨by simp[e],fun i o' hi=>?_⟩;cases i with
  | zero=>simp at hi;subst hi;exact ⟨_,rfl,fun p' e=>(by cases e),fun z' e=>by cases e⟩
  | succ i=>
   obtain ⟨k,h3,h4,h5⟩:=hg i o' (by simpa using hi);refine ⟨k,by simpa using h3,fun p' e=>?_,h5⟩;have:=h4 p' e;rw[List.length_append,List.length_singleton,List.append_assoc] at this;have e2:done.length+1+i=done.length+(i+1):=by omega
   rw[e2] at this;simpa using this
def zhO (listed:Array Bool) (α:Env) (az:List (Nat×Nat×Obj)):Own:=az.map fun q=>if listed[q.1]?=some true then [(zna (α q.2.1),q.2.2)] else []
theorem zqp {P:Program} {n:Nat} {l:List Oper} {h0:Heap} {w0:World} {hr:Heap} {dsts:List Nat} {σ:Env} {Q:Exit→Env→World→Prop} {ks:List (Nat×Kd)} {cx pd:List (Nat×Oper)} {las:List (Nat×Nat×Obj)} {listed:Array Bool} {α:Env}:∀ {az:List (Nat×Nat×Obj)} {own:Own} {kn:List (Nat×Value)},
  zko P n l h0 w0 hr dsts σ Q ks cx pd las az own kn→(∀ q∈az,listed[q.1]?=some true∧α q.2.1=zjU (zna (α q.2.1)))→Has α kn→
  ∃ kn',zqQ P n l h0 w0 dsts σ Q ks cx las pd (own++zhO listed α az) [] kn' hr∧Has α kn'∧(∀ q∈kn',q∈kn∨∃ a∈az,q.1=a.2.1)
 | [],own,kn,h,_,hk=>⟨kn,by simpa [zhO,zko] using h,hk,fun q hq=>.inl hq⟩
 | (i,d,z)::az,own,kn,h,ha,hk=>by
  obtain ⟨hl,he⟩:=ha _ (List.mem_cons_self ..);simp only at hl he;obtain ⟨kn',h1,h2,h3⟩:=zqp (h (zna (α d))) (fun q hq=>ha q (List.mem_cons_of_mem _ hq)) ⟨he,hk⟩;refine ⟨kn',?_,h2,fun q hq=>?_⟩
  ·simp only[zhO,List.map_cons,hl,if_true] at h1 ⊢;simpa [List.append_assoc] using h1
  ·rcases h3 q hq with h|⟨a,ha,e⟩
   ·rw[List.mem_cons] at h
    rcases h with rfl|h
    ·exact .inr ⟨_,List.mem_cons_self ..,rfl⟩
    ·exact .inl h
   ·exact .inr ⟨a,List.mem_cons_of_mem _ ha,e⟩
theorem zwq {P:Program} {n:Nat} {l:List Oper} {h0:Heap} {w0:World} {dsts:List Nat} {σ:Env} {Q:Exit→Env→World→Prop} {ks:List (Nat×Kd)} {cx:List (Nat×Oper)} {listed:Array Bool} {α:Env} {hb:Heap} {B:Own}:∀ {az:List (Nat×Nat×Obj)} {own:Own} {kn:List (Nat×Value)},
  zts P n l h0 w0 dsts σ Q ks cx az own B kn hb→(∀ q∈az,listed[q.1]?=some true∧α q.2.1=zjU (zna (α q.2.1)))→Has α kn→
  ∃ kn',zlO P n l h0 w0 dsts σ Q ks cx (own++zhO listed α az++B) kn' hb∧Has α kn'∧(∀ q∈kn',q∈kn∨∃ a∈az,q.1=a.2.1)
 | [],own,kn,h,_,hk=>⟨kn,by simpa [zhO,zts,zCh] using h,hk,fun q hq=>.inl hq⟩
 | (i,d,z)::az,own,kn,h,ha,hk=>by
  obtain ⟨hl,he⟩:=ha _ (List.mem_cons_self ..);simp only at hl he;obtain ⟨kn',h1,h2,h3⟩:=zwq (h (zna (α d))) (fun q hq=>ha q (List.mem_cons_of_mem _ hq)) ⟨he,hk⟩;refine ⟨kn',?_,h2,fun q hq=>?_⟩
  ·simp only[zhO,List.map_cons,hl,if_true] at h1 ⊢;simpa [List.append_assoc] using h1
  ·rcases h3 q hq with h|⟨a,ha,e⟩
   ·rw[List.mem_cons] at h
    rcases h with rfl|h
    ·exact .inr ⟨_,List.mem_cons_self ..,rfl⟩
    ·exact .inl h
   ·exact .inr ⟨a,List.mem_cons_of_mem _ ha,e⟩
section
variable {P:Program} {n:Nat} {l:List Oper} {h0:Heap} {w0:World} {own0:Own} {hr:Heap} {er:Er} {dsts:List Nat} {σ:Env} {Q:Exit→Env→World→Prop} {ks:List (Nat×Kd)} {cx:List (Nat×Oper)}
structure Shape (n:Nat) (l:List Oper) (ks:List (Nat×Kd)) (cx:List (Nat×Oper)) (er:Er) (dsts:List Nat):Prop where
 ok:zsp n 0 l []=true
 kd:ztJ l ks=true
 ds:l.filterMap (·.dst)=dsts
 ch:zoH 0 ks=cx.map (·.1)
 seq:zvO cx=true
 fst:zvf l ks er cx=true
 cl:zpV er cx=true
 late:zxt er.2.1 er.2.2.1 l=true
 ops:∀ q∈cx,l[q.1]?=some q.2
def FH (ks:List (Nat×Kd)) (listed:Array Bool) (α:Env) (h:Heap):Prop:=∀ (i d:Nat) (p:PF),listed[i]?=some true→ks[i]?=some (d,.flt p)→p.holds h (α d)
def Ph0 (h0:Heap) (w0:World) (own0:Own) (er:Er) (ks:List (Nat×Kd)) (cx:List (Nat×Oper)) (listed:Array Bool) (α:Env) (h:Heap) (w:World):Prop:=
 (∀ q∈cx,listed[q.1]?≠some true)∧St h0 w0 h w (own0++zhO listed α (zmp er ks)++zhO listed α (ziL er ks))∧∀ q∈zgu 0 ks,listed[q.1]?=some true→α q.2.1=zjU (zna (α q.2.1))
def PhP (P:Program) (n:Nat) (l:List Oper) (h0:Heap) (w0:World) (er:Er) (dsts:List Nat) (σ:Env) (Q:Exit→Env→World→Prop) (ks:List (Nat×Kd)) (cx:List (Nat×Oper)) (listed:Array Bool) (α:Env) (h:Heap) (w:World):Prop:=
 ∃ k A B kn hb,(0<k∧k≤er.2.2.2.2)∧(∀ (j:Nat) (q:Nat×Oper),cx[j]?=some q→(listed[q.1]?=some true↔j<k))∧zqQ P n l h0 w0 dsts σ Q ks (cx.drop er.2.2.2.2) (ziL er ks) ((cx.take er.2.2.2.2).drop k) A B kn hb∧Le hb h∧St h0 w0 h w (A++zhO listed α (ziL er ks)++B)∧Has α kn∧
  (∀ q∈kn,∃ (i:Nat) (o:Oper),listed[i]?=some true∧l[i]?=some o∧o.dst=some q.1)∧(∀ q∈zmp er ks,listed[q.1]?=some true)∧(∀ q∈ziL er ks,listed[q.1]?=some true→α q.2.1=zjU (zna (α q.2.1)))∧(∀ i,inL er.1 i=true→listed[i]?=some true)
def Ph1 (P:Program) (n:Nat) (l:List Oper) (h0:Heap) (w0:World) (er:Er) (dsts:List Nat) (σ:Env) (Q:Exit→Env→World→Prop) (ks:List (Nat×Kd)) (cx:List (Nat×Oper)) (listed:Array Bool) (α:Env) (h:Heap) (w:World):Prop:=
 ∃ k own kn hb,(0<k∧er.2.2.2.2<k)∧(∀ (j:Nat) (q:Nat×Oper),cx[j]?=some q→(listed[q.1]?=some true↔j<k))∧zlO P n l h0 w0 dsts σ Q ks (cx.drop k) own kn hb∧Le hb h∧St h0 w0 h w own∧Has α kn∧
  (∀ q∈kn,∃ (i:Nat) (o:Oper),listed[i]?=some true∧l[i]?=some o∧o.dst=some q.1)∧(∀ q∈zgu 0 ks,listed[q.1]?=some true)∧(∀ i,inL er.1 i=true→listed[i]?=some true)
def Agr (l:List Oper) (dsts:List Nat) (σ:Env) (listed:Array Bool) (α:Env):Prop:=
 zfj dsts α σ∧(∀ (j:Nat) (o:Oper) (d:Nat),l[j]?=some o→o.dst=some d→listed[j]?≠some true→α d=σ d)∧(∀ (j:Nat) (o:Oper),l[j]?=some o→listed[j]?=some true→∀ i∈bnd o,listed[i]?=some true)
def Inv (P:Program) (n:Nat) (l:List Oper) (h0:Heap) (w0:World) (own0:Own) (hr:Heap) (er:Er) (dsts:List Nat) (σ:Env) (Q:Exit→Env→World→Prop) (ks:List (Nat×Kd)) (cx:List (Nat×Oper)) (listed:Array Bool) (α:Env) (w:World):Prop:=
 Agr l dsts σ listed α∧∃ h,Le hr h∧FH ks listed α h∧(Ph0 h0 w0 own0 er ks cx listed α h w∨PhP P n l h0 w0 er dsts σ Q ks cx listed α h w∨Ph1 P n l h0 w0 er dsts σ Q ks cx listed α h w)
theorem zsc (h:(listed.setIfInBounds i true)[j]?=some true):j=i∨listed[j]?=some true:=by
 by_cases e:j=i
 ·exact .inl e
 rw[Array.getElem?_setIfInBounds_ne (Ne.symm e)] at h;exact .inr h
theorem zer (h:listed[j]?=some true):(listed.setIfInBounds i true)[j]?=some true:=by
 by_cases e:j=i
 ·subst e;obtain ⟨hlt,_⟩:=Array.getElem?_eq_some_iff.1 h;simp[hlt]
 rw[Array.getElem?_setIfInBounds_ne (Ne.symm e)];exact h
theorem zkh {d:Option Nat} {t:Nat} (h:d≠some t):updO α d v t=α t:=by
 cases d with
 | none=>rfl
 | some d=>exact zuT _ _ _ _ (fun e=>h (by rw[e]))
theorem FH.step (sh:Shape n l ks cx er dsts) (hd:∀ (j:Nat) (o:Oper) (k:Kd) (d:Nat),l[j]?=some o→ks[j]?=some (d,k)→d=zfZ o) (hlen:l.length=ks.length) (hi:l[i]?=some o) (hl:Le h h') (hf:FH ks listed α h) (hnew:∀ (d:Nat) (p:PF),ks[i]?=some (d,.flt p)→p.holds h' v):FH ks (listed.setIfInBounds i true) (updO α o.dst v) h':=by
 intro j d p hj hk;obtain ⟨hjl,_⟩:=List.getElem?_eq_some_iff.1 hk;have hjo:l[j]?=some (l[j]'zU):=List.getElem?_eq_getElem zU;have hjd:=znZ sh.kd j _ d _ hjo hk (by simp);have hdd:=hd j _ _ _ hjo hk
 by_cases e:j=i
 ·subst e;rw[hi] at hjo;cases hjo;rw[hjd,hdd];have:=hnew d p hk;simpa [updO,zmb,hdd] using this
 ·have hold:listed[j]?=some true:=(zsc hj).resolve_left e;have hne:o.dst≠some d:=by
   rw[hdd];exact fun q=>(zfU sh.ok).2 j i _ o (zfZ _) hjo hi e hjd q
  rw[zkh hne];exact PF.holds_up (hf j d p hold hk) hl
theorem zxB (sh:Shape n l ks cx er dsts) (hi:l[i]?=some o) (h:zfj dsts α σ):zfj dsts (updO α o.dst v) σ:=by
 cases e:o.dst with
 | none=>exact h
 | some d=>
  refine zod ?_ h;rw[zhJ,← sh.ds];exact List.mem_filterMap.2 ⟨o,List.mem_of_getElem? hi,e⟩
theorem zoc (sh:Shape n l ks cx er dsts) (hsz:listed.size=l.length) (hi:l[i]?=some o) (hready:∀ j∈bnd o,listed[j]?=some true) (h:Agr l dsts σ listed α):Agr l dsts σ (listed.setIfInBounds i true) (updO α o.dst v):=by
 obtain ⟨a1,a2,a3⟩:=h;obtain ⟨hil,_⟩:=List.getElem?_eq_some_iff.1 hi;refine ⟨zxB sh hi a1,fun j o' d hj hd hn=>?_,fun j o' hj hl i' hi'=>?_⟩
 ·by_cases e:j=i
  ·subst e;have hjs:j<listed.size:=by omega
   exact absurd (by simp[hjs]) hn
  ·rw[zkh ((zfU sh.ok).2 j i o' o d hj hi e hd)];exact a2 j o' d hj hd (fun q=>hn (zer q))
 rcases zsc hl with e|e
 ·subst e;rw[hi] at hj;cases hj;exact zer (hready i' hi')
 exact zer (a3 j o' hj e i' hi')
theorem zuF {m:Nat} (hf:FH ks listed α h) (hb:∀ i∈bnd o,listed[i]?=some true):∀ q∈zsM (ks.take m) o,q.2.holds h (α q.1):=by
 intro q hq;obtain ⟨j,hj1,hj2⟩:=List.mem_filterMap.1 hq;rw[List.getElem?_take] at hj2;split at hj2
 ·cases e:ks[j]? with
  | none=>rw[e] at hj2;cases hj2
  | some r=>
   rw[e] at hj2;have:=zsH hj2;exact hf j q.1 q.2 (hb j (zCU hj1)) (by rw[e,this])
 cases hj2
theorem zkQ (h:i∈Region.ready .any l.toArray listed):∃ o,l[i]?=some o∧listed[i]?≠some true∧∀ j∈bnd o,listed[j]?=some true:=by
 unfold Region.ready at h;rw[List.mem_filter] at h;obtain ⟨hi1,hi2⟩:=h;have hil:i<l.length:=by simpa using hi1
 rw[Bool.and_eq_true] at hi2;obtain ⟨hi3,hi4⟩:=hi2;have hnl:listed.getD i true=false:=by simpa using hi3
 rw[List.getElem?_toArray,List.getElem?_eq_getElem hil] at hi4;simp only[Option.map_some,Option.getD_some] at hi4;rw[← Array.all_toList,List.all_eq_true] at hi4;refine ⟨_,List.getElem?_eq_getElem hil,fun e=>?_,fun j hj=>?_⟩
 ·simp[Array.getD_eq_getD_getElem?,e] at hnl
 obtain ⟨ed,h1,h2,rfl⟩:=mem_bnd.1 hj;have hx:=hi4 ed h1;rw[h2] at hx;simp only[Bool.not_true,Bool.false_or] at hx;cases e:listed[ed.on]? with
 | none=>simp[Array.getD_eq_getD_getElem?,e] at hx
 | some b=>simp[Array.getD_eq_getD_getElem?,e] at hx;rw[hx]
theorem zxA (hok:zsp n 0 l []=true) (hsz:listed.size=l.length) (hnil:Region.ready .any l.toArray listed=[]):∀ i,i<l.length→listed[i]?=some true:=by
 intro i
 induction i using Nat.strongRecOn with
 | _ i ih=>
  intro hi;cases e:listed[i]? with
  | none=>rw[Array.getElem?_eq_none_iff] at e;omega
  | some b=>
   cases b with
   | true=>rfl
   | false=>
    exfalso;have hmem:i∈Region.ready .any l.toArray listed:=by
     unfold Region.ready;rw[List.mem_filter];refine ⟨by simp[hi],?_⟩;have e1:listed.getD i true=false:=by simp[Array.getD_eq_getD_getElem?,e]
     simp only[e1,Bool.not_false,Bool.true_and];rw[List.getElem?_toArray,List.getElem?_eq_getElem hi];simp only[Option.map_some,Option.getD_some];rw[← Array.all_toList,List.all_eq_true];intro ed hed;have h4:=((zfU hok).1 i _ (List.getElem?_eq_getElem hi)).2;cases hb:Region.binds .any ed with
     | false=>rfl
     | true=>
      have:=h4 ed hed hb;have:=ih ed.on zU zU;simp[Array.getD_eq_getD_getElem?,this]
    rw[hnil] at hmem;cases hmem
theorem zpt {fuel: Nat} (hsz:listed.size=l.length) (hil:i<l.length) (hn:listed[i]?≠some true) (hu:unl l.length listed≤fuel+1):unl l.length (listed.setIfInBounds i true)≤fuel:=by
 have hlt:i<listed.size:=by omega
 have hf:listed[i]=false:=by
  cases e:listed[i] with
  | false=>rfl
  | true=>exact absurd (by rw[Array.getElem?_eq_getElem hlt,e]) hn
 have hnl:listed.getD i true=false:=by simp[Array.getD_eq_getD_getElem?,hlt,hf]
 have hpi:(!listed.getD i true)=true:=by rw[hnl];rfl
 have hqi:(!(listed.setIfInBounds i true).getD i true)=false:=by simp[Array.getD_eq_getD_getElem?,hlt]
 have:=zxx (l:=List.range l.length) List.nodup_range (by simpa using hil) (p:=fun j=>!listed.getD j true) (q:=fun j=>!(listed.setIfInBounds i true).getD j true) hpi hqi
  (fun j hj=>by simp only[Array.getD_eq_getD_getElem?];rw[Array.getElem?_setIfInBounds_ne (Ne.symm hj)])
 unfold unl at hu ⊢;omega
end
section
variable {P:Program} {n:Nat} {l:List Oper} {h0:Heap} {w0:World} {own0:Own} {hr:Heap} {er:Er} {dsts:List Nat} {σ:Env} {Q:Exit→Env→World→Prop} {ks:List (Nat×Kd)} {cx:List (Nat×Oper)}
theorem znM:∀ (ks:List (Nat×Kd)) (i:Nat),(zgu i ks).Pairwise (fun a b=>a.1<b.1)
 | [],_=>List.Pairwise.nil
 | (d,.al z)::r,i=>by
  rw[zgu,List.pairwise_cons];refine ⟨fun q hq=>?_,znM r (i+1)⟩;obtain ⟨j,d',z'⟩:=q;obtain ⟨k,e,_⟩:=znX.1 hq;show i<j;omega
 | (d,.flt p)::r,i=>by rw[zgu];exact znM r (i+1);simp
 | (d,.ch)::r,i=>by rw[zgu];exact znM r (i+1);simp
theorem zqM (sh:Shape n l ks cx er dsts) (hd:∀ (j:Nat) (o:Oper) (k:Kd) (d:Nat),l[j]?=some o→ks[j]?=some (d,k)→d=zfZ o) (hlen:l.length=ks.length) (hq:q∈zgu 0 ks):
  ∃ oj,l[q.1]?=some oj∧oj.dst=some q.2.1∧ks[q.1]?=some (q.2.1,.al q.2.2):=by
 obtain ⟨j,d,z⟩:=q;obtain ⟨k,e,hk⟩:=znX.1 hq;rw[Nat.zero_add] at e;subst e;obtain ⟨hjl,_⟩:=List.getElem?_eq_some_iff.1 hk;have hjo:l[j]?=some (l[j]'zU):=List.getElem?_eq_getElem zU;exact ⟨_,hjo,by rw[znZ sh.kd j _ d _ hjo hk (by simp),hd j _ _ _ hjo hk],hk⟩
theorem zye (sh:Shape n l ks cx er dsts) (hd:∀ (j:Nat) (o:Oper) (k:Kd) (d:Nat),l[j]?=some o→ks[j]?=some (d,k)→d=zfZ o) (hlen:l.length=ks.length) (hq:q∈zgu 0 ks) (hi:l[i]?=some o) (hne:q.1≠i):o.dst≠some q.2.1:=by
 obtain ⟨oj,h1,h2,_⟩:=zqM sh hd hlen hq;exact fun e=>(zfU sh.ok).2 q.1 i oj o _ h1 hi hne h2 e
theorem zuD (sh:Shape n l ks cx er dsts) (hd:∀ (j:Nat) (o:Oper) (k:Kd) (d:Nat),l[j]?=some o→ks[j]?=some (d,k)→d=zfZ o) (hlen:l.length=ks.length) (hi:l[i]?=some o) (hna:∀ d z,ks[i]?≠some (d,.al z)):
  (∀ az,(∀ q∈az,q∈zgu 0 ks)→zhO (listed.setIfInBounds i true) (updO α o.dst v) az=zhO listed α az)∧∀ q∈zgu 0 ks,(listed.setIfInBounds i true)[q.1]?=listed[q.1]?∧updO α o.dst v q.2.1=α q.2.1:=by
 have key:∀ q∈zgu 0 ks,(listed.setIfInBounds i true)[q.1]?=listed[q.1]?∧updO α o.dst v q.2.1=α q.2.1:=by
  intro q hq;have hne:q.1≠i:=by
   intro e;obtain ⟨_,_,_,h3⟩:=zqM sh hd hlen hq;rw[e] at h3;exact hna _ _ h3
  exact ⟨Array.getElem?_setIfInBounds_ne (Ne.symm hne),zkh (zye sh hd hlen hq hi hne)⟩
 refine ⟨fun az has=>?_,key⟩;unfold zhO;refine List.map_congr_left fun q hq=>?_;obtain ⟨h1,h2⟩:=key q (has q hq);rw[h1,h2]
theorem zvH {er:Er} {ks:List (Nat×Kd)}:∀ q∈zmp er ks,q∈zgu 0 ks:=fun _ h=>(mem_alsE.1 h).1
theorem zry {er:Er} {ks:List (Nat×Kd)}:∀ q∈ziL er ks,q∈zgu 0 ks:=fun _ h=>(mem_alsL.1 h).1
theorem zCj (sh:Shape n l ks cx er dsts) {k:Kd} (hk:ks[i]?=some (d,k)) (hne:k≠.ch):∀ q∈cx,q.1≠i:=by
 intro q hq e;have:q.1∈zoH 0 ks:=by rw[sh.ch];exact List.mem_map_of_mem hq
 obtain ⟨k',d',e',h'⟩:=zqu.1 this;rw[Nat.zero_add] at e';rw[← e',e,hk] at h';cases h';exact hne rfl
theorem zAz (sh:Shape n l ks cx er dsts) {q q':Nat×Oper} (hj:cx[j]?=some q) (hk:cx[k]?=some q') (hlt:j<k):q.1<q'.1:=by
 have aux:∀ m j (q q':Nat×Oper),cx[j]?=some q→cx[j+m+1]?=some q'→q.1<q'.1:=by
  intro m
  induction m with
  | zero=>
   intro j q q' h1 h2;have h3:=zmu sh.seq j q q' h1 h2;obtain ⟨e,he,hb,heq⟩:=mem_bnd.1 h3;have:=((zfU sh.ok).1 q'.1 q'.2 (sh.ops q' (List.mem_of_getElem? h2))).2 e he hb;omega
  | succ m ih=>
   intro j q q' h1 h2;obtain ⟨hlt,_⟩:=List.getElem?_eq_some_iff.1 h2;have h3:cx[j+1]?=some (cx[j+1]'zU):=List.getElem?_eq_getElem zU;have h4:=zmu sh.seq j q _ h1 h3;obtain ⟨e,he,hb,heq⟩:=mem_bnd.1 h4;have h5:=((zfU sh.ok).1 _ _ (sh.ops _ (List.mem_of_getElem? h3))).2 e he hb;have h6:=ih (j+1) _ q' h3 (by rw[← h2];congr 1;omega);omega
 obtain ⟨m,rfl⟩:∃ m,k=j+m+1:=⟨k-j-1,by omega⟩;exact aux m j q q' hj hk
theorem zBs (sh:Shape n l ks cx er dsts) (hd:∀ (j:Nat) (o:Oper) (k:Kd) (d:Nat),l[j]?=some o→ks[j]?=some (d,k)→d=zfZ o) (hlen:l.length=ks.length) {p:PF} (hi:l[i]?=some o) (hk:ks[i]?=some (d,.flt p)) (hnl:listed[i]?≠some true) (ha:Agr l dsts σ (listed.setIfInBounds i true) (updO α o.dst v)) (hle:Le hr h) (hf:FH ks listed α h) (hp:(Ph0 h0 w0 own0 er ks cx listed α h w∨PhP P n l h0 w0 er dsts σ Q ks cx listed α h w∨Ph1 P n l h0 w0 er dsts σ Q ks cx listed α h w)) (s:St h w h' w' []) (hv:p.holds h' v):Inv P n l h0 w0 own0 hr er dsts σ Q ks cx (listed.setIfInBounds i true) (updO α o.dst v) w':=by
 refine ⟨ha,h',hle.trans s.le,hf.step sh hd hlen hi s.le (fun d' p' e=>by rw[hk] at e;cases e;exact hv),?_⟩;obtain ⟨he,hes⟩:=zuD sh hd hlen (listed:=listed) (α:=α) (v:=v) hi (fun d z e=>by rw[hk] at e;cases e);have hcn:=zCj sh hk (by simp);have hcl:∀ q∈cx,(listed.setIfInBounds i true)[q.1]?=listed[q.1]?:=fun q hq=>Array.getElem?_setIfInBounds_ne (Ne.symm (hcn q hq))
 rcases hp with ⟨p1,p2,p3⟩|⟨k,A,B,kn,hb,q1,q2,q3,q4,q5,q6,q7,q8,q8',q9⟩|⟨k,own,kn,hb,q1,q2,q3,q4,q5,q6,q7,q8,q9⟩
 ·left;refine ⟨fun q hq=>by rw[hcl q hq];exact p1 q hq,by rw[he _ zvH,he _ zry];exact p2.call0 s,fun q hq hl=>?_⟩;obtain ⟨e1,e2⟩:=hes q hq;rw[e1] at hl;rw[e2];exact p3 q hq hl
 ·right;left;refine ⟨k,A,B,kn,hb,q1,fun j q hq=>by rw[hcl q (List.mem_of_getElem? hq)];exact q2 j q hq,q3,q4.trans s.le,by rw[he _ zry];exact q5.call0 s,?_,fun q hq=>?_,fun q hq=>zer (q8 q hq),fun q hq hl=>?_,fun j hj=>zer (q9 j hj)⟩
  ·rw[zpQ] at q6 ⊢;intro q hq;obtain ⟨j,oj,g1,g2,g3⟩:=q7 q hq;have hne:j≠i:=fun e=>hnl (e▸g1);rw[zkh (fun e=>(zfU sh.ok).2 j i oj o _ g2 hi hne g3 e)];exact q6 q hq
  ·obtain ⟨j,oj,g1,g2,g3⟩:=q7 q hq;exact ⟨j,oj,zer g1,g2,g3⟩
  ·obtain ⟨e1,e2⟩:=hes q (zry q hq);rw[e1] at hl;rw[e2];exact q8' q hq hl
 ·right;right;refine ⟨k,own,kn,hb,q1,fun j q hq=>by rw[hcl q (List.mem_of_getElem? hq)];exact q2 j q hq,q3,q4.trans s.le,q5.call0 s,?_,fun q hq=>?_,fun q hq=>zer (q8 q hq),fun j hj=>zer (q9 j hj)⟩
  ·rw[zpQ] at q6 ⊢;intro q hq;obtain ⟨j,oj,g1,g2,g3⟩:=q7 q hq;have hne:j≠i:=fun e=>hnl (e▸g1);rw[zkh (fun e=>(zfU sh.ok).2 j i oj o _ g2 hi hne g3 e)];exact q6 q hq
  ·obtain ⟨j,oj,g1,g2,g3⟩:=q7 q hq;exact ⟨j,oj,zer g1,g2,g3⟩
theorem zCI (sh:Shape n l ks cx er dsts) (hd:∀ (j:Nat) (o:Oper) (k:Kd) (d:Nat),l[j]?=some o→ks[j]?=some (d,k)→d=zfZ o) (hlen:l.length=ks.length) {z:Obj} (hsz:listed.size=l.length) (hi:l[i]?=some o) (hk:ks[i]?=some (d,.al z)) (hnl:listed[i]?≠some true) (ha:Agr l dsts σ (listed.setIfInBounds i true) (updO α o.dst (zjU w.heap.size))) (hle:Le hr h) (hf:FH ks listed α h) (hp:(Ph0 h0 w0 own0 er ks cx listed α h w∨PhP P n l h0 w0 er dsts σ Q ks cx listed α h w∨Ph1 P n l h0 w0 er dsts σ Q ks cx listed α h w)):
  Inv P n l h0 w0 own0 hr er dsts σ Q ks cx (listed.setIfInBounds i true) (updO α o.dst (zjU w.heap.size)) (w.alloc z):=by
 refine ⟨ha,h,hle,hf.step sh hd hlen hi (Le.refl h) (fun d' p' e=>by rw[hk] at e;cases e),?_⟩;have hmem:(i,d,z)∈zgu 0 ks:=znX.2 ⟨i,by omega,hk⟩;have hcn:=zCj sh hk (by simp);have hod:o.dst=some d:=by rw[znZ sh.kd i _ d _ hi hk (by simp),hd i _ _ _ hi hk]
 have hself:(listed.setIfInBounds i true)[i]?=some true:=by
  obtain ⟨hil,_⟩:=List.getElem?_eq_some_iff.1 hi;have:i<listed.size:=by omega
  simp[this]
 -- the entries of a part of the allocations in which this one is at p
 have hent:∀ (az:List (Nat×Nat×Obj)) (p:Nat),(∀ q∈az,q∈zgu 0 ks)→az.Pairwise (fun a b=>a.1<b.1)→az[p]?=some (i,d,z)→
   zhO (listed.setIfInBounds i true) (updO α o.dst (zjU w.heap.size)) az=(zhO listed α az).set p [(w.heap.size,z)]∧(zhO listed α az)[p]?=some []:=by
  intro az p hsub hpw hpm;refine ⟨?_,?_⟩
  ·apply List.ext_getElem?;intro k;unfold zhO;rw[List.getElem?_set,List.getElem?_map,List.length_map,List.getElem?_map]
   by_cases e:p=k
   ·subst e;obtain ⟨hlt,_⟩:=List.getElem?_eq_some_iff.1 hpm;rw[if_pos rfl,if_pos hlt,hpm];simp only[Option.map_some,hself,if_true,hod,updO,zmb];rfl
   ·rw[if_neg e];cases eq:az[k]? with
    | none=>rfl
    | some q=>
     have hne:q.1≠i:=by
      intro e';obtain ⟨a1,a2⟩:=List.getElem?_eq_some_iff.1 hpm;obtain ⟨b1,b2⟩:=List.getElem?_eq_some_iff.1 eq
      rcases Nat.lt_or_gt_of_ne e with h1|h1
      ·have:=List.pairwise_iff_getElem.1 hpw p k a1 b1 h1;rw[a2,b2] at this;omega
      ·have:=List.pairwise_iff_getElem.1 hpw k p b1 a1 h1;rw[a2,b2] at this;omega
     have hq:=hsub _ (List.mem_of_getElem? eq);simp only[Option.map_some];rw[Array.getElem?_setIfInBounds_ne (Ne.symm hne),zkh (zye sh hd hlen hq hi hne)]
  ·unfold zhO;rw[List.getElem?_map,hpm];simp[hnl]
 have hsame:∀ (az:List (Nat×Nat×Obj)),(∀ q∈az,q∈zgu 0 ks)→(∀ q∈az,q.1≠i)→zhO (listed.setIfInBounds i true) (updO α o.dst (zjU w.heap.size)) az=zhO listed α az:=by
  intro az hsub hne;unfold zhO;refine List.map_congr_left fun q hq=>?_;rw[Array.getElem?_setIfInBounds_ne (Ne.symm (hne q hq)),zkh (zye sh hd hlen (hsub q hq) hi (hne q hq))]
 have hptr:∀ q∈zgu 0 ks,(listed[q.1]?=some true→α q.2.1=zjU (zna (α q.2.1)))→(listed.setIfInBounds i true)[q.1]?=some true→updO α o.dst (zjU w.heap.size) q.2.1=zjU (zna (updO α o.dst (zjU w.heap.size) q.2.1)):=by
  intro q hq p3 hl
  by_cases e:q.1=i
  ·have hq2:q.2.1=d:=by
    obtain ⟨oj,g1,g2,g3⟩:=zqM sh hd hlen hq;rw[e,hk] at g3;cases g3;rfl
   rw[hq2,hod];simp only[updO,zmb];rfl
  ·rw[Array.getElem?_setIfInBounds_ne (Ne.symm e)] at hl;rw[zkh (zye sh hd hlen hq hi e)];exact p3 hl
 have hpwE:(zmp er ks).Pairwise (fun a b=>a.1<b.1):=(znM ks 0).sublist List.filter_sublist;have hpwL:(ziL er ks).Pairwise (fun a b=>a.1<b.1):=(znM ks 0).sublist List.filter_sublist
 rcases hp with ⟨p1,p2,p3⟩|⟨k,A,B,kn,hb,q1,q2,q3,q4,q5,q6,q7,q8,q8',q9⟩|⟨k,own,kn,hb,q1,q2,q3,q4,q5,q6,q7,q8,q9⟩
 ·left;refine ⟨fun q hq=>by rw[Array.getElem?_setIfInBounds_ne (Ne.symm (hcn q hq))];exact p1 q hq,?_,fun q hq hl=>hptr q hq (p3 q hq) hl⟩;cases hlt:inL er.2.2.2.1 i with
  | false=>
   obtain ⟨p,hpm⟩:=List.mem_iff_getElem?.1 (mem_alsE.2 ⟨hmem,hlt⟩);obtain ⟨e1,e2⟩:=hent _ p zvH hpwE hpm;have hslot:(own0++zhO listed α (zmp er ks)++zhO listed α (ziL er ks))[own0.length+p]?=some []:=by
    rw[List.append_assoc,List.getElem?_append_right zU,Nat.add_sub_cancel_left];obtain ⟨h1,_⟩:=List.getElem?_eq_some_iff.1 e2;rw[List.getElem?_append_left h1];exact e2
   have hst:=p2.insert hslot z;rw[List.append_assoc,List.set_append_right _ _ zU,Nat.add_sub_cancel_left] at hst;rw[List.set_append_left _ _ (List.getElem?_eq_some_iff.1 e2).1] at hst;rw[e1,hsame _ zry (fun q hq e=>by rw[← e,(mem_alsL.1 hq).2] at hlt;cases hlt),List.append_assoc];exact hst
  | true=>
   obtain ⟨p,hpm⟩:=List.mem_iff_getElem?.1 (mem_alsL.2 ⟨hmem,hlt⟩);obtain ⟨e1,e2⟩:=hent _ p zry hpwL hpm;have hslot:((own0++zhO listed α (zmp er ks))++zhO listed α (ziL er ks))[(own0++zhO listed α (zmp er ks)).length+p]?=some []:=by
    rw[List.getElem?_append_right zU,Nat.add_sub_cancel_left];exact e2
   have hst:=p2.insert hslot z;rw[List.set_append_right _ _ zU,Nat.add_sub_cancel_left] at hst;rw[e1,hsame _ zvH (fun q hq e=>by rw[← e,(mem_alsE.1 hq).2] at hlt;cases hlt)];exact hst
 ·right;left;have hlt:inL er.2.2.2.1 i=true:=by
   cases hlt:inL er.2.2.2.1 i with
   | true=>rfl
   | false=>exact absurd (q8 _ (mem_alsE.2 ⟨hmem,hlt⟩)) hnl
  obtain ⟨p,hpm⟩:=List.mem_iff_getElem?.1 (mem_alsL.2 ⟨hmem,hlt⟩);obtain ⟨e1,e2⟩:=hent _ p zry hpwL hpm;have hslot:(A++zhO listed α (ziL er ks)++B)[A.length+p]?=some []:=by
   rw[List.append_assoc,List.getElem?_append_right zU,Nat.add_sub_cancel_left];obtain ⟨h1,_⟩:=List.getElem?_eq_some_iff.1 e2;rw[List.getElem?_append_left h1];exact e2
  have hst:=q5.insert hslot z;rw[List.append_assoc,List.set_append_right _ _ zU,Nat.add_sub_cancel_left,List.set_append_left _ _ (List.getElem?_eq_some_iff.1 e2).1] at hst;refine ⟨k,A,B,kn,hb,q1,fun j q hq=>by rw[Array.getElem?_setIfInBounds_ne (Ne.symm (hcn q (List.mem_of_getElem? hq)))];exact q2 j q hq,q3,q4,by rw[e1,List.append_assoc];exact hst,?_,fun q hq=>?_,fun q hq=>zer (q8 q hq),fun q hq hl=>hptr q (zry q hq) (q8' q hq) hl,fun j hj=>zer (q9 j hj)⟩
  ·rw[zpQ] at q6 ⊢;intro q hq;obtain ⟨j,oj,g1,g2,g3⟩:=q7 q hq;have hne:j≠i:=fun e=>hnl (e▸g1);rw[zkh (fun e=>(zfU sh.ok).2 j i oj o _ g2 hi hne g3 e)];exact q6 q hq
  ·obtain ⟨j,oj,g1,g2,g3⟩:=q7 q hq;exact ⟨j,oj,zer g1,g2,g3⟩
 ·exact absurd (q8 _ hmem) hnl
theorem zBt (sh:Shape n l ks cx er dsts) (hd:∀ (j:Nat) (o:Oper) (k:Kd) (d:Nat),l[j]?=some o→ks[j]?=some (d,k)→d=zfZ o) (hlen:l.length=ks.length) (hstart:zko P n l h0 w0 hr dsts σ Q ks (cx.drop er.2.2.2.2) (cx.take er.2.2.2.2) (ziL er ks) (zmp er ks) own0 []) (hi:l[i]?=some o) (hk:ks[i]?=some (d,.ch)) (hnl:listed[i]?≠some true) (hready:∀ j∈bnd o,listed[j]?=some true) (hT:∀ j∈zBI l o,listed[j]?=some true) (hle:Le hr h) (hp:(Ph0 h0 w0 own0 er ks cx listed α h w∨PhP P n l h0 w0 er dsts σ Q ks cx listed α h w∨Ph1 P n l h0 w0 er dsts σ Q ks cx listed α h w)):
  ∃ k,cx[k]?=some (i,o)∧(∀ (j:Nat) (q:Nat×Oper),cx[j]?=some q→(listed[q.1]?=some true↔j<k))∧(∀ i,inL er.1 i=true→listed[i]?=some true)∧∃ kn hb,Le hb h∧Has α kn∧(∀ q∈kn,∃ (i:Nat) (o:Oper),listed[i]?=some true∧l[i]?=some o∧o.dst=some q.1)∧
  ((k<er.2.2.2.2∧∃ A B,zqQ P n l h0 w0 dsts σ Q ks (cx.drop er.2.2.2.2) (ziL er ks) ((cx.take er.2.2.2.2).drop k) A B kn hb∧St h0 w0 h w (A++zhO listed α (ziL er ks)++B)∧(∀ q∈zmp er ks,listed[q.1]?=some true)∧(∀ q∈ziL er ks,listed[q.1]?=some true→α q.2.1=zjU (zna (α q.2.1))))∨
   (er.2.2.2.2≤k∧∃ own,zlO P n l h0 w0 dsts σ Q ks (cx.drop k) own kn hb∧St h0 w0 h w own∧(∀ q∈zgu 0 ks,listed[q.1]?=some true))):=by
 have hmem:i∈cx.map (·.1):=by rw[← sh.ch];exact zqu.2 ⟨i,d,by omega,hk⟩
 obtain ⟨q,hq,e⟩:=List.mem_map.1 hmem;subst e;obtain ⟨k,hkq⟩:=List.mem_iff_getElem?.1 hq;have hoq:=sh.ops q hq;rw[hi] at hoq;have hoq:q.2=o:=by cases hoq;rfl
 subst hoq;have hprev:∀ j q',cx[j]?=some q'→j+1=k→listed[q'.1]?=some true:=by
  intro j q' hj e;subst e;exact hready _ (zmu sh.seq j q' q hj hkq)
 -- where the chain stands
 have hstand:∀ k1,(∀ (j:Nat) (q:Nat×Oper),cx[j]?=some q→(listed[q.1]?=some true↔j<k1))→k=k1:=by
  intro k1 q2;have h1:¬ k<k1:=fun h=>hnl ((q2 k q hkq).2 h)
  rcases Nat.lt_or_ge k1 k with h2|h2
  ·exfalso;obtain ⟨hlt,_⟩:=List.getElem?_eq_some_iff.1 hkq;have h3:cx[k-1]?=some (cx[k-1]'zU):=List.getElem?_eq_getElem zU;have:=(q2 _ _ h3).1 (hprev _ _ h3 zU);omega
  ·omega
 -- the late allocations are claimed
 have hclaim:∀ {A B:Own} {kn:List (Nat×Value)} {hb:Heap},k=er.2.2.2.2→zts P n l h0 w0 dsts σ Q ks (cx.drop er.2.2.2.2) (ziL er ks) A B kn hb→Has α kn→(∀ q∈kn,∃ (i:Nat) (o:Oper),listed[i]?=some true∧l[i]?=some o∧o.dst=some q.1)→(∀ q∈ziL er ks,listed[q.1]?=some true→α q.2.1=zjU (zna (α q.2.1)))→
   (∀ q∈ziL er ks,listed[q.1]?=some true)∧∃ kn',zlO P n l h0 w0 dsts σ Q ks (cx.drop k) (A++zhO listed α (ziL er ks)++B) kn' hb∧Has α kn'∧(∀ q∈kn',∃ (i:Nat) (o:Oper),listed[i]?=some true∧l[i]?=some o∧o.dst=some q.1):=by
  intro A B kn hb hkc hl hhas hkn hptr;obtain ⟨hlt,hget⟩:=List.getElem?_eq_some_iff.1 hkq;have hcl:=sh.cl;rw[zpV,← hkc,List.drop_eq_getElem_cons hlt,hget] at hcl;simp only[List.all_eq_true] at hcl;have hlist:∀ a∈ziL er ks,listed[a.1]?=some true:=fun a ha=>hready _ (zhJ.1 (hcl _ (zhJ.1 (mem_alsL.1 ha).2)));obtain ⟨kn',c1,c2,c3⟩:=zwq hl (fun a ha=>⟨hlist a ha,hptr a ha (hlist a ha)⟩) hhas;refine ⟨hlist,kn',by rw[hkc];exact c1,c2,fun a ha=>?_⟩
  rcases c3 a ha with h|⟨b,hb,e⟩
  ·exact hkn a h
  ·obtain ⟨oj,g1,g2,_⟩:=zqM sh hd hlen (zry b hb);exact ⟨b.1,oj,hlist b hb,g1,by rw[g2,e]⟩
 rcases hp with ⟨p1,p2,p3⟩|⟨k1,A,B,kn,hb,q1,q2,q3,q4,q5,q6,q7,q8,q8',q9⟩|⟨k1,own,kn,hb,q1,q2,q3,q4,q5,q6,q7,q8,q9⟩
 ·have hk0:k=0:=by
   cases k with
   | zero=>rfl
   | succ k=>
    obtain ⟨hlt,_⟩:=List.getElem?_eq_some_iff.1 hkq;have h3:cx[k]?=some (cx[k]'zU):=List.getElem?_eq_getElem zU;exact absurd (hprev k _ h3 rfl) (p1 _ (List.mem_of_getElem? h3))
  subst hk0;have hfst:=sh.fst;have hcx:∃ r,cx=q::r:=by
   cases hcx:cx with
   | nil=>rw[hcx] at hkq;simp at hkq
   | cons q0 r=>rw[hcx] at hkq;simp at hkq;subst hkq;exact ⟨r,rfl⟩
  obtain ⟨r,hcx⟩:=hcx;rw[hcx] at hfst;simp only[zvf,Bool.and_eq_true,List.all_eq_true] at hfst;have hal:∀ a∈zmp er ks,listed[a.1]?=some true:=fun a ha=>hready _ (zhJ.1 (hfst.2 a ha));have her:∀ j,inL er.1 j=true→listed[j]?=some true:=fun j hj=>hT _ (zhJ.1 (hfst.1 j (zhJ.1 hj)));have hj0:∀ (j:Nat) (q:Nat×Oper),cx[j]?=some q→(listed[q.1]?=some true↔j<0):=by
   intro j q' hj;constructor
   ·intro hl;exact absurd hl (p1 q' (List.mem_of_getElem? hj))
   ·intro hl;omega
  obtain ⟨kn,c1,c2,c3⟩:=zqp hstart (fun a ha=>⟨hal a ha,p3 a (zvH a ha) (hal a ha)⟩) trivial;have c4:∀ q∈kn,∃ (i:Nat) (o:Oper),listed[i]?=some true∧l[i]?=some o∧o.dst=some q.1:=by
   intro a ha
   rcases c3 a ha with h|⟨b,hb,e⟩
   ·cases h
   ·obtain ⟨oj,g1,g2,_⟩:=zqM sh hd hlen (zvH b hb);exact ⟨b.1,oj,hal b hb,g1,by rw[g2,e]⟩
  rcases Nat.eq_zero_or_pos er.2.2.2.2 with hz|hz
  ·rw[hz,List.take_zero] at c1;obtain ⟨h1,kn',h2,h3,h4⟩:=hclaim hz.symm (by rw[hz];exact c1) c2 c4 (fun a ha=>p3 a (zry a ha));refine ⟨0,hkq,hj0,her,kn',hr,hle,h3,h4,.inr ⟨by omega,_,h2,by simpa [List.append_assoc] using p2,fun a ha=>?_⟩⟩;cases hlt:inL er.2.2.2.1 a.1 with
   | true=>exact h1 a (mem_alsL.2 ⟨ha,hlt⟩)
   | false=>exact hal a (mem_alsE.2 ⟨ha,hlt⟩)
  ·exact ⟨0,hkq,hj0,her,kn,hr,hle,c2,c4,.inl ⟨hz,_,[],by simpa using c1,by simpa [List.append_assoc] using p2,hal,fun a ha=>p3 a (zry a ha)⟩⟩
 ·obtain rfl:=hstand k1 q2
  rcases Nat.lt_or_ge k er.2.2.2.2 with hz|hz
  ·exact ⟨k,hkq,q2,q9,kn,hb,q4,q6,q7,.inl ⟨hz,A,B,q3,q5,q8,q8'⟩⟩
  ·have hke:k=er.2.2.2.2:=by omega
   have hnil:(cx.take er.2.2.2.2).drop k=[]:=by
    rw[List.drop_eq_nil_iff,List.length_take];omega
   rw[hnil] at q3;obtain ⟨h1,kn',h2,h3,h4⟩:=hclaim hke q3 q6 q7 q8';refine ⟨k,hkq,q2,q9,kn',hb,q4,h3,h4,.inr ⟨hz,_,h2,q5,fun a ha=>?_⟩⟩;cases hlt:inL er.2.2.2.1 a.1 with
   | true=>exact h1 a (mem_alsL.2 ⟨ha,hlt⟩)
   | false=>exact q8 a (mem_alsE.2 ⟨ha,hlt⟩)
 ·obtain rfl:=hstand k1 q2;exact ⟨k,hkq,q2,q9,kn,hb,q4,q6,q7,.inr ⟨by omega,own,q3,q5,q8⟩⟩
theorem zxT (sh:Shape n l ks cx er dsts) (hd:∀ (j:Nat) (o:Oper) (k:Kd) (d:Nat),l[j]?=some o→ks[j]?=some (d,k)→d=zfZ o) (hlen:l.length=ks.length) {kn:List (Nat×Value)} (hsz:listed.size=l.length) (hi:l[i]?=some o) (hk:ks[i]?=some (d,.ch)) (hnl:listed[i]?≠some true) (ha:Agr l dsts σ (listed.setIfInBounds i true) (updO α o.dst v)) (hle:Le hr h) (hf:FH ks listed α h) (hkq:cx[k]?=some (i,o)) (q2:∀ (j:Nat) (q:Nat×Oper),cx[j]?=some q→(listed[q.1]?=some true↔j<k)) (q6:Has α kn) (q7:∀ q∈kn,∃ (i:Nat) (o:Oper),listed[i]?=some true∧l[i]?=some o∧o.dst=some q.1) (q9:∀ i,inL er.1 i=true→listed[i]?=some true) (hll:Le h h') (hc:(k<er.2.2.2.2∧∃ A B,zqQ P n l h0 w0 dsts σ Q ks (cx.drop er.2.2.2.2) (ziL er ks) ((cx.take er.2.2.2.2).drop (k+1)) A B (zrm o v kn) h'∧St h0 w0 h' w' (A++zhO listed α (ziL er ks)++B)∧(∀ q∈zmp er ks,listed[q.1]?=some true)∧(∀ q∈ziL er ks,listed[q.1]?=some true→α q.2.1=zjU (zna (α q.2.1))))∨
   (er.2.2.2.2≤k∧∃ own,zlO P n l h0 w0 dsts σ Q ks (cx.drop (k+1)) own (zrm o v kn) h'∧St h0 w0 h' w' own∧(∀ q∈zgu 0 ks,listed[q.1]?=some true))):
  Inv P n l h0 w0 own0 hr er dsts σ Q ks cx (listed.setIfInBounds i true) (updO α o.dst v) w':=by
 have hself:(listed.setIfInBounds i true)[i]?=some true:=by
  obtain ⟨hil,_⟩:=List.getElem?_eq_some_iff.1 hi;have:i<listed.size:=by omega
  simp[this]
 have r2:∀ (j:Nat) (q:Nat×Oper),cx[j]?=some q→((listed.setIfInBounds i true)[q.1]?=some true↔j<k+1):=by
  intro j q hj
  by_cases e:q.1=i
  ·have:j=k:=by
    rcases Nat.lt_trichotomy j k with h1|h1|h1
    ·have:=zAz sh hj hkq h1;simp at this;omega
    ·exact h1
    ·have:=zAz sh hkq hj h1;simp at this;omega
   subst this;rw[e];exact ⟨fun _=>by omega,fun _=>hself⟩
  ·rw[Array.getElem?_setIfInBounds_ne (Ne.symm e),q2 j q hj];constructor
   ·intro h1;omega
   ·intro h1
    rcases Nat.lt_or_ge j k with h2|h2
    ·exact h2
    ·have:j=k:=by omega
     subst this;rw[hkq] at hj;cases hj;exact absurd rfl e
 have r6:Has (updO α o.dst v) (zrm o v kn):=by
  have hold:Has (updO α o.dst v) kn:=by
   rw[zpQ] at q6 ⊢;intro q hq;obtain ⟨j,oj,g1,g2,g3⟩:=q7 q hq;have hne:j≠i:=fun e=>hnl (e▸g1);rw[zkh (fun e=>(zfU sh.ok).2 j i oj o _ g2 hi hne g3 e)];exact q6 q hq
  unfold zrm;cases e:o.dst with
  | none=>rw[e] at hold;exact hold
  | some t=>rw[e] at hold;exact ⟨zmb _ _ _,hold⟩
 have r7:∀ q∈zrm o v kn,∃ (j:Nat) (o:Oper),(listed.setIfInBounds i true)[j]?=some true∧l[j]?=some o∧o.dst=some q.1:=by
  intro q hq;have hcase:(o.dst=some q.1)∨q∈kn:=by
   unfold zrm at hq;cases e:o.dst with
   | none=>rw[e] at hq;exact .inr hq
   | some t=>
    rw[e] at hq
    rcases List.mem_cons.1 hq with rfl|h
    ·exact .inl rfl
    ·exact .inr h
  rcases hcase with h|h
  ·exact ⟨i,o,hself,hi,h⟩
  ·obtain ⟨j,oj,g1,g2,g3⟩:=q7 q h;exact ⟨j,oj,zer g1,g2,g3⟩
 refine ⟨ha,h',hle.trans hll,hf.step sh hd hlen hi hll (fun d' p' e=>by rw[hk] at e;cases e),?_⟩;obtain ⟨he,hes⟩:=zuD sh hd hlen (listed:=listed) (α:=α) (v:=v) hi (fun d z e=>by rw[hk] at e;cases e)
 rcases hc with ⟨hz,A,B,c1,c2,c3,c4⟩|⟨hz,own,c1,c2,c3⟩
 ·exact .inr (.inl ⟨k+1,A,B,_,h',⟨by omega,by omega⟩,r2,c1,Le.refl _,by rw[he _ zry];exact c2,r6,r7,fun q hq=>zer (c3 q hq),fun q hq hl=>by obtain ⟨e1,e2⟩:=hes q (zry q hq);rw[e1] at hl;rw[e2];exact c4 q hq hl,fun j hj=>zer (q9 j hj)⟩)
 ·exact .inr (.inr ⟨k+1,own,_,h',⟨by omega,by omega⟩,r2,c1,Le.refl _,c2,r6,r7,fun q hq=>zer (c3 q hq),fun j hj=>zer (q9 j hj)⟩)
end
section
variable {P:Program} {n:Nat} {l:List Oper} {h0:Heap} {w0:World} {own0:Own} {hr:Heap} {er:Er} {dsts:List Nat} {σ:Env} {Q:Exit→Env→World→Prop} {ks:List (Nat×Kd)} {cx:List (Nat×Oper)}
theorem zCL (hok:zsp n 0 l []=true) (hi:l[i]?=some o):zgM n o.dst=true:=by
 cases e:o.dst with
 | none=>rfl
 | some d=>exact Nat.ble_eq_true_of_le (((zfU hok).1 i o hi).1 d e).1
theorem drawn (sh:Shape n l ks cx er dsts) (hops:Hops P n l h0 w0 own0 hr er dsts σ [] l ks) (hstart:zko P n l h0 w0 hr dsts σ Q ks (cx.drop er.2.2.2.2) (cx.take er.2.2.2.2) (ziL er ks) (zmp er ks) own0 []):
  ∀ (fuel:Nat) (listed:Array Bool) (a:Act) (α:Env) (w:World),listed.size=l.length→unl l.length listed≤fuel→Fits n a α→Inv P n l h0 w0 own0 hr er dsts σ Q ks cx listed α w→
   wpAnyIn Fence.wide 0 P .any l.toArray (fun e a' w'=>∃ σ',Fits n a' σ'∧Q e σ' w') fuel listed a w:=by
 obtain ⟨hlen,hget⟩:=hops.get;have hd:∀ (j:Nat) (o:Oper) (k:Kd) (d:Nat),l[j]?=some o→ks[j]?=some (d,k)→d=zfZ o:=by
  intro j o k d h1 h2;obtain ⟨k',h3,_⟩:=hget j o h1;rw[h2] at h3;cases h3;rfl
 have fin:∀ (listed:Array Bool) (a:Act) (α:Env) (w:World),listed.size=l.length→Region.ready .any l.toArray listed=[]→Fits n a α→Inv P n l h0 w0 own0 hr er dsts σ Q ks cx listed α w→∃ σ',Fits n a σ'∧Q .normal σ' w:=by
  intro listed a α w hsz hnil hfit hinv;have hall:=zxA sh.ok hsz hnil;have hcl:∀ q∈cx,listed[q.1]?=some true:=fun q hq=>hall _ (by
   obtain ⟨h,_⟩:=List.getElem?_eq_some_iff.1 (sh.ops q hq);exact h)
  obtain ⟨hag,h,hle,hf,hp⟩:=hinv;have hfl:∀ q∈ks.filterMap zpS,q.2.holds h (α q.1):=by
   intro q hq;obtain ⟨r,hr1,hr2⟩:=List.mem_filterMap.1 hq;obtain ⟨i,hi⟩:=List.mem_iff_getElem?.1 hr1;have e:=zsH hr2;obtain ⟨hlt,_⟩:=List.getElem?_eq_some_iff.1 hi;exact hf i q.1 q.2 (hall i zU) (by rw[hi,e])
  have hdone:∃ own kn hb,zlO P n l h0 w0 dsts σ Q ks [] own kn hb∧Le hb h∧St h0 w0 h w own∧Has α kn:=by
   rcases hp with ⟨p1,p2,p3⟩|⟨k,A,B,kn,hb,q1,q2,q3,q4,q5,q6,q7,q8,q8',q9⟩|⟨k,own,kn,hb,q1,q2,q3,q4,q5,q6,q7,q8,q9⟩
   ·have hcx:cx=[]:=by
     cases e:cx with
     | nil=>rfl
     | cons q r=>exact absurd (hcl q (by rw[e];exact List.mem_cons_self ..)) (p1 q (by rw[e];exact List.mem_cons_self ..))
    have hal:∀ a∈zgu 0 ks,listed[a.1]?=some true:=fun a ha=>by
     obtain ⟨oj,g1,_⟩:=zqM sh hd hlen ha;obtain ⟨h,_⟩:=List.getElem?_eq_some_iff.1 g1;exact hall _ h
    have hcl2:=sh.cl;rw[zpV,hcx,List.drop_nil] at hcl2;simp only[Bool.and_eq_true,List.isEmpty_iff] at hcl2;have hL:ziL er ks=[]:=by rw[ziL,hcl2.1];simp[inL]
    obtain ⟨kn,c1,c2,c3⟩:=zqp hstart (fun a ha=>⟨hal a (zvH a ha),p3 a (zvH a ha) (hal a (zvH a ha))⟩) trivial;rw[hcx,hL,List.drop_nil,List.take_nil] at c1;rw[hL] at p2;exact ⟨_,kn,hr,c1,hle,by simpa [zCh,zhO] using p2,c2⟩
   ·exfalso;obtain ⟨hk0,hk1⟩:=q1;have hcl2:=sh.cl;unfold zpV at hcl2;have hlen2:er.2.2.2.2<cx.length:=by
     rcases Nat.lt_or_ge er.2.2.2.2 cx.length with h|h
     ·exact h
     ·rw[List.drop_eq_nil_of_le h] at hcl2;simp only[Bool.and_eq_true] at hcl2;have:=Nat.eq_of_beq_eq_true hcl2.2;omega
    have:=(q2 er.2.2.2.2 _ (List.getElem?_eq_getElem hlen2)).1 (hcl _ (List.getElem_mem hlen2));omega
   ·have hk:cx.drop k=[]:=by
     rw[List.drop_eq_nil_iff]
     rcases Nat.lt_or_ge k cx.length with h|h
     ·exact absurd ((q2 k _ (List.getElem?_eq_getElem h)).1 (hcl _ (List.getElem_mem h))) (Nat.lt_irrefl k)
     ·exact h
    rw[hk] at q3;exact ⟨own,kn,hb,q3,q4,q5,q6⟩
  obtain ⟨own,kn,hb,c1,c2,c3,c4⟩:=hdone;obtain ⟨vs,h1,h2⟩:=zbk.use (c1 h w α c2 c3) hfl;rw[zst hag.1,zku h2,zku c4] at h1;exact ⟨α,hfit,h1⟩
 intro fuel
 induction fuel with
 | zero=>
  intro listed a α w hsz hu hfit hinv;have hnil:Region.ready .any l.toArray listed=[]:=by
   unfold Region.ready;rw[List.filter_eq_nil_iff];intro i hi;have hu0:unl l.length listed=0:=by omega
   unfold unl at hu0;rw[List.countP_eq_zero] at hu0;have:=hu0 i (by simpa using hi);simp only[Bool.not_eq_true',Bool.not_eq_false] at this;simp[this]
  exact ⟨hnil,fin listed a α w hsz hnil hfit hinv⟩
 | succ fuel ih=>
  intro listed a α w hsz hu hfit hinv;refine ⟨fun hnil=>fin listed a α w hsz hnil hfit hinv,fun i hi=>?_⟩;obtain ⟨o,hio,hnl,hready⟩:=zkQ hi;obtain ⟨hil,_⟩:=List.getElem?_eq_some_iff.1 hio;obtain ⟨k,hk,hflt,hal⟩:=hget i o hio;obtain ⟨hag,h,hle,hf,hp⟩:=hinv;have hdo:=zCL sh.ok hio;have next:∀ (v:Value) (w':World),Inv P n l h0 w0 own0 hr er dsts σ Q ks cx (listed.setIfInBounds i true) (updO α o.dst v) w'→
    wpAnyIn Fence.wide 0 P .any l.toArray (fun e a' w'=>∃ σ',Fits n a' σ'∧Q e σ' w') fuel (listed.setIfInBounds i true) (a.put o.dst v) w':=fun v w' hinv'=>
   ih _ _ _ w' (by simpa using hsz) (zpt hsz hil hnl hu) (hfit.put hdo v) hinv'
  have hev:a.eval=ev α:=hfit.eval;unfold wpOpIn;rw[List.getElem?_toArray,hio];simp only[];cases k with
  | flt p=>
   have hop:=hflt p rfl;rw[List.length_nil,Nat.zero_add,List.nil_append] at hop;have hsub:Sub h w:=by
    rcases hp with ⟨_,p2,_⟩|⟨_,_,_,_,_,_,_,_,_,q5,_⟩|⟨_,_,_,_,_,_,_,_,q5,_⟩
    ·exact p2.sub
    ·exact q5.sub
    ·exact q5.sub
   have her:inL er.1 i=true→St h0 w0 h w own0:=by
    intro hin
    rcases hp with ⟨_,p2,_⟩|⟨_,_,_,_,_,_,_,_,_,_,_,_,_,_,q9⟩|⟨_,_,_,_,_,_,_,_,_,_,_,_,q9⟩
    ·rw[List.append_assoc] at p2;have:=p2.take own0.length;rwa [List.take_left'] at this;rfl
    ·exact absurd (q9 i hin) hnl
    ·exact absurd (q9 i hin) hnl
   have hag':zfj (znb er dsts i) α σ:=by
    unfold znb
    by_cases hin:inL er.2.2.1 i=true
    ·rw[if_pos hin];intro t ht
     by_cases h1:inL dsts t=true
     ·by_cases h2:inL er.2.1 t=true
      ·-- what turns t is not there yet
       have ht':t∈l.filterMap (·.dst):=by rw[sh.ds];exact zhJ.1 h1
       obtain ⟨o',ho',hd'⟩:=List.mem_filterMap.1 ht';obtain ⟨j,hj⟩:=List.mem_iff_getElem?.1 ho';refine hag.2.1 j o' t hj hd' fun hlj=>hnl ?_;exact hag.2.2 j o' hj hlj i (zwr sh.late ho' hd' h2 hin)
      ·have:inL (dsts.filter fun d=>!inL er.2.1 d) t=true:=zhJ.2 (List.mem_filter.2 ⟨zhJ.1 h1,by simpa using h2⟩);rw[this] at ht;cases ht
     ·exact hag.1 t (by simpa using h1)
    ·rw[if_neg hin];exact hag.1
   obtain ⟨vs,hrun,hhas⟩:=zbk.use (hop h w α hle hsub her) (zuF hf hready);rw[zst hag',zku hhas] at hrun;refine zto hrun hfit ?_;rintro a' σ' w' hf' ⟨v,h',rfl,s,hh⟩;exact ih _ _ _ w' (by simpa using hsz) (zpt hsz hil hnl hu) hf' (zBs sh hd hlen hio hk hnl (zoc sh hsz hio hready hag) hle hf hp s hh)
  | al z=>
   obtain ⟨hg,hrun⟩:=hal z rfl;have hw:Region.wanted o (yielded l.toArray a.tmps)=true:=by simp[Region.wanted,hg]
   rw[if_pos hw];refine ⟨fun _ _=>trivial,?_⟩;show o.uponIn Fence.wide 0 P a _ _ ((execOp a.eval o).run P w);rw[hev,hrun];exact next _ _ (zCI sh hd hlen hsz hio hk hnl (zoc sh hsz hio hready hag) hle hf hp)
  | ch=>
   obtain ⟨k,hkq,q2,q9,kn,hb,q4,q6,q7,hcase⟩:=zBt sh hd hlen hstart hio hk hnl hready (zAF hsz hag.2.2 hready) hle hp;obtain ⟨hlt,hkq'⟩:=List.getElem?_eq_some_iff.1 hkq;have hdeps:∀ q∈zsM ks o,q.2.holds h (α q.1):=by
    have:=zuF (m:=ks.length) hf hready;rwa [List.take_length] at this
   rcases hcase with ⟨hz,A,B,q3,q5,q8,q8'⟩|⟨hz,own,q3,q5,q8⟩
   ·have hlt2:k<(cx.take er.2.2.2.2).length:=by rw[List.length_take];omega
    rw[List.drop_eq_getElem_cons hlt2,List.getElem_take,hkq'] at q3;obtain ⟨vs,hrun,hhas⟩:=zbk.use (q3 h w α (zhO listed α (ziL er ks)) (by simp[zhO]) q4 q5) hdeps;rw[zst hag.1,zku hhas,zku q6] at hrun;refine zto hrun hfit ?_;rintro a' σ' w' hf' ⟨v,rfl,h',A',B',e1,e2,e3⟩;exact ih _ _ _ w' (by simpa using hsz) (zpt hsz hil hnl hu) hf' (zxT sh hd hlen hsz hio hk hnl (zoc sh hsz hio hready hag) hle hf hkq q2 q6 q7 q9 e1 (.inl ⟨hz,A',B',e3,e2,q8,q8'⟩))
   ·rw[List.drop_eq_getElem_cons hlt,hkq'] at q3;obtain ⟨vs,hrun,hhas⟩:=zbk.use (q3 h w α q4 q5) hdeps;rw[zst hag.1,zku hhas,zku q6] at hrun;refine zto hrun hfit ?_;rintro a' σ' w' hf' ⟨v,rfl,h',own',e1,e2,e3⟩;exact ih _ _ _ w' (by simpa using hsz) (zpt hsz hil hnl hu) hf' (zxT sh hd hlen hsz hio hk hnl (zoc sh hsz hio hready hag) hle hf hkq q2 q6 q7 q9 e1 (.inr ⟨hz,own',e3,e2,q8⟩))
theorem zzd {own:Own} {id:Nat} (st:St h0 w0 h w own) (hm:P.follows .mixedOrders=true) (sh:Shape n l ks cx er dsts) (hops:Hops P n l h0 w0 own h er dsts σ [] l ks) (hstart:zko P n l h0 w0 h dsts σ Q ks (cx.drop er.2.2.2.2) (cx.take er.2.2.2.2) (ziL er ks) (zmp er ks) own []):W P n (.region id l.toArray true) Q σ w:=by
 intro a ha;refine (wpIn_wide (n:=0)).1 (wpIn_region_any hm ?_);refine drawn sh hops hstart _ _ a σ _ (by simp) ?_ ha ⟨⟨zmV _ _,fun _ _ _ _ _ _=>rfl,fun j o _ hl=>by simp[Array.getElem?_replicate] at hl⟩,h,Le.refl h,?_,.inl ⟨?_,?_,?_⟩⟩
 ·unfold unl;refine Nat.le_trans List.countP_le_length ?_;simp
 ·intro i d p hi _;simp[Array.getElem?_replicate] at hi
 ·intro q _ hi;simp[Array.getElem?_replicate] at hi
 ·have e:∀ az,zhO (Array.replicate l.toArray.size false) σ az=az.map fun _=>[]:=by
   intro az;unfold zhO;refine List.map_congr_left fun q _=>?_;rw[if_neg];intro hi;simp[Array.getElem?_replicate] at hi
  rw[e,e];have:∀ m m2:List (Nat×Nat×Obj),St h0 w0 h w.drew (own++(m.map fun _=>[])++(m2.map fun _=>[])):=by
   intro m m2;have e2:(own++(m.map fun _=>([]:List (Nat×Obj)))++(m2.map fun _=>([]:List (Nat×Obj)))).flatten=own.flatten:=by
    rw[List.flatten_append,List.flatten_append];simp
   refine ⟨st.drew.le,st.drew.new,st.drew.sub,st.drew.below,?_,?_⟩
   ·rw[e2];exact st.drew.mine
   ·rw[e2];exact st.drew.nodup
  exact this _ _
 ·intro q _ hi;simp[Array.getElem?_replicate] at hi
end
section
variable {P:Program} {n:Nat} {l:List Oper} {h0:Heap} {w0:World} {own0:Own} {hr:Heap} {er:Er} {dsts:List Nat} {σ:Env} {Q:Exit→Env→World→Prop}
theorem Le.sub (hl:Le h h') (hs:Sub h' w):Sub h w:=fun b o e=>hs b o (hl b o e)
def zju (h:Heap) (rd:List (Nat×Kd)):List Nat→(List (Nat×Value)→Prop)→Prop
 | [],k=>k []
 | i::is,k=>match (rd[i]?).bind zpS with
  | some (d,p)=>∀ g,p.fact g h→zju h rd is (fun vs=>k ((d,p.val g)::vs))
  | none=>zju h rd is k
theorem zju.to {h:Heap} {rd:List (Nat×Kd)}:∀ {is:List Nat} {js:List Nat} {k:List (Nat×Value)→Prop},(∀ j∈js,j<rd.length)→js.map (fun i=>rd.length-1-i)=is→zju h rd is k→zbk h (js.filterMap fun i=>(rd.reverse[i]?).bind zpS) k
 | _,[],k,_,e,hk=>by subst e;exact hk
 | _,j::js,k,hj,e,hk=>by
  subst e;have hlt:=hj j (List.mem_cons_self ..);have hget:rd.reverse[j]?=rd[rd.length-1-j]?:=by
   rw[List.getElem?_reverse hlt]
  rw[List.filterMap_cons,hget];rw[List.map_cons,zju] at hk;cases eq:(rd[rd.length-1-j]?).bind zpS with
  | none=>
   rw[eq] at hk;exact zju.to (fun j hj'=>hj j (List.mem_cons_of_mem _ hj')) rfl hk
  | some q=>
   rw[eq] at hk;intro g hf;exact zju.to (fun j hj'=>hj j (List.mem_cons_of_mem _ hj')) rfl (hk g hf)
variable (P n l h0 w0 own0 hr er dsts σ Q) in
def Drw (rd:List (Nat×Kd)) (rc:List (Nat×Oper)) (rest:List Oper):Prop:=
 rd.length+rest.length=l.length→∃ ks cx,Hops P n l h0 w0 own0 hr er dsts σ rd.reverse rest ks∧Shape n l (rd.reverse++ks) (rc.reverse++cx) er dsts∧
  zko P n l h0 w0 hr dsts σ Q (rd.reverse++ks) ((rc.reverse++cx).drop er.2.2.2.2) ((rc.reverse++cx).take er.2.2.2.2) (ziL er (rd.reverse++ks)) (zmp er (rd.reverse++ks)) own0 []
theorem zba {id:Nat} (st:St h0 w0 h w own0) (hm:P.follows .mixedOrders=true) (hd:Drw P n l h0 w0 own0 h er dsts σ Q [] [] l):W P n (.region id l.toArray true) Q σ w:=by
 obtain ⟨ks,cx,h1,h2,h3⟩:=hd (by simp);simp only[List.reverse_nil,List.nil_append] at h1 h2 h3;exact zzd st hm h2 h1 h3
theorem zyh {p:PF} (hlt:(ziV o).all (fun j=>Nat.blt j rd.length)=true) (his:(ziV o).map (fun i=>rd.length-1-i)=is) (H:∀ h w τ,Le hr h→Sub h w→(inL er.1 rd.length=true→St h0 w0 h w own0)→zju h rd is (fun vs=>zvx P n l.toArray (known vs (mix (znb er dsts rd.length) τ σ)) h w o p)) (k:Drw P n l h0 w0 own0 hr er dsts σ Q ((zfZ o,.flt p)::rd) rc rest):Drw P n l h0 w0 own0 hr er dsts σ Q rd rc (o::rest):=by
 intro hlen;obtain ⟨ks,cx,h1,h2,h3⟩:=k (by simp at hlen ⊢;omega);refine ⟨_::ks,cx,.flt _ _ _ _ _ ?_ (by simpa using h1),by simpa using h2,by simpa using h3⟩;intro h w τ hl hs ho;rw[List.length_reverse] at ho ⊢;exact zju.to (fun j hj=>Nat.le_of_ble_eq_true (List.all_eq_true.1 hlt j hj)) his (H h w τ hl hs ho)
theorem zil (hz:∀ w,(zeroValue e).run P w=.ok z w) (hc:z.cells=cs.toArray) (k:Drw P n l h0 w0 own0 hr er dsts σ Q ((zfZ ⟨dst,.alloc e,ty,pos,aft,none⟩,.al (.cells cs.toArray e))::rd) rc rest):Drw P n l h0 w0 own0 hr er dsts σ Q rd rc (⟨dst,.alloc e,ty,pos,aft,none⟩::rest):=by
 intro hlen;obtain ⟨ks,cx,h1,h2,h3⟩:=k (by simp at hlen ⊢;omega);exact ⟨_::ks,cx,.al _ _ _ _ _ ⟨rfl,fun σ w=>zxQ hz hc⟩ (by simpa using h1),by simpa using h2,by simpa using h3⟩
theorem zbC (k:Drw P n l h0 w0 own0 hr er dsts σ Q ((zfZ o,.ch)::rd) ((rd.length,o)::rc) rest):Drw P n l h0 w0 own0 hr er dsts σ Q rd rc (o::rest):=by
 intro hlen;obtain ⟨ks,cx,h1,h2,h3⟩:=k (by simp at hlen ⊢;omega);exact ⟨_::ks,_::cx,.ch _ _ _ _ (by simpa using h1),by simpa using h2,by simpa using h3⟩
theorem zBN {cx cx1 cx2:List (Nat×Oper)} {az ls:List (Nat×Nat×Obj)} (hk:rd.reverse=ks) (hx:rc.reverse=cx) (ha:zmp er ks=az) (hl:ziL er ks=ls) (h1:cx.drop er.2.2.2.2=cx1) (h2:cx.take er.2.2.2.2=cx2) (sh:Shape n l ks cx er dsts) (hs:zko P n l h0 w0 hr dsts σ Q ks cx1 cx2 ls az own0 []):Drw P n l h0 w0 own0 hr er dsts σ Q rd rc []:=by
 intro _;refine ⟨[],[],.nil _,?_,?_⟩
 ·simpa [hk,hx] using sh
 simp only[List.append_nil,hk,hx,ha,hl,h1,h2];exact hs
theorem zBO (hlt:(ziV o).all (fun j=>Nat.blt j rd.length)=true) (his:(ziV o).map (fun i=>rd.length-1-i)=is) (hg:o.guard=none) (hd:zgM n o.dst=true) (H:∀ h w τ,Le hr h→Sub h w→(inL er.1 rd.length=true→St h0 w0 h w own0)→zju h rd is (fun vs=>Run P (known vs (mix (znb er dsts rd.length) τ σ)) w o v w)) (k:Drw P n l h0 w0 own0 hr er dsts σ Q ((zfZ o,.flt (.det v))::rd) rc rest):Drw P n l h0 w0 own0 hr er dsts σ Q rd rc (o::rest):=by
 refine zyh hlt his (fun h w τ hl hs ho=>?_) k;have key:∀ (is:List Nat) (K K':List (Nat×Value)→Prop),(∀ vs,K vs→K' vs)→zju h rd is K→zju h rd is K':=by
  intro is
  induction is with
  | nil=>exact fun K K' hkk h=>hkk _ h
  | cons i is ih=>
   intro K K' hkk h;rw[zju] at h ⊢;split
   ·rename_i d p eq;rw[eq] at h;exact fun g hf=>ih _ _ (fun vs=>hkk _) (h g hf)
   ·rename_i eq;rw[eq] at h;exact ih _ _ hkk h
 refine key _ _ _ (fun vs hrun=>?_) (H h w τ hl hs ho);exact zar hg hd hrun (zB ⟨v,h,rfl,St.start hs,(),rfl,trivial⟩)
theorem Run.lit {t: Bool} (h:Run P σ w o (.bool t) w') (e:t=b):Run P σ w o (.bool b) w':=e▸h
def PF.res (Φ:Heap→Value→Prop) (up:∀ h h' v,Le h h'→Φ h v→Φ h' v):PF:=⟨Value,id,fun v h=>Φ h v,fun _ _ _ hf hl=>up _ _ _ hl hf⟩
end
section
variable {P:Program} {n:Nat} {l:List Oper} {h0:Heap} {w0:World} {own0:Own} {hr:Heap} {er:Er} {dsts:List Nat} {σ:Env} {Q:Exit→Env→World→Prop}
theorem zju.mono {h:Heap} {rd:List (Nat×Kd)}:∀ {is:List Nat} {K K':List (Nat×Value)→Prop},(∀ vs,K vs→K' vs)→zju h rd is K→zju h rd is K'
 | [],_,_,hk,h=>hk _ h
 | i::is,K,K',hk,h=>by
  rw[zju] at h ⊢;split
  ·rename_i d p eq;rw[eq] at h;exact fun g hf=>zju.mono (fun vs=>hk _) (h g hf)
  ·rename_i eq;rw[eq] at h;exact zju.mono hk h
theorem ztv (m:Nat) (p:PF) (is:List Nat) (hm:rd.length=m) (hlt:(ziV o).all (fun j=>Nat.blt j m)=true) (his:(ziV o).map (fun i=>m-1-i)=is) (H:∀ h w τ,Le hr h→Sub h w→(inL er.1 m=true→St h0 w0 h w own0)→zju h rd is (fun vs=>zvx P n l.toArray (known vs (mix (znb er dsts m) τ σ)) h w o p)) (k:Drw P n l h0 w0 own0 hr er dsts σ Q ((zfZ o,.flt p)::rd) rc rest):Drw P n l h0 w0 own0 hr er dsts σ Q rd rc (o::rest):=by
 subst hm;exact zyh hlt his H k
theorem zAV (m:Nat) (is:List Nat) (hm:rd.length=m) (hlt:(ziV o).all (fun j=>Nat.blt j m)=true) (his:(ziV o).map (fun i=>m-1-i)=is) (hg:o.guard=none) (hd:zgM n o.dst=true) (H:∀ h w τ,Le hr h→Sub h w→(inL er.1 m=true→St h0 w0 h w own0)→zju h rd is (fun vs=>Run P (known vs (mix (znb er dsts m) τ σ)) w o v w)) (k:Drw P n l h0 w0 own0 hr er dsts σ Q ((zfZ o,.flt (.det v))::rd) rc rest):Drw P n l h0 w0 own0 hr er dsts σ Q rd rc (o::rest):=by
 subst hm;exact zBO hlt his hg hd H k
theorem zAU (m:Nat) (is:List Nat) (hm:rd.length=m) (hlt:(ziV ⟨dst,op,type,pos,after,some (g,b)⟩).all (fun j=>Nat.blt j m)=true) (his:(ziV ⟨dst,op,type,pos,after,some (g,b)⟩).map (fun i=>m-1-i)=is) (hgd:(l.toArray[g]?).bind (·.dst)=some d) (hdn:Nat.blt d n=true) (hd:zgM n dst=true) (H:∀ h w τ,Le hr h→Sub h w→(inL er.1 m=true→St h0 w0 h w own0)→zju h rd is (fun vs=>known vs (mix (znb er dsts m) τ σ) d=.bool b∧Run P (known vs (mix (znb er dsts m) τ σ)) w ⟨dst,op,type,pos,after,none⟩ v w)) (k:Drw P n l h0 w0 own0 hr er dsts σ Q ((zfZ ⟨dst,op,type,pos,after,some (g,b)⟩,.flt (.det v))::rd) rc rest):Drw P n l h0 w0 own0 hr er dsts σ Q rd rc (⟨dst,op,type,pos,after,some (g,b)⟩::rest):=by
 refine ztv m _ is hm hlt his (fun h w τ hl hs ho=>zju.mono (fun vs=>?_) (H h w τ hl hs ho)) k;rintro ⟨hv,hrun⟩;exact zqm hgd hdn hv (zar rfl hd hrun (zB ⟨v,h,rfl,St.start hs,(),rfl,trivial⟩))
theorem zAT {c: Bool} (m:Nat) (is:List Nat) (hm:rd.length=m) (hlt:(ziV ⟨dst,op,type,pos,after,some (g,b)⟩).all (fun j=>Nat.blt j m)=true) (his:(ziV ⟨dst,op,type,pos,after,some (g,b)⟩).map (fun i=>m-1-i)=is) (hgd:(l.toArray[g]?).bind (·.dst)=some d) (hdn:Nat.blt d n=true) (hd:zgM n dst=true) (hc:(c == b)=false) (H:∀ h w τ,Le hr h→Sub h w→(inL er.1 m=true→St h0 w0 h w own0)→zju h rd is (fun vs=>known vs (mix (znb er dsts m) τ σ) d=.bool c)) (k:Drw P n l h0 w0 own0 hr er dsts σ Q ((zfZ ⟨dst,op,type,pos,after,some (g,b)⟩,.flt (.det undef))::rd) rc rest):Drw P n l h0 w0 own0 hr er dsts σ Q rd rc (⟨dst,op,type,pos,after,some (g,b)⟩::rest):=by
 refine ztv m _ is hm hlt his (fun h w τ hl hs ho=>zju.mono (fun vs=>?_) (H h w τ hl hs ho)) k;intro hv;exact zql hgd hdn hv hc hd (zB ⟨undef,h,rfl,St.start hs,(),rfl,trivial⟩)
end
theorem zbk.fin {l:List (Nat×PF)} {k:List (Nat×Value)→Prop} (e:l=[]) (hk:k []):zbk h l k:=by
 subst e;exact hk
section
variable {P:Program} {n:Nat} {ops:Array Oper} {rest:List Oper} {K:Env→World→Prop} {σ:Env} {w w0:World} {h h0:Heap} {own:Own} {ty:TypeId} {pos:String} {aft:Array Edge}
theorem zwJ (st:St h0 w0 h w own) {t:TypeId} (hx:ev σ x=zae s) (ht:P.underlying t=some .string) (hd:Nat.blt d n=true) (hk:∀ b w',St h0 w0 h w' (own++[[(b,.stringIter ⟨s.toArray⟩ 0)]])→E P n ops rest K (upd σ d (.pointer (some ⟨b,0,none⟩))) w'):E P n ops (⟨some d,.range t x,ty,pos,aft,none⟩::rest) K σ w:=by
 refine zar rfl hd (v:=.pointer (some ⟨w.heap.size,0,none⟩)) (w':=w.alloc (.stringIter ⟨s.toArray⟩ 0)) ?_ (hk _ _ (st.alloc _));simp[execOp,hx,zae,Instr.range,run_underlying ht]
theorem zxE (st:St h0 w0 h w own) {b: Nat} (hk:own[k]?=some [(b,.stringIter ⟨s.toArray⟩ p)]) (hx:ev σ x=.pointer (some ⟨b,0,none⟩)) (hc:s[p]?=some c) (hd:Nat.blt d n=true) (hK:∀ w',St h0 w0 h w' (own.set k [(b,.stringIter ⟨s.toArray⟩ (p+(Utf8.decode ⟨s.toArray⟩ p).2))])→E P n ops rest K (upd σ d (.tuple #[.bool true,.int .i64 (p:Int),.int .i32 ((Utf8.decode ⟨s.toArray⟩ p).1:Int)])) w'):E P n ops (⟨some d,.next x true,ty,pos,aft,none⟩::rest) K σ w:=by
 have hb:=st.get hk;have hlt:p<s.length:=(List.getElem?_eq_some_iff.1 hc).1;refine zar rfl hd ?_ (hK _ (st.set _ hk));have hl:p<(⟨s.toArray⟩:ByteArray).size:=by simpa [ByteArray.size] using hlt
 simp[execOp,hx,Instr.next,getObj,setObj,Sem.run,hb,hl,goInt]
theorem zxG (st:St h0 w0 h w own) {b: Nat} (hk:own[k]?=some [(b,.stringIter ⟨s.toArray⟩ p)]) (hx:ev σ x=.pointer (some ⟨b,0,none⟩)) (hc:s.length≤p) (hd:Nat.blt d n=true) (hK:E P n ops rest K (upd σ d (.tuple #[.bool false])) w):E P n ops (⟨some d,.next x true,ty,pos,aft,none⟩::rest) K σ w:=by
 have hb:=st.get hk;refine zar rfl hd ?_ hK;have hl:¬ p<(⟨s.toArray⟩:ByteArray).size:=by simpa [ByteArray.size] using hc
 simp[execOp,hx,Instr.next,getObj,Sem.run,hb,hl]
end
theorem zoz (ha:Fits n a σ) (hg:(ops[g]?).bind (·.dst)=some d) (hd:Nat.blt d n=true) (hv:σ d=undef):yielded ops a.tmps g=none:=by
 have hd':d<a.tmps.size:=by rw[ha.size];exact Nat.le_of_ble_eq_true hd
 have h1:a.tmps[d]?=some undef:=by
  have:=ha.at_ d;rw[hv] at this;simp only[Array.getD_eq_getD_getElem?] at this;rw[Array.getElem?_eq_getElem hd'] at this ⊢;simpa using this
 simp[yielded,hg,h1,undef]
theorem zua (hg:(ops[g]?).bind (·.dst)=some d) (hd:Nat.blt d n=true) (hv:σ d=undef) (hdst:zgM n dst=true) (h:E P n ops rest K (updO σ dst undef) w):E P n ops (⟨dst,op,type,pos,after,some (g,b)⟩::rest) K σ w:=by
 intro a ha;unfold wpListIn;rw[if_neg (by simp[Region.wanted,zoz ha hg hd hv])];exact ⟨fun _ _=>trivial,h _ (ha.put hdst _)⟩
theorem zCy {g:Option (Nat×Bool)} {t t':TypeId} {a: Bool} (hx:ev σ x=.bool a) (hy:ev σ y=.bool b) (ht:P.underlying t=some .bool):Run P σ w ⟨dst,.binOp .eql t x y t',ty,pos,aft,g⟩ (.bool (a == b)) w:=by
 simp[Run,execOp,hx,hy,eqGuard,run_eql_bool _ _ _ _ ht]
theorem zdr {g:Option (Nat×Bool)} {t: TypeId} {ix: Operand} {b o m: Nat} {kd:IntKind} {i:Int} (hx:ev σ x=.pointer (some ⟨b,o,none⟩)) (hi:ev σ ix=.int kd i) (hk:i=(k:Int)) (hlt:Nat.blt k n=true) (hu:P.underlying t=some (.array n e)) (hz:∀ w,(sizeOf e).run P w=.ok m w):Run P σ w ⟨dst,.indexAddr t x ix,ty,pos,aft,g⟩ (.pointer (some ⟨b,o+k*m,none⟩)) w:=by
 subst hk;have h1:k<n:=Nat.le_of_ble_eq_true hlt;have h2:(k:Int)<(n:Int):=by omega
 simp[Run,execOp,hx,hi,Instr.indexAt,Instr.sureAddr,asIntOf,run_underlying hu,hz,h1,zfr]
theorem zsO (hc:s[p]?=some c) (h:c.toNat<128):Utf8.decode ⟨s.toArray⟩ p=(c.toNat,1):=by
 have e:(⟨s.toArray⟩:ByteArray).get! (p+0)=c:=by
  obtain ⟨hl,e⟩:=List.getElem?_eq_some_iff.1 hc;show s.toArray[p]! = c;simp[hl,e]
 unfold Utf8.decode;simp only[e];rw[if_pos h]
theorem zww (hc:s[p]?=some c) (h:¬ c.toNat<128):128≤(Utf8.decode ⟨s.toArray⟩ p).1:=by
 have e:(⟨s.toArray⟩:ByteArray).get! (p+0)=c:=by
  obtain ⟨hl,e⟩:=List.getElem?_eq_some_iff.1 hc;show s.toArray[p]! = c;simp[hl,e]
 unfold Utf8.decode;simp only[e];rw[if_neg h];have hr:(128:Nat)≤Utf8.runeError:=by decide
 split
 ·split
  ·assumption
  ·exact hr
 split
 ·split
  ·rename_i h1;simp only[Bool.and_eq_true,decide_eq_true_eq] at h1;exact Nat.le_trans (by decide) h1.1
  ·exact hr
 split
 ·split
  ·rename_i h1;simp only[Bool.and_eq_true,decide_eq_true_eq] at h1;exact Nat.le_trans (by decide) h1.1
  ·exact hr
 exact hr
structure Place where
 chapter:Int
 line:Int
 word:Int
 deriving DecidableEq
def zcZ:Lay Place:={ size:=3,R:=fun _ vs x=>vs=[.int .i64 x.chapter,.int .i64 x.line,.int .i64 x.word],up:=fun h _=>h,len:=(by rintro _ _ _ rfl;rfl),one:=(by rintro _ _ _ rfl u hu;simp only[List.mem_cons,List.not_mem_nil,or_false] at hu;rcases hu with rfl|rfl|rfl <;> first|rfl|exact Sl.one (by assumption)) }
structure Chapter where
 id:Int
 lines:(List (List Str))
 deriving DecidableEq
def zax:Lay Chapter:={ size:=2,R:=fun h vs x=>∃ v0,vs=[.int .i64 x.id,v0]∧Sl (LSl zcn) h v0 x.lines,up:=(by rintro _ _ _ _ ⟨v0,rfl,f0⟩ hl;exact ⟨v0,rfl,f0.up hl⟩),len:=(by rintro _ _ _ ⟨_,rfl,_⟩;rfl),one:=(by rintro _ _ _ ⟨v0,rfl,f0⟩ u hu;simp only[List.mem_cons,List.not_mem_nil,or_false] at hu;rcases hu with rfl|rfl <;> first|rfl|exact Sl.one (by assumption)) }
structure Text where
 chapters:(List Chapter)
 deriving DecidableEq
def zwL:Lay Text:={ size:=1,R:=fun h vs x=>∃ v0,vs=[v0]∧Sl zax h v0 x.chapters,up:=(by rintro _ _ _ _ ⟨v0,rfl,f0⟩ hl;exact ⟨v0,rfl,f0.up hl⟩),len:=(by rintro _ _ _ ⟨_,rfl,_⟩;rfl),one:=(by rintro _ _ _ ⟨v0,rfl,f0⟩ u hu;simp only[List.mem_cons,List.not_mem_nil,or_false] at hu;rcases hu with rfl <;> first|rfl|exact Sl.one (by assumption)) }
structure Head where
 stem:Str
 mark:Int
 deriving DecidableEq
def zen:Lay Head:={ size:=2,R:=fun _ vs x=>vs=[zae x.stem,.int .u8 x.mark]∧x.stem.length≤big∧(0≤x.mark∧x.mark≤255),up:=fun h _=>h,len:=(by rintro _ _ _ ⟨rfl,_,_⟩;rfl),one:=(by rintro _ _ _ ⟨rfl,f0,f1⟩ u hu;simp only[List.mem_cons,List.not_mem_nil,or_false] at hu;rcases hu with rfl|rfl <;> first|rfl|exact Sl.one (by assumption)) }
structure Rule where
 cut:Str
 put:Str
 least:Int
 deriving DecidableEq
def zcS:Lay Rule:={ size:=3,R:=fun _ vs x=>vs=[zae x.cut,zae x.put,.int .i64 x.least]∧x.cut.length≤big∧x.put.length≤big,up:=fun h _=>h,len:=(by rintro _ _ _ ⟨rfl,_,_⟩;rfl),one:=(by rintro _ _ _ ⟨rfl,f0,f1⟩ u hu;simp only[List.mem_cons,List.not_mem_nil,or_false] at hu;rcases hu with rfl|rfl|rfl <;> first|rfl|exact Sl.one (by assumption)) }
structure Decision where
 number:Int
 kind:Int
 form:Str
 at_:Place
 to:Head
 of_:Int
 deriving DecidableEq
def zau:Lay Decision:={ size:=9,R:=fun _ vs x=>vs=[.int .i64 x.number,.int .u8 x.kind,zae x.form,.int .i64 x.at_.chapter,.int .i64 x.at_.line,.int .i64 x.at_.word,zae x.to.stem,.int .u8 x.to.mark,.int .i64 x.of_]∧(0≤x.kind∧x.kind≤255)∧x.form.length≤big∧x.to.stem.length≤big∧(0≤x.to.mark∧x.to.mark≤255),up:=fun h _=>h,len:=(by rintro _ _ _ ⟨rfl,_,_,_,_⟩;rfl),one:=(by rintro _ _ _ ⟨rfl,f0,f1,f2,f3⟩ u hu;simp only[List.mem_cons,List.not_mem_nil,or_false] at hu;rcases hu with rfl|rfl|rfl|rfl|rfl|rfl|rfl|rfl|rfl <;> first|rfl|exact Sl.one (by assumption)) }
structure Lexicon where
 rules:(List Rule)
 decisions:(List Decision)
 deriving DecidableEq
def ztt:Lay Lexicon:={ size:=2,R:=fun h vs x=>∃ v0 v1,vs=[v0,v1]∧Sl zcS h v0 x.rules∧Sl zau h v1 x.decisions,up:=(by rintro _ _ _ _ ⟨v0,v1,rfl,f0,f1⟩ hl;exact ⟨v0,v1,rfl,f0.up hl,f1.up hl⟩),len:=(by rintro _ _ _ ⟨_,_,rfl,_,_⟩;rfl),one:=(by rintro _ _ _ ⟨v0,v1,rfl,f0,f1⟩ u hu;simp only[List.mem_cons,List.not_mem_nil,or_false] at hu;rcases hu with rfl|rfl <;> first|rfl|exact Sl.one (by assumption)) }
structure Question where
 at_:Place
 heads:(List Head)
 deriving DecidableEq
def zzg:Lay Question:={ size:=4,R:=fun h vs x=>∃ v0,vs=[.int .i64 x.at_.chapter,.int .i64 x.at_.line,.int .i64 x.at_.word,v0]∧Sl zen h v0 x.heads,up:=(by rintro _ _ _ _ ⟨v0,rfl,f0⟩ hl;exact ⟨v0,rfl,f0.up hl⟩),len:=(by rintro _ _ _ ⟨_,rfl,_⟩;rfl),one:=(by rintro _ _ _ ⟨v0,rfl,f0⟩ u hu;simp only[List.mem_cons,List.not_mem_nil,or_false] at hu;rcases hu with rfl|rfl|rfl|rfl <;> first|rfl|exact Sl.one (by assumption)) }
structure Voter where
 id:Int
 wrong:Int
 votes:(List Int)
 deriving DecidableEq
def zDc:Lay Voter:={ size:=3,R:=fun h vs x=>∃ v0,vs=[.int .i64 x.id,.int .i64 x.wrong,v0]∧Sl zcy h v0 x.votes,up:=(by rintro _ _ _ _ ⟨v0,rfl,f0⟩ hl;exact ⟨v0,rfl,f0.up hl⟩),len:=(by rintro _ _ _ ⟨_,rfl,_⟩;rfl),one:=(by rintro _ _ _ ⟨v0,rfl,f0⟩ u hu;simp only[List.mem_cons,List.not_mem_nil,or_false] at hu;rcases hu with rfl|rfl|rfl <;> first|rfl|exact Sl.one (by assumption)) }
structure Poll where
 text:Text
 lexicon:Lexicon
 questions:(List Question)
 voters:(List Voter)
 deriving DecidableEq
def LPoll:Lay Poll:={ size:=5,R:=fun h vs x=>∃ v0 v1 v2 v3 v4,vs=[v0,v1,v2,v3,v4]∧Sl zax h v0 x.text.chapters∧Sl zcS h v1 x.lexicon.rules∧Sl zau h v2 x.lexicon.decisions∧Sl zzg h v3 x.questions∧Sl zDc h v4 x.voters,up:=(by rintro _ _ _ _ ⟨v0,v1,v2,v3,v4,rfl,f0,f1,f2,f3,f4⟩ hl;exact ⟨v0,v1,v2,v3,v4,rfl,f0.up hl,f1.up hl,f2.up hl,f3.up hl,f4.up hl⟩),len:=(by rintro _ _ _ ⟨_,_,_,_,_,rfl,_,_,_,_,_⟩;rfl),one:=(by rintro _ _ _ ⟨v0,v1,v2,v3,v4,rfl,f0,f1,f2,f3,f4⟩ u hu;simp only[List.mem_cons,List.not_mem_nil,or_false] at hu;rcases hu with rfl|rfl|rfl|rfl|rfl <;> first|rfl|exact Sl.one (by assumption)) }
structure Span where
 lo:Int
 hi:Int
 deriving DecidableEq
def LSpan:Lay Span:={ size:=2,R:=fun _ vs x=>vs=[.int .i64 x.lo,.int .i64 x.hi],up:=fun h _=>h,len:=(by rintro _ _ _ rfl;rfl),one:=(by rintro _ _ _ rfl u hu;simp only[List.mem_cons,List.not_mem_nil,or_false] at hu;rcases hu with rfl|rfl <;> first|rfl|exact Sl.one (by assumption)) }
section
variable {κ υ:Type} {ek:κ→Value} {eu:υ→Value}
theorem OM.one {m:List (κ×υ)} {o:List (Nat×Obj)} (h:OM ek eu m o v):v.oneCell'=true:=by
 obtain ⟨b,es,clock,_,rfl,_⟩:=h;rfl
theorem OM.form {m:List (κ×υ)} {o:List (Nat×Obj)} (h:OM ek eu m o v):∃ b,v=.map (some b):=by
 obtain ⟨b,es,clock,_,rfl,_⟩:=h;exact ⟨b,rfl⟩
def FM (ek:κ→Value) (eu:υ→Value) (h:Heap) (m:List (κ×υ)) (v:Value):Prop:=
 ∃ b es clock,h b=some (.map es clock)∧v=.map (some b)∧Ent ek eu es.toList m∧(∀ e∈es.toList,e.born<clock)∧(es.toList.map (·.born)).Nodup
theorem FM.up {m:List (κ×υ)} (f:FM ek eu h m v) (l:Le h h'):FM ek eu h' m v:=by
 obtain ⟨b,es,clock,hb,q⟩:=f;exact ⟨b,es,clock,l _ _ hb,q⟩
theorem FM.one {m:List (κ×υ)} (f:FM ek eu h m v):v.oneCell'=true:=by
 obtain ⟨b,es,clock,_,rfl,_⟩:=f;rfl
theorem FM.to {m m':List (κ×υ)} (f:FM ek eu h m v) (e:m=m'):FM ek eu h m' v:=e▸f
theorem OM.to {m m':List (κ×υ)} {o:List (Nat×Obj)} (f:OM ek eu m o v) (e:m=m'):OM ek eu m' o v:=e▸f
theorem OM.freeze {h0 h:Heap} {w0 w:World} {own:Own} {k:Nat} {m:List (κ×υ)} {o:List (Nat×Obj)} {v:Value} (st:St h0 w0 h w own) (hM:OM ek eu m o v) (hk:own[k]?=some o):
  ∃ h',Le h h'∧FM ek eu h' m v∧St h0 w0 h' w (own.set k []):=by
 obtain ⟨b,es,clock,rfl,rfl,hE,hB,hD⟩:=hM;obtain ⟨h',hl,hg,st'⟩:=st.freeze hk;exact ⟨h',hl,⟨b,es,clock,hg,rfl,hE,hB,hD⟩,st'⟩
theorem FM.om {m:List (κ×υ)} (f:FM ek eu h m v) (hs:Sub h w):∃ o,OM ek eu m o v∧∀ b ob,o=[(b,ob)]→w.heap[b]?=some ob:=by
 obtain ⟨b,es,clock,hb,rfl,hE,hB,hD⟩:=f;exact ⟨[(b,.map es clock)],⟨b,es,clock,rfl,rfl,hE,hB,hD⟩,fun b' ob e=>by cases e;exact hs _ _ hb⟩
theorem Ent.get:∀ {es:List MapEntry} {m:List (κ×υ)} {j:Nat} {e:MapEntry},Ent ek eu es m→es[j]?=some e→∃ p,m[j]?=some p∧e.key=ek p.1∧e.val=eu p.2
 | [],[],_,_,_,h=>by simp at h
 | e'::es,p::m,0,e,h,hj=>by simp at hj;subst hj;exact ⟨p,rfl,h.1,h.2.1⟩
 | e'::es,p::m,j+1,e,h,hj=>by
  obtain ⟨q,h1,h2⟩:=h.2.2.get (j:=j) (e:=e) (by simpa using hj);exact ⟨q,by simpa using h1,h2⟩
 | [],_::_,_,_,h,_=>h.elim
 | _::_,[],_,_,h,_=>h.elim
theorem Ent.erase:∀ {es:List MapEntry} {m:List (κ×υ)} (j:Nat),Ent ek eu es m→Ent ek eu (es.eraseIdx j) (m.eraseIdx j)
 | [],[],_,_=>trivial
 | _::_,_::_,0,h=>h.2.2
 | _::_,_::_,j+1,h=>⟨h.1,h.2.1,h.2.2.erase j⟩
 | [],_::_,_,h=>h.elim
 | _::_,[],_,h=>h.elim
def zkC [DecidableEq κ] (m:List (κ×υ)) (k:κ):List (κ×υ):=m.filter fun p=>!decide (p.1=k)
theorem zqv [DecidableEq κ] {m:List (κ×υ)} {k:κ} (h:zcb m k=none):∀ p∈m,p.1≠k:=by
 intro p hp e;have:(m.find? fun q=>decide (q.1=k)).isSome=true:=by
  rw[List.find?_isSome];exact ⟨p,hp,by simp[e]⟩
 simp only[zcb,Option.map_eq_none_iff] at h;rw[h] at this;cases this
theorem zyW [DecidableEq κ] {m:List (κ×υ)} {k:κ} (h:zcb m k=none):zkC m k=m:=by
 unfold zkC;rw[List.filter_eq_self];intro p hp;simp[zqv h p hp]
theorem zsN [DecidableEq κ]:∀ {m:List (κ×υ)} {k:κ} {j:Nat} {u:υ},(m.map (·.1)).Nodup→m[j]?=some (k,u)→zkC m k=m.eraseIdx j
 | [],_,_,_,_,h=>by simp at h
 | p::m,k,0,u,hn,h=>by
  simp only[List.getElem?_cons_zero,Option.some.injEq] at h;subst h;simp only[List.map_cons,List.nodup_cons] at hn;simp only[zkC,List.filter_cons,decide_true,Bool.not_true,Bool.false_eq_true,if_false,List.eraseIdx_cons_zero];rw[List.filter_eq_self];intro q hq;have:q.1≠k:=by rintro rfl;exact hn.1 (List.mem_map_of_mem hq)
  simp[this]
 | p::m,k,j+1,u,hn,h=>by
  simp only[List.map_cons,List.nodup_cons] at hn;have h':m[j]?=some (k,u):=by simpa using h
  have hne:¬ p.1=k:=by
   intro e;exact hn.1 (e▸List.mem_map.2 ⟨(k,u),List.mem_of_getElem? h',rfl⟩)
  have:=zsN hn.2 h';simp only[zkC] at this;simp only[zkC,List.filter_cons,hne,decide_false,Bool.not_false,if_true,List.eraseIdx_cons_succ,this]
theorem zuy [DecidableEq κ] (m:List (κ×υ)) (k k':κ):zcb (zkC m k) k'=if k'=k then none else zcb m k':=by
 induction m with
 | nil=>simp[zcb,zkC]
 | cons p m ih=>
  simp only[zcb,zkC,List.filter_cons,List.find?_cons] at ih ⊢
  by_cases h1:p.1=k
  ·simp only[h1,decide_true,Bool.not_true,Bool.false_eq_true,if_false];rw[ih]
   by_cases h2:k'=k
   ·simp[h2]
   ·have h3:¬ k=k':=fun e=>h2 e.symm;simp[h2,h3]
  ·simp only[h1,decide_false,Bool.not_false,if_true,List.find?_cons]
   by_cases h4:p.1=k'
   ·have:¬ k'=k:=fun e=>h1 (h4.trans e);simp[h4,this]
   ·simp only[h4,decide_false];exact ih
variable {P:Program} {n:Nat} {ops:Array Oper} {rest:List Oper} {K:Env→World→Prop} {σ:Env} {w w0:World} {h0 h:Heap} {own:Own} {ty:TypeId} {pos:String} {aft:Array Edge} {d:Nat} {dst:Option Tmp} {g:Option (Nat×Bool)}
theorem ztp [DecidableEq κ] {t kty: TypeId} {kind:TypeDesc} {m:List (κ×υ)} {o:List (Nat×Obj)} {k:κ} (st:St h0 w0 h w own) (hM:OM ek eu m o v) (hi:own[i]?=some o) (hn:(m.map (·.1)).Nodup) (hK:Key P kt kind ek) (ht:P.underlying t=some (.map kt et)) (hx:ev σ x=v) (hy:ev σ y=ek k) (hk:∀ o' w' own',own'=own.set i o'→OM ek eu (zkC m k) o' v→((zkC m k).map (·.1)).Nodup→St h0 w0 h w' own'→E P n ops rest K σ w'):
  E P n ops (⟨none,.call ⟨.builtin .delete,#[x,y],#[t,kty]⟩,ty,pos,aft,none⟩::rest) K σ w:=by
 obtain ⟨b,es,clock,rfl,rfl,hE,hB,hD⟩:=hM;have hb:=st.get hi;have hg:(getObj b).run P w=.ok (.map es clock) w:=by simp[getObj,Sem.run,hb]
 have hset:∀ es' c',(setObj b (.map es' c')).run P w=.ok () { w with heap:=w.heap.setIfInBounds b (.map es' c') }:=by
  intro es' c';simp[setObj,Sem.run,hb]
 have hc:=hK.check es.isEmpty k w;have hnd:((zkC m k).map (·.1)).Nodup:=(List.filter_sublist.map _).nodup hn;cases hl:zcb m k with
 | none=>
  have hf:=zjg hK k es.toList none (zmh hK.tells 0 hE hl) w;refine zar rfl rfl (v:=.tuple #[]) (w':={ w with heap:=w.heap.setIfInBounds b (.map es clock) }) ?_ (hk _ _ _ rfl ⟨b,es,clock,rfl,rfl,by rw[zyW hl];exact hE,hB,hD⟩ hnd (st.set _ hi));refine znq rfl (vs:=[.map (some b),ek k]) (by simp[hx,hy]) fun cs=>?_;simp only[builtin,Builtin.delete_,Sem.run_bind,run_underlying ht,Result.andThen_ok,List.getElem?_toArray,List.getElem?_cons_zero,List.getElem?_cons_succ,hg,hc,hf,hset,Sem.run_pure]
 | some q=>
  obtain ⟨j,h1,h2,_,h4⟩:=zmg hK.tells 0 hE hl;have hf:=zjg hK k es.toList _ h4 w;simp only[Nat.zero_add] at hf;have hlen:=hE.len;have hes:(es.eraseIdxIfInBounds j).toList=es.toList.eraseIdx j:=by
   unfold Array.eraseIdxIfInBounds;split
   ·simp
   ·rename_i hq;rw[List.eraseIdx_of_length_le (by simpa using hq)]
  have hsub:(es.toList.eraseIdx j).Sublist es.toList:=List.eraseIdx_sublist _ _;refine zar rfl rfl (v:=.tuple #[]) (w':={ w with heap:=w.heap.setIfInBounds b (.map (es.eraseIdxIfInBounds j) clock) }) ?_ (hk _ _ _ rfl ⟨b,es.eraseIdxIfInBounds j,clock,rfl,rfl,?_,?_,?_⟩ hnd (st.set _ hi))
  ·refine znq rfl (vs:=[.map (some b),ek k]) (by simp[hx,hy]) fun cs=>?_;simp only[builtin,Builtin.delete_,Sem.run_bind,run_underlying ht,Result.andThen_ok,List.getElem?_toArray,List.getElem?_cons_zero,List.getElem?_cons_succ,hg,hc,hf,hset,Sem.run_pure]
  ·rw[hes,zsN hn h2];exact hE.erase j
  ·intro e he;rw[hes] at he;exact hB e (hsub.subset he)
  ·rw[hes];exact (hsub.map _).nodup hD
def MI (ek:κ→Value) (eu:υ→Value) (h:Heap) (v:Value) (o:List (Nat×Obj)) (vi:Value) (rm:List (κ×υ)):Prop:=
 ∃ b mb es clock seen,h mb=some (.map es clock)∧v=.map (some mb)∧(∀ e∈es.toList,e.born<clock)∧(es.toList.map (·.born)).Nodup∧o=[(b,.mapIter (some mb) clock seen clock)]∧vi=.pointer (some ⟨b,0,none⟩)∧Ent ek eu (es.toList.filter fun e=>!seen.contains e.born) rm
def MC (ek:κ→Value) (eu:υ→Value) (h:Heap) (o:List (Nat×Obj)) (vi:Value) (p:κ×υ):Prop:=
 ∃ b mb es clock seen e,h mb=some (.map es clock)∧o=[(b,.mapIter (some mb) clock seen clock)]∧vi=.pointer (some ⟨b,0,none⟩)∧e∈es.toList∧seen.back?=some e.born∧(es.toList.map (·.born)).Nodup∧e.key=ek p.1∧e.val=eu p.2
theorem MI.up {h: Heap} {o:List (Nat×Obj)} {rm:List (κ×υ)} (f:MI ek eu h v o vi rm) (l:Le h h'):MI ek eu h' v o vi rm:=by
 obtain ⟨b,mb,es,clock,seen,hb,q⟩:=f;exact ⟨b,mb,es,clock,seen,l _ _ hb,q⟩
theorem MC.up {h: Heap} {o:List (Nat×Obj)} {p:κ×υ} (f:MC ek eu h o vi p) (l:Le h h'):MC ek eu h' o vi p:=by
 obtain ⟨b,mb,es,clock,seen,e,hb,q⟩:=f;exact ⟨b,mb,es,clock,seen,e,l _ _ hb,q⟩
theorem zwK {t: TypeId} {m:List (κ×υ)} (st:St h0 w0 h w own) (hF:FM ek eu h m v) (hx:ev σ x=v) (ht:P.underlying t=some (.map kt et)) (hd:Nat.blt d n=true) (hk:∀ o vi w',MI ek eu h v o vi m→St h0 w0 h w' (own++[o])→E P n ops rest K (upd σ d vi) w'):
  E P n ops (⟨some d,.range t x,ty,pos,aft,none⟩::rest) K σ w:=by
 obtain ⟨mb,es,clock,hb,rfl,hE,hB,hD⟩:=hF;have hg:(getObj mb).run P w=.ok (.map es clock) w:=by simp[getObj,Sem.run,st.sub _ _ hb]
 refine zar rfl hd (v:=.pointer (some ⟨w.heap.size,0,none⟩)) (w':=w.alloc (.mapIter (some mb) clock #[] clock)) ?_ (hk [(w.heap.size,.mapIter (some mb) clock #[] clock)] _ _ ⟨_,mb,es,clock,#[],hb,rfl,hB,hD,rfl,rfl,?_⟩ (st.alloc _))
 ·simp[Run,execOp,hx,Instr.range,run_underlying ht,hg]
 ·have:(es.toList.filter fun e=>!(#[]:Array Nat).contains e.born)=es.toList:=by
   rw[List.filter_eq_self];intro e _;simp
  rw[this];exact hE
theorem Ent.split:∀ {l1 l2:List MapEntry} {e:MapEntry} {rm:List (κ×υ)},Ent ek eu (l1++e::l2) rm→∃ p rm',rm.Perm (p::rm')∧e.key=ek p.1∧e.val=eu p.2∧Ent ek eu (l1++l2) rm'
 | [],l2,e,[],h=>h.elim
 | [],l2,e,p::rm,h=>⟨p,rm,List.Perm.refl _,h.1,h.2.1,h.2.2⟩
 | _::_,_,_,[],h=>h.elim
 | e1::l1,l2,e,q::rm,h=>by
  obtain ⟨p,rm',h1,h2,h3,h4⟩:=Ent.split (l1:=l1) (l2:=l2) (e:=e) h.2.2;exact ⟨p,q::rm',(h1.cons q).trans (List.Perm.swap p q rm'),h2,h3,⟨h.1,h.2.1,h4⟩⟩
theorem zra {N:Nat} (hN:0<N) (w:World):∃ c w',(choose (.mapNext N)).run P w=.ok c w'∧c<N∧(w'=w∨w'=w.drew):=by
 cases hf:(Question.mapNext N).forced with
 | true=>exact ⟨0,w,by simp[choose,Sem.run,hf],hN,.inl rfl⟩
 | false=>exact ⟨_,w.drew,by simp only[choose,Sem.run,hf,Bool.false_eq_true,if_false];rfl,Nat.mod_lt _ hN,.inr rfl⟩
theorem zxF [DecidableEq κ] {o:List (Nat×Obj)} {rm:List (κ×υ)} (st:St h0 w0 h w own) (hI:MI ek eu h v o vi rm) (hi:own[i]?=some o) (hx:ev σ x=vi) (hd:Nat.blt d n=true) (hE:rm=[]→∀ w',St h0 w0 h w' own→E P n ops rest K (upd σ d (.tuple #[.bool false])) w') (hN:∀ p rm' o' w' own',own'=own.set i o'→rm.Perm (p::rm')→MI ek eu h v o' vi rm'→MC ek eu h o' vi p→St h0 w0 h w' own'→E P n ops rest K (upd σ d (.tuple #[.bool true,ek p.1,eu p.2])) w'):
  E P n ops (⟨some d,.next x false,ty,pos,aft,none⟩::rest) K σ w:=by
 obtain ⟨b,mb,es,clock,seen,hb,rfl,hB,hD,rfl,rfl,hent⟩:=hI;have hmb:=st.sub _ _ hb;have hib:=st.get hi;have hg1:(getObj b).run P w=.ok (.mapIter (some mb) clock seen clock) w:=by simp[getObj,Sem.run,hib]
 have hg2:(getObj mb).run P w=.ok (.map es clock) w:=by simp[getObj,Sem.run,hmb]
 have hnot:(!seen.isEmpty && !es.isEmpty && es.all (fun e=>decide (e.born≥clock)))=false:=by
  cases hes:es.isEmpty with
  | true=>simp
  | false=>
   have:es.all (fun e=>decide (e.born≥clock))=false:=by
    rw[Bool.eq_false_iff];intro hall;rw[Array.all_eq_true'] at hall;have hne:es.toList≠[]:=by
     intro e;rw[Array.isEmpty] at hes;simp at hes;exact hes (by simpa using e)
    obtain ⟨e,he⟩:=List.exists_mem_of_ne_nil _ hne;have h1:=hall e (by simpa using he);have h2:=hB e he;simp at h1;omega
   rw[this];simp
 -- what is left, and what of it is old: all
 have hleft:(es.filter fun e=>!seen.contains e.born).toList=es.toList.filter fun e=>!seen.contains e.born:=by simp
 have hold:((es.filter fun e=>!seen.contains e.born).filter fun e=>decide (e.born<clock))=es.filter fun e=>!seen.contains e.born:=by
  rw[Array.filter_eq_self];intro e he;have:e∈es.toList:=by
   have:=(Array.mem_filter.1 he).1;simpa using this
  simpa using hB e this
 have hnew:((es.filter fun e=>!seen.contains e.born).filter fun e=>decide (e.born≥clock))=#[]:=by
  rw[Array.filter_eq_empty_iff];intro e he;have:e∈es.toList:=by
   have:=(Array.mem_filter.1 he).1;simpa using this
  have:=hB e this;simp;omega
 cases hlf:es.toList.filter (fun e=>!seen.contains e.born) with
 | nil=>
  rw[hlf] at hent;have hrm:rm=[]:=by
   cases rm with
   | nil=>rfl
   | cons p r=>exact hent.elim
  have hl0:(es.filter fun e=>!seen.contains e.born)=#[]:=by
   apply Array.ext';rw[hleft,hlf]
  obtain ⟨c,w',hr,hc,hw'⟩:=zra (P:=P) (N:=1) zU w;have hc0:c=0:=by omega
  subst hc0;have st':St h0 w0 h w' own:=by
   rcases hw' with rfl|rfl
   ·exact st
   ·exact st.drew
  refine zar rfl hd (v:=.tuple #[.bool false]) (w':=w') ?_ (hE hrm _ st');rw[hl0] at hold hnew;simp only[Run,execOp,hx,Instr.next,Sem.run_bind,hg1,Result.andThen_ok,hg2,hnot,Bool.false_eq_true,if_false,hl0,hold,hnew,Sem.run_pure];have e1:((if (#[]:Array MapEntry).isEmpty=true then #[none] else #[])++((#[]:Array MapEntry)++#[]).map some).size=1:=by simp
  rw[e1,hr];simp
 | cons e0 l0=>
  have hsz:0<(es.filter fun e=>!seen.contains e.born).size:=by
   rw[← Array.length_toList,hleft,hlf];simp
  have hne:(es.filter fun e=>!seen.contains e.born).isEmpty=false:=by
   cases hq:(es.filter fun e=>!seen.contains e.born).isEmpty with
   | false=>rfl
   | true=>rw[Array.isEmpty_iff] at hq;rw[hq] at hsz;simp at hsz
  obtain ⟨c,w1,hr1,hclt,hw1⟩:=zra (P:=P) hsz w;have st1:St h0 w0 h w1 own:=by
   rcases hw1 with rfl|rfl
   ·exact st
   ·exact st.drew
  have hib1:=st1.get hi;obtain ⟨e,he⟩:∃ e,e=(es.filter fun e=>!seen.contains e.born)[c]:=⟨_,rfl⟩;have hget:(es.toList.filter fun e=>!seen.contains e.born)[c]?=some e:=by
   rw[← hleft,Array.getElem?_toList,Array.getElem?_eq_getElem hclt,he]
  have hcl:c<(es.toList.filter fun e=>!seen.contains e.born).length:=(List.getElem?_eq_some_iff.1 hget).1;have hsplit:(es.toList.filter fun e=>!seen.contains e.born)=(es.toList.filter fun e=>!seen.contains e.born).take c++e::(es.toList.filter fun e=>!seen.contains e.born).drop (c+1):=by
   have h1:(es.toList.filter fun e=>!seen.contains e.born)[c]=e:=(List.getElem?_eq_some_iff.1 hget).2;rw[← h1,List.getElem_cons_drop hcl,List.take_append_drop]
  rw[hsplit] at hent;obtain ⟨p,rm',hp,hk1,hk2,hent'⟩:=hent.split;have hmem:e∈es.toList:=(List.mem_filter.1 (List.mem_of_getElem? hget)).1;have hrest:(es.toList.filter fun e'=>!(seen.push e.born).contains e'.born)=(es.toList.filter fun e=>!seen.contains e.born).take c++(es.toList.filter fun e=>!seen.contains e.born).drop (c+1):=by
   have h1:(es.toList.filter fun e'=>!(seen.push e.born).contains e'.born)=(es.toList.filter fun e=>!seen.contains e.born).filter fun e'=>!decide (e'.born=e.born):=by
    rw[List.filter_filter];apply List.filter_congr;intro e' _;simp[Array.contains_eq_mem,Array.mem_push];rw[Bool.and_comm]
   have hnd:((es.toList.filter fun e=>!seen.contains e.born).map (·.born)).Nodup:=(List.filter_sublist.map _).nodup hD;rw[h1];have hnd2:=hnd;rw[hsplit,List.map_append,List.map_cons,List.nodup_append,List.nodup_cons] at hnd2
   conv=>lhs;rw[hsplit]
   rw[List.filter_append,List.filter_cons];simp only[decide_true,Bool.not_true,Bool.false_eq_true,if_false];congr 1
   ·rw[List.filter_eq_self];intro q hq;have:=hnd2.2.2 q.born (List.mem_map_of_mem hq) e.born (List.mem_cons_self ..);simp[this]
   ·rw[List.filter_eq_self];intro q hq;have:q.born≠e.born:=fun h=>hnd2.2.1.1 (h▸List.mem_map_of_mem hq);simp[this]
  have hset:(setObj b (.mapIter (some mb) clock (seen.push e.born) clock)).run P w1=.ok () { w1 with heap:=w1.heap.setIfInBounds b (.mapIter (some mb) clock (seen.push e.born) clock) }:=by
   simp[setObj,Sem.run,hib1]
  refine zar rfl hd (v:=.tuple #[.bool true,ek p.1,eu p.2]) (w':={ w1 with heap:=w1.heap.setIfInBounds b (.mapIter (some mb) clock (seen.push e.born) clock) }) ?_ (hN p rm' [(b,.mapIter (some mb) clock (seen.push e.born) clock)] _ _ rfl hp ⟨b,mb,es,clock,_,hb,rfl,hB,hD,rfl,rfl,?_⟩ ⟨b,mb,es,clock,_,e,hb,rfl,rfl,hmem,by simp,hD,hk1,hk2⟩ (st1.set _ hi))
  ·simp only[Run,execOp,hx,Instr.next,Sem.run_bind,hg1,Result.andThen_ok,hg2,hnot,Bool.false_eq_true,if_false,hold,hnew,hne,Sem.run_pure];have hcand:((#[]++((es.filter fun e:MapEntry=>!seen.contains e.born)++#[]).map some:Array (Option MapEntry)))[c]?=some (some e):=by
    rw[he];simp only[Array.append_empty,Array.empty_append,Array.getElem?_map,Array.getElem?_eq_getElem hclt,Option.map_some]
   have hcs:(#[]++((es.filter fun e:MapEntry=>!seen.contains e.born)++#[]).map some:Array (Option MapEntry)).size=(es.filter fun e:MapEntry=>!seen.contains e.born).size:=by simp only[Array.append_empty,Array.empty_append,Array.size_map]
   rw[hcs,hr1];simp only[Result.andThen_ok,hcand,Sem.run_bind,hset,Sem.run_pure,hk1,hk2]
  ·rw[hrest];exact hent'
theorem zBm {o:List (Nat×Obj)} {p:κ×υ} (hs:Sub h w) (hC:MC ek eu h o vi p) (hw:∀ b ob,o=[(b,ob)]→w.heap[b]?=some ob) (hx:ev σ x=vi):
  Run P σ w ⟨dst,.entry x,ty,pos,aft,g⟩ (.tuple [ek p.1,eu p.2].toArray) w:=by
 obtain ⟨b,mb,es,clock,seen,e,hb,rfl,rfl,hm,hs',hD,h1,h2⟩:=hC;have hg1:(getObj b).run P w=.ok (.mapIter (some mb) clock seen clock) w:=by simp[getObj,Sem.run,hw _ _ rfl]
 have hg2:(getObj mb).run P w=.ok (.map es clock) w:=by simp[getObj,Sem.run,hs _ _ hb]
 have hf:es.find? (fun q=>q.born == e.born)=some e:=by
  rw[← Array.find?_toList];obtain ⟨j,hj⟩:=List.mem_iff_getElem?.1 hm;obtain ⟨hl,hj'⟩:=List.getElem?_eq_some_iff.1 hj;rw[List.find?_eq_some_iff_getElem];refine ⟨by simp,j,hl,hj',fun q hq=>?_⟩;have:=List.pairwise_iff_getElem.1 hD q j (by rw[List.length_map];omega) (by simpa using hl) hq;simp only[List.getElem_map,hj'] at this;simpa using this
 simp[Run,execOp,hx,Instr.entry,hg1,hg2,hs',hf,h1,h2]
end
theorem Sl.nilb {α:Type} {L:Lay α} {xs:List α} (hs:Sl L h v xs):∃ b,(b=true→xs=[])∧∀ {σ:Env} {w:World} {ty:TypeId} {pos:String} {aft:Array Edge} {g:Option (Nat×Bool)} {dst:Option Tmp} {t t':TypeId} {e:TypeId} {x y:Operand},P.underlying t=some (.slice e)→ev σ x=v→ev σ y=.slice none 0 0→
  Run P σ w ⟨dst,.binOp .eql t x y t',ty,pos,aft,g⟩ (.bool b) w:=by
 obtain ⟨p,c,rfl,_,hh⟩:=hs;refine ⟨p.isNone,?_,?_⟩
 ·intro hp
  rcases hh with rfl|⟨b,off,rfl,_⟩
  ·rfl
  ·cases hp
 ·intro σ w ty pos aft g dst t t' e x y ht hx hy;have hr:=run_equal_slice_nil (P:=P) w t e p xs.length c ht;simp[Run,execOp,hx,hy,eqGuard,binOp,hr]
section
variable {P:Program} {n:Nat} {ops:Array Oper} {rest:List Oper} {K:Env→World→Prop} {σ:Env} {w w0:World} {h0 h:Heap} {own:Own} {ty ty':TypeId} {pos pos':String} {aft aft':Array Edge} {d:Nat}
theorem znp:∀ (us pre cs:List Value),us.length=cs.length→zio (pre++cs) pre.length us=pre++us
 | [],pre,[],_=>by simp[zio]
 | u::us,pre,c::cs,h=>by
  have:=znp us (pre++[u]) cs (by simpa using h);simp only[zio,List.set_append_right _ _ (Nat.le_refl _),Nat.sub_self,List.set_cons_zero];simpa using this
 | [],_,_::_,h=>by simp at h
 | _::_,_,[],h=>by simp at h
theorem zjN (st:St h0 w0 h w own) {t: TypeId} (hz:∀ w,(zeroValue e).run P w=.ok z w) (hc:z.cells=cs.toArray) (hd:Nat.blt d n=true) (hx:x=.tmp d) (hy:∀ b,ev (upd σ d (.pointer (some ⟨b,0,none⟩))) y=.agg us.toArray) (h1:us.all (·.oneCell')=true) (hs:∀ w,(sizeOf t).run P w=.ok us.length w) (hl:us.length=cs.length) (hk:∀ b w' h',Le h h'→zay h' b 0 us→St h0 w0 h' w' own→E P n ops rest K (upd σ d (.pointer (some ⟨b,0,none⟩))) w'):
  E P n ops (⟨some d,.alloc e,ty,pos,aft,none⟩::⟨none,.store t x y,ty',pos',aft',none⟩::rest) K σ w:=by
 refine zad st hz hc hd fun b w1 st1=>?_;subst hx;refine zbE st1 (k:=own.length) (b:=b) (off:=0) (cs:=cs) (T:=e) (us:=us) (by simp) (by simp[ev,upd]) (hy b) h1 hs (by simp[hl]) (cs':=us) ?_ rfl fun w2 st2=>?_
 ·have:=znp us [] cs hl;simpa using this
 ·have e1:(own++[[(b,Obj.cells cs.toArray e)]]).set own.length [(b,.cells us.toArray e)]=own++[[(b,.cells us.toArray e)]]:=by simp
  rw[e1] at st2;obtain ⟨h',hle,hb,st3⟩:=st2.freeze (k:=own.length) (b:=b) (o:=.cells us.toArray e) (by simp);have e2:(own++[[(b,Obj.cells us.toArray e)]]).set own.length []=own++[[]]:=by simp
  rw[e2] at st3;exact hk b w2 h' hle (zay.of hb) ⟨st3.le,st3.new,st3.sub,st3.below,fun p hp=>st3.mine p (by simpa using hp),by simpa using st3.nodup⟩
end
theorem St.perm {own own':Own} (st:St h0 w0 h w own) (hp:own.Perm own'):St h0 w0 h w own':=by
 have e:own.flatten.Perm own'.flatten:=hp.flatten;exact ⟨st.le,st.new,st.sub,st.below,fun p hq=>st.mine p (e.mem_iff.2 hq),(e.map _).nodup_iff.1 st.nodup⟩
theorem zgk {own:Own} {t: TypeId} (st:St h0 w0 h w own) (hd:Nat.blt d n=true) (hs:∃ m,∀ w,(sizeOf e).run P w=.ok m w) (ht:P.underlying t=some (.slice e)) (hK:∀ v w',(∃ p,v=.slice p 0 0)→St h0 w0 h w' own→E P n ops rest K (upd σ d v) w'):
  E P n ops (⟨some d,.buildSlice t 0 #[],ty,pos,aft,none⟩::rest) K σ w:=by
 obtain ⟨m,hs⟩:=hs;have st1:=(st.alloc (.cells #[] e)).take own.length;rw[List.take_left'] at st1
 ·refine zar rfl hd (v:=.slice (some ⟨w.heap.size,0,none⟩) 0 0) (w':=w.alloc (.cells #[] e)) ?_ (hK _ _ ⟨_,rfl⟩ st1);have e0:Array.range 0=#[]:=rfl;simp[Run,execOp,Instr.buildSlice,run_underlying ht,hs,Instr.fill,newRow,e0]
 ·rfl
theorem zqj {a b: Nat} {t:TypeId} {T:TypeId} (hr:fn.results=#[.cell a t]) (hp:σ a=.pointer (some ⟨b,0,none⟩)) (ha:∀ w,(isAgg t).run P w=.ok true w) (hz:∀ w,(sizeOf t).run P w=.ok n w) (hn:cs.length=n) (hb:w.heap[b]?=some (.cells cs.toArray T)) (h:R (.returned (.agg cs.toArray)) w):zY fn P R .ret σ w:=by
 intro tmps ht;refine ⟨_,?_,h⟩;subst hn;have hl:=run_loadCells_list (P:=P) (w:=w) ⟨b,0,none⟩ cs (fun j v hj=>by rw[zfr];simp[World.cell?,hb,hj]);have hp':tmps.getD a undef=.pointer (some ⟨b,0,none⟩):=by rw[ht,hp]
 simp only[Array.getD_eq_getD_getElem?] at hp';simp[results,hr,hp',asAddr,loadVar,ha,hz,hl]
theorem zdT {a b: Nat} {t:TypeId} (hr:fn.results=#[.cell a t]) (hp:σ a=.pointer (some ⟨b,0,none⟩)) (ha:∀ w,(isAgg t).run P w=.ok true w) (hz:∀ w,(sizeOf t).run P w=.ok n w) (hn:cs.length=n) (hs:Sub h w) (hb:zay h b 0 cs) (hR:R (.returned (.agg cs.toArray)) w):zY fn P R .ret σ w:=by
 intro tmps ht;refine ⟨_,?_,hR⟩;subst hn;have hl:=run_loadCells_list (P:=P) (w:=w) ⟨b,0,none⟩ cs (fun j v hj=>by rw[zfr];exact hb.cell hs hj);have hp':tmps.getD a undef=.pointer (some ⟨b,0,none⟩):=by rw[ht,hp]
 simp only[Array.getD_eq_getD_getElem?] at hp';simp[results,hr,hp',asAddr,loadVar,ha,hz,hl]
theorem Sl.form {α:Type} {L:Lay α} {xs:List α} (hs:Sl L h v xs):∃ p c,v=.slice p xs.length c:=by
 obtain ⟨p,c,rfl,_⟩:=hs;exact ⟨p,c,rfl⟩
section
variable {P:Program} {σ:Env} {w:World} {ty:TypeId} {pos:String} {aft:Array Edge} {g:Option (Nat×Bool)} {dst:Option Tmp} {κ υ:Type} {ek:κ→Value} {eu:υ→Value}
end
section
variable {P:Program} {n:Nat} {ops:Array Oper} {rest:List Oper} {K:Env→World→Prop} {σ:Env} {w w0:World} {h0 h:Heap} {own:Own} {ty ty' ty2:TypeId} {pos pos' pos2:String} {aft aft' aft2:Array Edge} {d:Nat}
theorem ztq (st:St h0 w0 h w own) {t: TypeId} {z2: Operand} {d2:Nat} {v2:Value} (hz:∀ w,(zeroValue e).run P w=.ok z w) (hc:z.cells=cs.toArray) (hd:Nat.blt d n=true) (h2:∀ b,ev (upd σ d (.pointer (some ⟨b,0,none⟩))) z2=v2) (hd2:Nat.blt d2 n=true) (hx:x=.tmp d) (hne:Nat.beq d d2=false) (hy:∀ b,ev (upd (upd σ d (.pointer (some ⟨b,0,none⟩))) d2 v2) y=.agg us.toArray) (h1:us.all (·.oneCell')=true) (hs:∀ w,(sizeOf t).run P w=.ok us.length w) (hl:us.length=cs.length) (hk:∀ b w' h',Le h h'→zay h' b 0 us→St h0 w0 h' w' own→E P n ops rest K (upd (upd σ d (.pointer (some ⟨b,0,none⟩))) d2 v2) w'):
  E P n ops (⟨some d,.alloc e,ty,pos,aft,none⟩::⟨some d2,.assign z2,ty2,pos2,aft2,none⟩::⟨none,.store t x y,ty',pos',aft',none⟩::rest) K σ w:=by
 refine zad st hz hc hd fun b w1 st1=>?_;subst hx;refine zar rfl hd2 (zjB (v:=v2) (h2 b)) ?_;refine zbE st1 (k:=own.length) (b:=b) (off:=0) (cs:=cs) (T:=e) (us:=us) (by simp) (by simp[ev,upd,updO,hne]) (hy b) h1 hs (by simp[hl]) (cs':=us) ?_ rfl fun w2 st2=>?_
 ·have:=znp us [] cs hl;simpa using this
 ·have e1:(own++[[(b,Obj.cells cs.toArray e)]]).set own.length [(b,.cells us.toArray e)]=own++[[(b,.cells us.toArray e)]]:=by simp
  rw[e1] at st2;obtain ⟨h',hle,hb,st3⟩:=st2.freeze (k:=own.length) (b:=b) (o:=.cells us.toArray e) (by simp);have e2:(own++[[(b,Obj.cells us.toArray e)]]).set own.length []=own++[[]]:=by simp
  rw[e2] at st3;exact hk b w2 h' hle (zay.of hb) ⟨st3.le,st3.new,st3.sub,st3.below,fun p hp=>st3.mine p (by simpa using hp),by simpa using st3.nodup⟩
end
def FML {κ υ:Type} (ek:κ→Value) (eu:υ→List Value) (L:Lay υ) (h:Heap) (m:List (κ×υ)) (v:Value):Prop:=FM ek (fun x=>.agg (eu x).toArray) h m v∧∀ p∈m,L.R h (eu p.2) p.2
theorem FML.up {κ υ:Type} {ek:κ→Value} {eu:υ→List Value} {L:Lay υ} {h h':Heap} {m:List (κ×υ)} {v:Value} (f:FML ek eu L h m v) (l:Le h h'):FML ek eu L h' m v:=⟨f.1.up l,fun p hp=>L.up (f.2 p hp) l⟩
theorem FML.one {κ υ:Type} {ek:κ→Value} {eu:υ→List Value} {L:Lay υ} {h:Heap} {m:List (κ×υ)} {v:Value} (f:FML ek eu L h m v):v.oneCell'=true:=f.1.one
theorem FML.to {eu:υ→List Value} {L:Lay υ} {m' : List (κ×υ)} (f:FML ek eu L h m v) (e:m=m'):FML ek eu L h m' v:=e▸f
structure Office where
 lex:Lexicon
 text:Text
 stands:(List (Int×Decision))
 deriving DecidableEq
def zyg:Lay Office:={ size:=4,R:=fun h vs x=>∃ v0 v1 v2 v3,vs=[v0,v1,v2,v3]∧Sl zcS h v0 x.lex.rules∧Sl zau h v1 x.lex.decisions∧Sl zax h v2 x.text.chapters∧FML (fun n:Int=>.int .i64 n) (fun x:Decision=>[.int .i64 x.number,.int .u8 x.kind,zae x.form,.int .i64 x.at_.chapter,.int .i64 x.at_.line,.int .i64 x.at_.word,zae x.to.stem,.int .u8 x.to.mark,.int .i64 x.of_]) zau h x.stands v3,up:=(by rintro _ _ _ _ ⟨v0,v1,v2,v3,rfl,f0,f1,f2,f3⟩ hl;exact ⟨v0,v1,v2,v3,rfl,f0.up hl,f1.up hl,f2.up hl,f3.up hl⟩),len:=(by rintro _ _ _ ⟨_,_,_,_,rfl,_,_,_,_⟩;rfl),one:=(by rintro _ _ _ ⟨v0,v1,v2,v3,rfl,f0,f1,f2,f3⟩ u hu;simp only[List.mem_cons,List.not_mem_nil,or_false] at hu;rcases hu with rfl|rfl|rfl|rfl <;> first|rfl|exact Sl.one (by assumption)|exact FML.one (by assumption)) }
structure Entry where
 at_:Place
 word:Str
 head:Head
 deriving DecidableEq
def zfQ:Lay Entry:={ size:=6,R:=fun _ vs x=>vs=[.int .i64 x.at_.chapter,.int .i64 x.at_.line,.int .i64 x.at_.word,zae x.word,zae x.head.stem,.int .u8 x.head.mark]∧x.word.length≤big∧x.head.stem.length≤big∧(0≤x.head.mark∧x.head.mark≤255),up:=fun h _=>h,len:=(by rintro _ _ _ ⟨rfl,_,_,_⟩;rfl),one:=(by rintro _ _ _ ⟨rfl,f0,f1,f2⟩ u hu;simp only[List.mem_cons,List.not_mem_nil,or_false] at hu;rcases hu with rfl|rfl|rfl|rfl|rfl|rfl <;> first|rfl|exact Sl.one (by assumption)) }
section
variable {P:Program} {σ:Env} {w:World} {ty:TypeId} {pos:String} {aft:Array Edge} {g:Option (Nat×Bool)} {dst:Option Tmp}
def zDO (s i:Int):Int:=s / 2 ^ i.toNat % 2
end
structure Reading where
 at_:Place
 kind:Int
 word:Str
 deriving DecidableEq
def zdS:Lay Reading:={ size:=5,R:=fun _ vs x=>vs=[.int .i64 x.at_.chapter,.int .i64 x.at_.line,.int .i64 x.at_.word,.int .u8 x.kind,zae x.word]∧(0≤x.kind∧x.kind≤255)∧x.word.length≤big,up:=fun h _=>h,len:=(by rintro _ _ _ ⟨rfl,_,_⟩;rfl),one:=(by rintro _ _ _ ⟨rfl,f0,f1⟩ u hu;simp only[List.mem_cons,List.not_mem_nil,or_false] at hu;rcases hu with rfl|rfl|rfl|rfl|rfl <;> first|rfl|exact Sl.one (by assumption)) }
structure Copy where
 id:Int
 readings:(List Reading)
 deriving DecidableEq
def zeS:Lay Copy:={ size:=2,R:=fun h vs x=>∃ v0,vs=[.int .i64 x.id,v0]∧Sl zdS h v0 x.readings,up:=(by rintro _ _ _ _ ⟨v0,rfl,f0⟩ hl;exact ⟨v0,rfl,f0.up hl⟩),len:=(by rintro _ _ _ ⟨_,rfl,_⟩;rfl),one:=(by rintro _ _ _ ⟨v0,rfl,f0⟩ u hu;simp only[List.mem_cons,List.not_mem_nil,or_false] at hu;rcases hu with rfl|rfl <;> first|rfl|exact Sl.one (by assumption)) }
structure Six where
 a:Int
 b:Int
 c:Int
 d:Int
 e:Int
 f:Int
deriving DecidableEq
def sixV (s:Six):Value:=.agg #[.int .i64 s.a,.int .i64 s.b,.int .i64 s.c,.int .i64 s.d,.int .i64 s.e,.int .i64 s.f]
theorem zBi (he:P.underlying e=some (.int .i64)) (d:Nat) (a b:Int) (w:World):(Op.equalIn (d+1) e (.int .i64 a) (.int .i64 b)).run P w=.ok (a == b) w:=by
 rw[Op.equalIn];simp[run_underlying he]
structure KeyF {κ:Type} [DecidableEq κ] (P:Program) (kt:TypeId) (ek:κ→Value):Prop where
 eq:∀ a b w,(Op.equal kt (ek a) (ek b)).run P w=.ok (decide (a=b)) w
 now:∀ (a b:κ) (w:World),∃ kind,P.underlying kt=some kind∧Instr.sameNow kind (ek a) (ek b)=none
 check:∀ b k w,(Instr.checkKey b 10000 kt (ek k)).run P w=.ok () w
theorem zrt {κ υ:Type} [DecidableEq κ] {P:Program} {kt:TypeId} {ek:κ→Value} {eu:υ→Value} (hK:KeyF P kt ek) {k:κ} (w:World):∀ {es:List MapEntry} {m:List (κ×υ)} (i:Nat),Ent ek eu es m→zcb m k=none→(Instr.findAsking kt (ek k) es i).run P w=.ok none w
 | [],[],_,_,_=>by simp[Instr.findAsking]
 | e::es,p::m,i,h,hl=>by
  simp only[zcb,List.find?_cons] at hl;have hne:¬ p.1=k:=fun e=>by simp[e] at hl
  simp only[hne,decide_false] at hl;have hne':¬ k=p.1:=fun e=>hne e.symm;have e1:=hK.eq k p.1 w;rw[decide_eq_false hne'] at e1;simp[Instr.findAsking,h.1,e1,zrt hK w (i+1) h.2.2 hl]
 | [],_::_,_,h,_=>h.elim
 | _::_,[],_,h,_=>h.elim
theorem zrs {κ υ:Type} [DecidableEq κ] {P:Program} {kt:TypeId} {ek:κ→Value} {eu:υ→Value} (hK:KeyF P kt ek) {k:κ} (w:World) {v:υ}:∀ {es:List MapEntry} {m:List (κ×υ)} (i:Nat),Ent ek eu es m→zcb m k=some v→∃ j,(Instr.findAsking kt (ek k) es i).run P w=.ok (some (j,eu v)) w
 | [],[],_,_,hl=>by cases hl
 | e::es,p::m,i,h,hl=>by
  by_cases hne:p.1=k
  ·simp only[zcb,List.find?_cons,hne,decide_true,Option.map_some,Option.some.injEq] at hl;have e1:=hK.eq k p.1 w;rw[decide_eq_true hne.symm] at e1;exact ⟨i,by simp[Instr.findAsking,h.1,e1,h.2.1,hl]⟩
  ·have hl':zcb m k=some v:=by simpa only[zcb,List.find?_cons,hne,decide_false] using hl
   obtain ⟨j,hj⟩:=zrs hK w (i+1) h.2.2 hl';have e1:=hK.eq k p.1 w;rw[decide_eq_false (fun e=>hne e.symm)] at e1;exact ⟨j,by simp[Instr.findAsking,h.1,e1,hj]⟩
 | [],_::_,_,h,_=>h.elim
 | _::_,[],_,h,_=>h.elim
theorem zxY [DecidableEq κ] {eu:υ→Value} (hK:KeyF P kt ek) {k:κ} (w:World) {es:List MapEntry} (h:Ent ek eu es m):∃ j,(Instr.findKey kt (ek k) es).run P w=.ok ((zcb m k).map fun v=>(j,eu v)) w:=by
 obtain ⟨kind,hu,hn⟩:=hK.now k k w;cases es with
 | nil=>
  cases m with
  | nil=>exact ⟨0,by simp[Instr.findKey,run_underlying hu,Instr.findNow,zcb]⟩
  | cons _ _=>exact h.elim
 | cons e es=>
  cases m with
  | nil=>exact h.elim
  | cons p m=>
   obtain ⟨kind',hu',hn'⟩:=hK.now k p.1 w;obtain rfl:=Option.some.inj (hu.symm.trans hu');have e1:Instr.findNow kind (ek k) (e::es) 0=none:=by simp[Instr.findNow,h.1,hn']
   cases hl:zcb (p::m) k with
   | none=>
    have:=zrt hK w 0 h hl;exact ⟨0,by simp only[Instr.findKey,Sem.run_bind,run_underlying hu,Result.andThen_ok,e1,this,Option.map_none]⟩
   | some v=>
    obtain ⟨j,hj⟩:=zrs hK w 0 h hl;exact ⟨j,by simp only[Instr.findKey,Sem.run_bind,run_underlying hu,Result.andThen_ok,e1,hj,Option.map_some]⟩
section
variable {κ υ:Type} {ek:κ→Value} {eu:υ→Value}
variable {P:Program} {n:Nat} {ops:Array Oper} {rest:List Oper} {K:Env→World→Prop} {σ:Env} {w w0:World} {h0 h:Heap} {own:Own} {ty:TypeId} {pos:String} {aft:Array Edge} {d:Nat} {dst:Option Tmp} {g:Option (Nat×Bool)}
theorem zxO [DecidableEq κ] {t: TypeId} {m:List (κ×υ)} {o:List (Nat×Obj)} {zv: Value} {k:κ} {zu:υ} (hK:KeyF P kt ek) (ht:P.underlying t=some (.map kt et)) (hM:OM ek eu m o v) (hw:∀ b ob,o=[(b,ob)]→w.heap[b]?=some ob) (hz:∀ w,(zeroValue et).run P w=.ok zv w) (hzu:zv=eu zu) (hx:ev σ x=v) (hy:ev σ y=ek k):
  Run P σ w ⟨dst,.lookup t x y false,ty,pos,aft,g⟩ (eu ((zcb m k).getD zu)) w:=by
 obtain ⟨b,es,clock,rfl,rfl,hE,_,_⟩:=hM;have hb:=hw b _ rfl;obtain ⟨j,hf⟩:=zxY hK (k:=k) w hE;have hc:=hK.check es.isEmpty k w;have hg:(getObj b).run P w=.ok (.map es clock) w:=by simp[getObj,Sem.run,hb]
 subst hzu;have:(Instr.lookup t (.map (some b)) (ek k) false).run P w=.ok (eu ((zcb m k).getD zu)) w:=by
  simp only[Instr.lookup,Sem.run_bind,run_underlying ht,Result.andThen_ok,hg,Sem.run_pure,hc,hf];cases zcb m k with
  | none=>simp[hz]
  | some r=>simp
 simp[Run,execOp,hx,hy,this]
theorem zrH [DecidableEq κ] {t: TypeId} {z: Operand} {m:List (κ×υ)} {o:List (Nat×Obj)} {k:κ} {u:υ} (st:St h0 w0 h w own) (hM:OM ek eu m o v) (hi:own[i]?=some o) (hn:(m.map (·.1)).Nodup) (hK:KeyF P kt ek) (ht:P.underlying t=some (.map kt et)) (hl:zcb m k=none) (hx:ev σ x=v) (hy:ev σ y=ek k) (hz:ev σ z=eu u) (hk:∀ o' w' own',own'=own.set i o'→OM ek eu (zgd m k u) o' v→((zgd m k u).map (·.1)).Nodup→St h0 w0 h w' own'→E P n ops rest K σ w'):
  E P n ops (⟨none,.mapUpdate t x y z,ty,pos,aft,none⟩::rest) K σ w:=by
 obtain ⟨b,es,clock,rfl,rfl,hE,hB,hD⟩:=hM;have hb:=st.get hi;have hg:(getObj b).run P w=.ok (.map es clock) w:=by simp[getObj,Sem.run,hb]
 have hset:∀ es' c',(setObj b (.map es' c')).run P w=.ok () { w with heap:=w.heap.setIfInBounds b (.map es' c') }:=by
  intro es' c';simp[setObj,Sem.run,hb]
 have hc:=hK.check false k w;obtain ⟨j,hf⟩:=zxY hK (k:=k) w hE;rw[hl] at hf;have hp:zgd m k u=m++[(k,u)]:=by simp[zgd,hl]
 refine zlv rfl rfl (w':={ w with heap:=w.heap.setIfInBounds b (.map (es.push { key:=ek k,val:=eu u,born:=clock }) (clock+1)) }) ?_ (hk _ _ _ rfl ⟨b,es.push { key:=ek k,val:=eu u,born:=clock },clock+1,rfl,rfl,?_,?_,?_⟩ ?_ (st.set _ hi))
 ·simp only[execOp,hx,hy,hz,Instr.mapUpdate,Sem.run_bind,run_underlying ht,Result.andThen_ok,hg,hc,hf,Option.map_none,hset,Sem.run_pure]
 ·rw[hp,Array.toList_push];exact hE.snoc rfl rfl
 ·intro e he;rw[Array.toList_push,List.mem_append] at he
  rcases he with he|he
  ·exact Nat.lt_succ_of_lt (hB e he)
  ·simp at he;subst he;exact Nat.lt_succ_self _
 ·rw[Array.toList_push,List.map_append,List.nodup_append];refine ⟨hD,by simp,fun a ha c hc'=>?_⟩;simp at hc';subst hc';obtain ⟨e,he,rfl⟩:=List.mem_map.1 ha;exact Nat.ne_of_lt (hB e he)
 ·rw[hp,List.map_append,List.nodup_append];refine ⟨hn,by simp,fun a ha c hc'=>?_⟩;simp at hc';subst hc';rintro rfl;obtain ⟨p,hp',rfl⟩:=List.mem_map.1 ha;have:(m.find? fun q=>decide (q.1=p.1)).isSome=true:=by
   rw[List.find?_isSome];exact ⟨p,hp',by simp⟩
  simp only[zcb,Option.map_eq_none_iff] at hl;rw[hl] at this;cases this
end
end Go.Pk

namespace Go.Pk
open Go Go.RowKit Go.ChangeShapes Go.WideShapes Go.ChangeAt
variable {v:Value} {n fuel base:Nat} {cs:List Value} {α H:Type} {L:Lay α} {e:TypeId} {sp:Nat→Bool} {held:Bool} {d:DataW H} {ps p q:List MemPlace} {fs:Array Field} {r:Reach} {ds:List (DataW H)} {P:Program}
def ziC (W:World):Heap:=fun b=>W.heap[b]?
theorem zoT (W:World):Sub (ziC W) W:=fun _ _ h=>h
def zcF {α:Type} (P:Program) (W:World) (t:TypeId) (L:Lay α):Prop:=
 ∀ {H:Type} (enc:TypeId×Value→H) (sp:Nat→Bool) (held:Bool) (fuel:Nat) (cs:List Value) (d:DataW H) (ps:List MemPlace),
  DataW.trod enc P W 0 sp held fuel t cs=some (d,ps)→(∀ n∈d.weights P t,n≤reachBytes)→∃ x:α,L.R (ziC W) cs x
section
variable {P:Program} {W:World} {t:TypeId}
theorem zyx (hu:P.underlying t=some (.int .i64)):zcF P W t zcy:=by
 intro H enc sp held fuel cs d ps h _;obtain ⟨n,rfl,_,_⟩:=DataW.trod_int hu h;exact ⟨n,rfl⟩
theorem zzD (hu:P.underlying t=some (.int .u8)):zcF P W t LU8:=by
 intro H enc sp held fuel cs d ps h _;obtain ⟨n,rfl,_,hw⟩:=DataW.trod_int hu h;simp[Lit.wf,IntKind.min,IntKind.max,IntKind.bits,IntKind.signed] at hw;exact ⟨n,rfl,by omega⟩
theorem zyw (hu:P.underlying t=some .string):zcF P W t zcn:=by
 intro H enc sp held fuel cs d ps h hw;obtain ⟨s,rfl,hx,_⟩:=DataW.trod_string hu h;simp only[Prod.mk.injEq] at hx;obtain ⟨rfl,_⟩:=hx;refine ⟨s.data.toList,?_,?_⟩
 ·simp[zae]
 have:=hw _ (by simp[DataW.weights]:s.data.toList.length∈_);unfold reachBytes at this;unfold big;omega
theorem znh {H:Type} {e:TypeId}:∀ {ds:List (DataW H)} {d:DataW H},d∈ds→∀ n∈d.weights P e,n∈DataW.weightsAll P e ds
 | _::_,_,h,n,hn=>by
  rw[DataW.weightsAll,List.mem_append]
  rcases List.mem_cons.1 h with rfl|h
  ·exact .inl hn
  ·exact .inr (znh h n hn)
theorem zro {α:Type} {R:Nat→α→Prop}:∀ n,(∀ i,i<n→∃ x,R i x)→∃ xs:List α,xs.length=n∧∀ i x,xs[i]?=some x→R i x
 | 0,_=>⟨[],rfl,by simp⟩
 | n+1,h=>by
  obtain ⟨xs,hl,hx⟩:=zro n fun i hi=>h i zU;obtain ⟨y,hy⟩:=h n zU;refine ⟨xs++[y],by simp[hl],fun i x hi=>?_⟩
  by_cases hlt:i<xs.length
  ·rw[List.getElem?_append_left hlt] at hi;exact hx i x hi
  ·rw[List.getElem?_append_right zU] at hi;have hi0:i-xs.length=0:=by
    rcases Nat.eq_zero_or_pos (i-xs.length) with h0|h0
    ·exact h0
    ·rw[List.getElem?_eq_none (by simp;omega)] at hi;cases hi
   rw[hi0] at hi;simp only[List.getElem?_cons_zero,Option.some.injEq] at hi;subst hi;have:i=n:=by omega
   subst this;exact hy
theorem zmF {b off:Nat} {sp:Option _} (h:W.cell? ⟨b,off,sp⟩=some v):sp=none∧∃ c T fr,W.heap[b]?=some (.cells c T fr)∧c[off]?=some v:=by
 have hs:=World.cell?_spot h;simp only at hs;subst hs;refine ⟨rfl,?_⟩;simp only[World.cell?] at h;cases hb:W.heap[b]? with
 | none=>rw[hb] at h;cases h
 | some o=>
  rw[hb] at h;cases o with
  | cells c T fr=>exact ⟨c,T,fr,rfl,by simpa using h⟩
  | _=>cases h
theorem zwz {a:Addr} (h:W.cells? 0 a n=some cs) (hn:0<n):∃ b off,a=⟨b,off,none⟩∧zay (ziC W) b off cs:=by
 unfold World.cells? at h;rw[if_pos (Nat.zero_le _)] at h;have hl:=mapM_some_length h;have hg:∀ j,j<n→W.cell? (a.add j)=cs[j]?:=fun j hj=>mapM_some_get h j j (by simp[hj]);obtain ⟨b,off,sp⟩:=a;have hlen:cs.length=n:=by simpa using hl
 have h0:=hg 0 hn;rw[List.getElem?_eq_getElem zU] at h0;have e0:(⟨b,off,sp⟩:Addr).add 0=⟨b,off,sp⟩:=by simp[Addr.add]
 rw[e0] at h0;obtain ⟨rfl,c,T,fr,hb,_⟩:=zmF h0;refine ⟨b,off,rfl,c,T,fr,hb,fun j v hj=>?_⟩;have hjl:j<n:=by rw[← hlen];exact (List.getElem?_eq_some_iff.1 hj).1
 have:=hg j hjl;rw[zfr,hj] at this;obtain ⟨_,c',T',fr',hb',hc'⟩:=zmF this;rw[hb] at hb';cases hb';exact hc'
theorem zkr (hu:P.underlying t=some (.slice e)) (hc:P.cellsOf e=L.size) (hp:Nat.blt 0 L.size=true) (hb:Nat.blt 0 (P.bytesOf e)=true) (hr:zcF P W e L):zcF P W t (LSl L):=by
 intro H enc sp held fuel cs d ps h hw;have hp:0<L.size:=by simpa using hp
 have hb:0<P.bytesOf e:=by simpa using hb
 rcases DataW.trod_slice hu h with ⟨rfl,_⟩|⟨a,len,cap,elems,rest,n,_,rfl,hx,_,_,_,hlen,hel,_,_⟩
 ·exact ⟨[],_,rfl,Sl.nil L _⟩
 simp only[Prod.mk.injEq] at hx;obtain ⟨rfl,_⟩:=hx;simp only[DataW.weights,hu,List.length_map] at hw;have h1:=hw _ (List.mem_cons_self ..);have hle:len≤big:=by
  have h2:len≤(elems.length+rest.length)*P.bytesOf e:=by
   rw[hlen];exact Nat.le_trans (Nat.le_add_right _ _) (Nat.le_mul_of_pos_right _ hb)
  unfold reachBytes at h1;unfold big;omega
 have hE:∀ i,i<len→∃ x:α,∃ vs,W.cells? 0 (a.add (i*L.size)) L.size=some vs∧L.R (ziC W) vs x:=by
  intro i hi;have hi':i<elems.length:=by omega
  have:=hel i hi;rw[List.getElem?_eq_getElem hi',hc] at this;obtain ⟨vs,h3,h4⟩:=Option.bind_eq_some_iff.1 this;obtain ⟨x,hx⟩:=hr enc sp held n vs elems[i].1 elems[i].2 h4 (fun q hq=>hw q (List.mem_cons_of_mem _ (List.mem_append_left _ (znh (List.mem_map_of_mem (List.getElem_mem hi')) q hq))));exact ⟨x,vs,h3,hx⟩
 obtain ⟨xs,hxl,hxs⟩:=zro len hE;refine ⟨xs,_,rfl,some a,cap,by rw[hxl],by omega,?_⟩;cases xs with
 | nil=>exact .inl rfl
 | cons x0 xs'=>
  right;obtain ⟨vs0,h5,_⟩:=hxs 0 x0 rfl;have e0:a.add (0*L.size)=a:=by simp[Addr.add]
  rw[e0] at h5;obtain ⟨b,off,rfl,_⟩:=zwz h5 hp;refine ⟨b,off,rfl,fun i x hi=>?_⟩;obtain ⟨vs,h6,h7⟩:=hxs i x hi;rw[zfr] at h6;obtain ⟨b',off',he,hcl⟩:=zwz h6 hp;cases he;exact ⟨vs,hcl,h7⟩
theorem zeB {enc:TypeId×Value→H} {N:Nat} (hu:P.underlying t=some (.struct fs)) (hc:P.cellsOf t=N) (h:DataW.trod enc P W 0 sp held fuel t cs=some (d,ps)) (hw:∀ n∈d.weights P t,n≤reachBytes):
  cs.length=N∧∀ (i:Nat) (f:Field) {α:Type} {L:Lay α},fs[i]?=some f→zcF P W f.type L→∃ x,L.R (ziC W) ((cs.drop f.offset).take (P.cellsOf f.type)) x:=by
 obtain ⟨xs,n,_,hx,hl,hlen,hf⟩:=DataW.trod_struct hu h;simp only[Prod.mk.injEq] at hx;obtain ⟨rfl,_⟩:=hx;refine ⟨by rw[hl,hc],fun i f α L hi hr=>?_⟩;have hil:i<xs.length:=by rw[hlen];exact (Array.getElem?_eq_some_iff.1 hi).1
 have:=hf i f hi;rw[List.getElem?_eq_getElem hil] at this;refine hr enc sp held n _ xs[i].1 xs[i].2 this (fun q hq=>hw q ?_);simp only[DataW.weights,hu];exact DataW.weights_mem_each (j:=i) (t:=f.type) (d:=xs[i].1) (by rw[List.getElem?_map,Array.getElem?_toList,hi];rfl) (by rw[List.getElem?_map,List.getElem?_eq_getElem hil];rfl) q hq
theorem zxn (hu:P.underlying t=some (.struct fs)) (h:Value.okWide P W r base t v):∃ cs,v=.agg cs:=by
 simp only[Value.okWide,hu] at h;obtain ⟨cs,e,_⟩:=h;exact ⟨cs,e⟩
theorem zqr {enc:TypeId×Value→H} (hu:P.underlying t=some (.struct fs)) (hr:zcF P W t L) (hok:Value.okWide P W r base t v) (h:DataW.Trod enc P W 0 sp held t v d ps) (hw:∀ n∈d.weights P t,n≤reachBytes):
  ∃ cs x,v=.agg (List.toArray cs)∧L.R (ziC W) cs x:=by
 obtain ⟨cs,rfl⟩:=zxn hu hok;obtain ⟨fuel,h⟩:=h;obtain ⟨x,hx⟩:=hr enc sp held fuel _ d ps h hw;exact ⟨cs.toList,x,by simp,by simpa [Value.cells] using hx⟩
theorem zoL {ts:List TypeId} (h:(DataW.weightsEach P ts ds).all (·≤reachBytes)=true) {j:Nat} {t:TypeId} (ht:ts[j]?=some t) (hd:ds[j]?=some d):∀ n∈d.weights P t,n≤reachBytes:=by
 intro n hn;have:=List.all_eq_true.1 h n (DataW.weights_mem_each ht hd n hn);simpa using this
end
theorem Bel.old {B:Nat} {w w':World} (b:Bel B w w'):Below B w w':=⟨b.os,b.tape,b.output,b.size,b.block⟩
theorem zoB {H:Type} {enc:TypeId×Value→H} {P:Program} {W W':World} {sp:Nat→Bool} (hl:laidOutB P=true) (hb:Below W.heap.size W W'):∀ {ts:List TypeId} {vs:List Value} {ds:List (DataW H)} {ps:List MemPlace},
  (∀ t∈ts,P.readableRec t=true∧t<P.types.size)→DataW.TrodAll enc P W 0 (fun _=>true) true ts vs ds ps→(∀ x∈ps,x.block<W.heap.size)→(∀ x∈ps,sp x.block=true)→DataW.TrodAll enc P W' 0 sp true ts vs ds ps
 | [],_,_,_,_,h,_,_=>by
  obtain ⟨rfl,rfl,rfl⟩:=trodAll_nil h;exact trodAll_mk0
 | t::ts,_,_,_,ht,h,hlt,hs=>by
  obtain ⟨v,vs,d,ds,p,q,rfl,rfl,rfl,h1,h2⟩:=trodAll_cons h;obtain ⟨hr,hrow⟩:=ht t (List.mem_cons_self ..);refine ⟨p,q,WideElems.Trod_stays hl hr hrow h1 (fun x hx=>hb.same (hlt x (List.mem_append_left _ hx))) (fun x hx=>hs x (List.mem_append_left _ hx)),?_,rfl⟩;exact zoB hl hb (fun t' h'=>ht t' (List.mem_cons_of_mem _ h')) h2 (fun x hx=>hlt x (List.mem_append_right _ hx)) (fun x hx=>hs x (List.mem_append_right _ hx))
theorem zAk {enc:TypeId×Value→H} {f:Func} {s:ChangeSpec} {apart fresh handsOn again:Bool} {W W':World} {args:Array Value} {gs: List (DataW H)} {before:List MemPlace} {tb:TypeId} (hl:laidOutB P=true) (hts:∀ t∈f.params.toList,P.readableRec t=true∧t<P.types.size) (hW:DataW.Whole enc P f.params.toList s.vars apart W args.toList ds gs before) (hv:s.vars=[]) (hs:(s.fn H ds).results=[.lit (.bool true)]∧(s.fn H ds).args=ds∧(s.fn H ds).vars=[]) (hr:f.resultTypes=#[tb]) (hu:P.underlying tb=some .bool) (hb:Bel W.heap.size W W'):
  s.post enc P f apart fresh handsOn again W args (.bool true) W':=by
 have hW0:=hW;have hbo:=hb.old;obtain ⟨p,q,hA,hV,rfl,hz,hn⟩:=hW;rw[hv] at hV;obtain ⟨rfl,rfl⟩:=trodVars_none hV;simp only[List.append_nil] at hW0 hz hn;have hlt:∀ x∈p,x.block<W.heap.size:=fun x hx=>by simpa using hW0.lt x hx
 have hargs:∀ sp:Nat→Bool,(∀ x∈p,sp x.block=true)→DataW.TrodAll enc P W' 0 sp true f.params.toList args.toList ds p:=fun sp h=>zoB hl hbo hts hA hlt h;have hres:∀ (b:Nat) (sp:Nat→Bool) (hd:Bool),DataW.TrodAll enc P W' b sp hd f.resultTypes.toList ((Value.bool true).resultList f.resultTypes.size) [.lit (.bool true)] []:=by
  intro b sp hd;rw[hr];exact trodAll_mk1 (shut_bool hu true)
 have hold:∀ x∈p,(fun b=>decide (b<W.heap.size)) x.block=true:=fun x hx=>by simpa using hlt x hx
 have hargs':∀ sp:Nat→Bool,(∀ x∈p,sp x.block=true)→DataW.TrodAll enc P W' 0 sp true f.params.toList args.toList (s.fn H (ds++[])).args p:=by
  intro sp h;rw[List.append_nil,hs.2.1];exact hargs sp h
 have hres':∀ (b:Nat) (sp:Nat→Bool) (hd:Bool),DataW.TrodAll enc P W' b sp hd f.resultTypes.toList ((Value.bool true).resultList f.resultTypes.size) (s.fn H (ds++[])).results []:=by
  intro b sp hd;rw[List.append_nil,hs.1];exact hres b sp hd
 have hvars':∀ sp:Nat→Bool,DataW.TrodVars enc P W' sp s.vars (s.fn H (ds++[])).vars []:=by
  intro sp;rw[List.append_nil,hs.2.2,hv];rfl
 refine ⟨ds,[],p,[],p,[],hW0,hres' _ _ _,hargs' _ hold,hvars' _,hbo.frame _,fun _=>?_⟩;refine ⟨ok_one hr rfl (okWide_bool_mk hu _),_,_,([]++p)++[],⟨[]++p,[],trodAll_append (hargs' _ (fun _ _=>rfl)) (hres' _ _ _),hvars' _,rfl,?_,?_⟩,?_⟩
 ·intro b off hp;have hp':MemPlace.cell b off∈p:=by simpa using hp
  have:=hbo.frozen (p:=⟨b,off,none⟩) (hlt _ hp');rw[this];exact hz b off hp'
 ·intro ha;simpa using hn ha
 ·intro x hx _;simpa using hx
section
variable {H:Type} {enc:TypeId×Value→H} {P:Program} {W:World} {base:Nat} {sp:Nat→Bool} {held:Bool} {t:TypeId}
theorem zkW {ds:List (DataW H)} (hu:P.underlying t=some (.array n e)) (h:DataW.trod enc P W base sp held fuel t cs=some (.agg ds,p)):
  cs.length=P.cellsOf t∧∀ i d,ds[i]?=some d→∃ m q,DataW.trod enc P W base sp held m e ((cs.drop (i*P.cellsOf e)).take (P.cellsOf e))=some (d,q):=by
 obtain ⟨xs,m,_,hx,hl,hn,hel⟩:=DataW.trod_array hu h;simp only[Prod.mk.injEq,DataW.agg.injEq] at hx;obtain ⟨rfl,_⟩:=hx;refine ⟨hl,fun i d hd=>?_⟩;rw[List.getElem?_map] at hd;obtain ⟨y,hy,rfl⟩:=Option.map_eq_some_iff.1 hd;have hi:i<n:=by rw[← hn];exact (List.getElem?_eq_some_iff.1 hy).1
 exact ⟨m,y.2,by rw[hel i hi,hy]⟩
theorem zdO {ds:List (DataW H)} (hu:P.underlying t=some (.struct fs)) (h:DataW.trod enc P W base sp held fuel t cs=some (.agg ds,p)):
  cs.length=P.cellsOf t∧∀ (i:Nat) (f:Field) (d:DataW H),fs[i]?=some f→ds[i]?=some d→∃ m q,DataW.trod enc P W base sp held m f.type ((cs.drop f.offset).take (P.cellsOf f.type))=some (d,q):=by
 obtain ⟨xs,m,_,hx,hl,_,hf⟩:=DataW.trod_struct hu h;simp only[Prod.mk.injEq,DataW.agg.injEq] at hx;obtain ⟨rfl,_⟩:=hx;refine ⟨hl,fun i f d hi hd=>?_⟩;rw[List.getElem?_map] at hd;obtain ⟨y,hy,rfl⟩:=Option.map_eq_some_iff.1 hd;exact ⟨m,y.2,by rw[hf i f hi,hy]⟩
theorem zda {b:Bool} (hu:P.underlying t=some .bool) (h:DataW.trod enc P W base sp held fuel t [v]=some (.lit (.bool b),q)):v=.bool b:=by
 cases fuel with
 | zero=>simp[DataW.trod] at h
 | succ n=>cases v <;> simp[DataW.trod,hu] at h;rw[h.1]
theorem znm {ps rs:Array TypeId} {va:Bool} (hu:P.underlying t=some (.func ps rs va)) (h:DataW.trod enc P W base sp held fuel t [v]=some (.nil,q)):v=.nilFunc:=by
 cases fuel with
 | zero=>simp[DataW.trod] at h
 | succ n=>cases v <;> simp[DataW.trod,hu] at h <;> rfl
end
theorem zqn {W:World} {n:String} {g:Nat} {cs:Array Value} (hg:P.globalNamed n=some g) (hv:W.var? P n=some cs) (hp:0<cs.toList.length):zay (ziC W) g 0 cs.toList:=by
 have hc:∀ j,W.cell? ⟨g,j,none⟩=cs[j]?:=fun j=>World.var?_cell hg hv j;have h0:=hc 0;rw[Array.getElem?_eq_getElem (by simpa using hp)] at h0;obtain ⟨_,c,T,fr,hb,_⟩:=zmF h0;refine ⟨c,T,fr,hb,fun j v hj=>?_⟩;have:=hc j;rw[← Array.getElem?_toList,hj] at this;obtain ⟨_,c',T',fr',hb',hc'⟩:=zmF this;rw[hb] at hb';cases hb';rw[Nat.zero_add];exact hc'
end Go.Pk
