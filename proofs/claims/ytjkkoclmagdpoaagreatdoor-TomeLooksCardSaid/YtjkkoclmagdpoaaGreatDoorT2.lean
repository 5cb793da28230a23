/- A PART OF THE PROOF: contracts of functions. -/
import Derived.Test.YtjkkoclmagdpoaaGreatDoorT1
import Derived.DeepKeys5
import Derived.Carry
import Derived.LaidMore
import Derived.SizedLaws
import Derived.Deep.DeepHandedRow
import Derived.ProofKit
import Derived.OpenShut
import Derived.ChangeMaps5
import Derived.Laws.CopyRow
import Derived.WideKeyEntry
import Derived.Lib.Bytealg
set_option linter.all false
set_option maxRecDepth 4000
namespace Go.Pk
open Go Go.RowKit
variable {l l1:List Oper} {listed:Array Bool} {i:Nat} {o:Oper} {P:Program} {Q:Exit→Act→World→Prop} {w:World} {kt et:TypeId} {x y:Operand} {v:Value}
def zrG:Nat→List Oper→Bool
 | _,[]=>true
 | i,o::l=>(bnd o).all (fun j=>Nat.blt j i) && (match o.guard with|some (g,_)=>Nat.blt g i|none=>true) && zrG (i+1) l
theorem zoU:∀ {l:List Oper} {i j:Nat} {o:Oper},zrG i l=true→l[j]?=some o→(∀ k∈bnd o,k<i+j)∧∀ g b,o.guard=some (g,b)→g<i+j
 | o::l,i,0,o',h,e=>by
  simp at e;subst e;simp only[zrG,zK,zal] at h;refine ⟨fun k hk=>by simpa using h.1.1 k hk,fun g b hg=>?_⟩;have:=h.1.2;rw[hg] at this;simpa using this
 | o::l,i,j+1,o',h,e=>by
  simp only[zrG,zK] at h;have:=zoU h.2 (show l[j]?=some o' by simpa using e);rw[show i+(j+1)=i+1+j by omega];exact this
 | [],_,_,_,_,e=>by simp at e
theorem ztT (hi:l[i]?=some o) (hs:listed[i]?=some false) (hb:∀ j∈bnd o,listed[j]?=some true):i∈Region.ready .any l.toArray listed:=by
 unfold Region.ready;have hil:=(k_List_getElem__eq_some_iff.1 hi).1;rw[zcl];refine ⟨by simpa using hil,?_⟩;rw[zK];refine ⟨by simp[zbb,hs],?_⟩;rw[zdI,hi];simp only[zck,zdK];rw[← Array.all_toList,zal];intro e he;cases hbi:Region.binds .any e with
 | false=>simp
 | true=>
  have:=hb e.on (mem_bnd.2 ⟨e,he,hbi,rfl⟩);simp[zbb,this]
theorem zth (hlow:zrG 0 l=true) (hsz:listed.size=l.length) (h:Region.ready .any l.toArray listed=[]):∀ i,i<l.length→listed[i]?=some true:=by
 intro i
 induction i using Nat.strongRecOn with
 | _ i ih=>
  intro hi;cases e:listed[i]? with
  | none=>rw[Array.getElem?_eq_none_iff] at e;omega
  | some b=>
   cases b with
   | true=>rfl
   | false=>
    have ho:=zn hi;have:=ztT ho e fun j hj=>by
     have:=(zoU hlow ho).1 j hj;exact ih j zW zW
    rw[h] at this;cases this
theorem zAe {t:Array Value} {g:Nat} (hg:g<l1.length):yielded (l1++[o]).toArray t g=yielded l1.toArray t g:=by
 unfold yielded;simp only[zdI];rw[zcN hg]
theorem zEU {Kw:Act→World→Prop} {a:Act} (hlow:zrG 0 l1=true) (hi:i<l1.length) (h:wpOpIn Fence.wide 0 P l1.toArray Q i Kw a w):wpOpIn Fence.wide 0 P (l1++[o]).toArray Q i Kw a w:=by
 have ho:=zn hi;unfold wpOpIn at h ⊢;rw[zdI,ho] at h;rw[zdI,zcN hi,ho];simp only at h ⊢;have e:Region.wanted l1[i] (yielded (l1++[o]).toArray a.tmps)=Region.wanted l1[i] (yielded l1.toArray a.tmps):=by
  unfold Region.wanted;cases hg:l1[i].guard with
  | none=>rfl
  | some q=>
   obtain ⟨g,b⟩:=q;have:=(zoU hlow ho).2 g b hg;simp only;rw[zAe zW]
 rw[e];exact h
theorem zGx (hlow:zrG 0 l1=true) (hlast:(List.range l1.length).all (inL (bnd o))=true) (hbo:∀ j∈bnd o,j<l1.length) (hd:∀ (i:Nat) p,(l1++[o]).toArray[i]?=some p→(match p.op with|.defer _=>false|_=>true)=true):
  ∀ (fuel:Nat) (s1 s:Array Bool) (a:Act) (w:World),s1.size=l1.length→s.size=l1.length+1→(∀ i,i<l1.length→s[i]?=s1[i]?)→s[l1.length]?=some false→
   wpAnyIn Fence.wide 0 P .any l1.toArray (fun e a w=>e=.normal∧wpOpIn Fence.wide 0 P (l1++[o]).toArray Q l1.length (fun a w=>Q .normal a w) a w) fuel s1 a w→wpAnyIn Fence.wide 0 P .any (l1++[o]).toArray Q (fuel+1) s a w:=by
 have hlen:(l1++[o]).length=l1.length+1:=by simp
 have hol:(l1++[o])[l1.length]?=some o:=by rw[zdg (zbR _)];simp
 have hall:∀ j,j<l1.length→j∈bnd o:=fun j hj=>zkm.1 (zal.1 hlast j (zbZ.2 hj))
 -- the last one, when all are listed
 have last:∀ (fuel:Nat) (s:Array Bool) (a:Act) (w:World),s.size=l1.length+1→(∀ i,i<l1.length→s[i]?=some true)→s[l1.length]?=some false→wpOpIn Fence.wide 0 P (l1++[o]).toArray Q l1.length (fun a w=>Q .normal a w) a w→wpAnyIn Fence.wide 0 P .any (l1++[o]).toArray Q (fuel+1) s a w:=by
  intro fuel s a w hs h1 h2 h3;have hr:l1.length∈Region.ready .any (l1++[o]).toArray s:=ztT hol h2 fun j hj=>h1 j (hbo j hj);refine ⟨fun e=>(by rw[e] at hr;cases hr),fun i hi=>?_⟩;obtain ⟨p,hp,hnl,_⟩:=znS hi;have hil:=(k_List_getElem__eq_some_iff.1 hp).1;have hie:i=l1.length:=by
   rcases zcO i l1.length with q|q
   ·exact absurd (h1 i q) hnl
   ·omega
  subst hie;refine wpOpIn_mono (fun a w q=>?_) h3;have hnone:∀ s',(∀ i,i<l1.length+1→s'[i]?=some true)→Region.ready .any (l1++[o]).toArray s'=[]:=by
   intro s' hs';rw[List.eq_nil_iff_forall_not_mem];intro i hi;obtain ⟨p,hp,hnl,_⟩:=znS hi;have:=(k_List_getElem__eq_some_iff.1 hp).1;exact hnl (hs' i zW)
  have hn:Region.ready .any (l1++[o]).toArray (s.setIfInBounds l1.length true)=[]:=by
   refine hnone _ fun i hi=>?_
   by_cases e:i=l1.length
   ·subst e;simp[hs]
   ·rw[zbi (fun z=>e z.symm)];exact h1 i zW
  cases fuel with
  | zero=>exact ⟨hn,q⟩
  | succ fuel=>exact ⟨fun _=>q,fun i hi=>by rw[hn] at hi;cases hi⟩
 intro fuel
 induction fuel with
 | zero=>
  intro s1 s a w z1 z2 hr hf h;have ha:=zth hlow z1 h.1;exact last 0 s a w z2 (fun i hi=>by rw[hr i hi];exact ha i hi) hf h.2.2
 | succ fuel ih=>
  intro s1 s a w z1 z2 hr hf h
  by_cases hn:Region.ready .any l1.toArray s1=[]
  ·have ha:=zth hlow z1 hn;exact last _ s a w z2 (fun i hi=>by rw[hr i hi];exact ha i hi) hf (h.1 hn).2
  ·obtain ⟨k,hk⟩:=List.exists_mem_of_ne_nil _ hn;have up:∀ i,i∈Region.ready .any l1.toArray s1→i∈Region.ready .any (l1++[o]).toArray s:=by
    intro i hi;obtain ⟨p,hp,hnl,hb⟩:=znS hi;have hil:=(k_List_getElem__eq_some_iff.1 hp).1;have e1:s1[i]?=some false:=by
     cases e:s1[i]? with
     | none=>rw[Array.getElem?_eq_none_iff] at e;omega
     | some b=>cases b with
      | false=>rfl
      | true=>exact absurd e hnl
    refine ztT (o:=p) (by rw[zcN hil];exact hp) (by rw[hr i hil];exact e1) fun j hj=>?_;have:=(zoU hlow hp).1 j hj;rw[hr j zW];exact hb j hj
   refine ⟨fun e=>(by have:=up k hk;rw[e] at this;cases this),fun i hi=>?_⟩;obtain ⟨p,hp,hnl,hb⟩:=znS hi;have hil:=(k_List_getElem__eq_some_iff.1 hp).1
   rcases zcO i l1.length with q|q
   ·have hp1:l1[i]?=some p:=by rw[zcN q] at hp;exact hp
    have hi1:i∈Region.ready .any l1.toArray s1:=by
     have e1:s1[i]?=some false:=by
      cases e:s1[i]? with
      | none=>rw[Array.getElem?_eq_none_iff] at e;omega
      | some b=>cases b with
       | false=>rfl
       | true=>exact absurd ((hr i q).trans e) hnl
     refine ztT hp1 e1 fun j hj=>?_;have:=(zoU hlow hp1).1 j hj;rw[← hr j zW];exact hb j hj
    have h2:=zEU (o:=o) hlow q (h.2 i hi1);have h3:=zzs (r:=none) (ds:=[]) (k:=0) (q':=Q) (K':=wpAnyIn Fence.wide 0 P .any (l1++[o]).toArray Q (fuel+1) (s.setIfInBounds i true)) (fun e a w z=>z.1) (fun a1 a2 w g1 g2 g=>by
     have e:a2=a1:=by cases a1;cases a2;simp at g1 g2;subst g1;subst g2;rfl
     subst e;refine ih _ _ _ _ (by simpa using z1) (by simpa using z2) (fun j hj=>?_) ?_ g
     ·by_cases e:j=i
      ·subst e;rw[Array.getElem?_setIfInBounds_self_of_lt zW,Array.getElem?_setIfInBounds_self_of_lt zW]
      ·rw[zbi (fun z=>e z.symm),zbi (fun z=>e z.symm)];exact hr j hj
     ·rw[zbi zW];exact hf) (hd i) a a w rfl (by simp) h2
    exact h3
   ·have hie:i=l1.length:=by omega
    subst hie;have:p=o:=by rw[hol] at hp;exact (zeO hp).symm
    subst this;exfalso;obtain ⟨p2,hp2,hnl2,_⟩:=znS hk;have hkl:=(k_List_getElem__eq_some_iff.1 hp2).1;exact hnl2 (by rw[← hr k hkl];exact hb k (hall k hkl))
theorem zzT {n:Nat} {h0:Heap} {w0:World} {own0:Own} {er:Er} {dsts:List Nat} {σ:Env} {Q:Exit→Env→World→Prop} {h:Heap} {id:Nat} (m:Nat) (o:Oper) (hl:l=l.take m++[o]) (hnd:znv l=true) (hlow:zrG 0 (l.take m)=true) (hlast:(List.range (l.take m).length).all (inL (bnd o))=true) (hbo:(bnd o).all (fun j=>Nat.blt j (l.take m).length)=true) (st:St h0 w0 h w own0) (hm:P.follows .mixedOrders=true) (hd:Drw P n (l.take m) h0 w0 own0 h er dsts σ (fun e σ' w'=>e=.normal∧M P n l.toArray [o] (fun σ w=>Q .normal σ w) σ' w') [] [] (l.take m)):W P n (.region id l.toArray true) Q σ w:=by
 obtain ⟨ks,cx,h1,h2,h3⟩:=hd (by simp);simp only[List.reverse_nil,zcM] at h1 h2 h3;have hget:=zpK hnd;generalize hl1:l.take m=l1 at *;subst hl;intro a ha;refine (wpIn_wide (n:=0)).1 (wpIn_region_any hm ?_);have hol:(l1++[o])[l1.length]?=some o:=by rw[zdg (zbR _)];simp
 have e1:(l1++[o]).toArray.size=l1.length+1:=by simp
 rw[e1];refine zGx hlow hlast (fun j hj=>by simpa using zal.1 hbo j hj) (fun i p hp=>hget i p (by simpa using hp)) l1.length (Array.replicate l1.length false) (Array.replicate (l1.length+1) false) a _ (by simp) (by simp) (fun i hi=>?_) (by simp) ?_
 ·simp[zcF,hi,show i<l1.length+1 by omega]
 have h4:=zFE st h2 h1 h3 a ha;have e2:l1.toArray.size=l1.length:=by simp
 rw[e2] at h4;refine zuC (r:=none) (ds:=[]) (k:=0) ?_ ?_ (fun i p hp=>hget i p (by
  have hp':l1[i]?=some p:=by simpa using hp
  rw[zcN (k_List_getElem__eq_some_iff.1 hp').1];exact hp')) _ _ a a _ rfl (by simp) h4
 ·rintro e b1 b2 u g1 g2 ⟨σ',hf,rfl,q⟩;have eb:b2=b1:=by cases b1;cases b2;simp at g1 g2;subst g1;subst g2;rfl
  subst eb;refine ⟨rfl,?_⟩;have q2:=q b2 hf;have q3:wpOpIn Fence.wide 0 P (l1++[o]).toArray (fun e a' w'=>e=.normal∧∃ σ',Fits n a' σ'∧Q .normal σ' w') l1.length (fun a' w'=>(.normal:Exit)=.normal∧∃ σ',Fits n a' σ'∧Q .normal σ' w') b2 u:=by
   unfold wpOpIn;rw[zdI,hol];exact q2
  exact zzs (r:=none) (ds:=[]) (k:=0) (fun e a w z=>z.1) (fun a1 a2 w g1 g2 g=>by
   have e:a2=a1:=by cases a1;cases a2;simp at g1 g2;subst g1;subst g2;rfl
   subst e;exact g.2) (fun p hp=>hget l1.length p (by simpa using hp)) b2 b2 u rfl (by simp) q3
 ·rintro e b u ⟨_,_,rfl,_⟩;rfl
structure Six where
 a:Int
 b:Int
 c:Int
 d:Int
 e:Int
 f:Int
deriving DecidableEq
theorem zCx {e:TypeId} (he:P.underlying e=some (.int .i64)) (d:Nat) (a b:Int) (w:World):(Op.equalIn (d+1) e (.int .i64 a) (.int .i64 b)).run P w=.ok (a == b) w:=by
 rw[Op.equalIn];simp[run_underlying he]
structure KeyF {κ:Type} [DecidableEq κ] (P:Program) (kt:TypeId) (ek:κ→Value):Prop where
 eq:∀ a b w,(Op.equal kt (ek a) (ek b)).run P w=.ok (decide (a=b)) w
 now:∀ (a b:κ) (w:World),∃ kind,P.underlying kt=some kind∧Instr.sameNow kind (ek a) (ek b)=none
 check:∀ b k w,(Instr.checkKey b 10000 kt (ek k)).run P w=.ok () w
theorem zvQ {κ υ:Type} [DecidableEq κ] {P:Program} {kt:TypeId} {ek:κ→Value} {eu:υ→Value} (hK:KeyF P kt ek) {k:κ} (w:World):∀ {es:List MapEntry} {m:List (κ×υ)} (i:Nat),Ent ek eu es m→zcI m k=none→(Instr.findAsking kt (ek k) es i).run P w=.ok none w
 | [],[],_,_,_=>by simp[Instr.findAsking]
 | e::es,p::m,i,h,hl=>by
  simp only[zcI,zdu] at hl;have hne:¬ p.1=k:=fun e=>by simp[e] at hl
  simp only[hne,decide_false] at hl;have hne':¬ k=p.1:=fun e=>hne e.symm;have e1:=hK.eq k p.1 w;rw[zcU hne'] at e1;simp[Instr.findAsking,h.1,e1,zvQ hK w (i+1) h.2.2 hl]
 | [],_::_,_,h,_=>h.elim
 | _::_,[],_,h,_=>h.elim
theorem zvP {κ υ:Type} [DecidableEq κ] {P:Program} {kt:TypeId} {ek:κ→Value} {eu:υ→Value} (hK:KeyF P kt ek) {k:κ} (w:World) {v:υ}:∀ {es:List MapEntry} {m:List (κ×υ)} (i:Nat),Ent ek eu es m→zcI m k=some v→∃ j,(Instr.findAsking kt (ek k) es i).run P w=.ok (some (j,eu v)) w
 | [],[],_,_,hl=>by cases hl
 | e::es,p::m,i,h,hl=>by
  by_cases hne:p.1=k
  ·simp only[zcI,zdu,hne,decide_true,zck,zeS] at hl;have e1:=hK.eq k p.1 w;rw[zdi hne.symm] at e1;exact ⟨i,by simp[Instr.findAsking,h.1,e1,h.2.1,hl]⟩
  ·have hl':zcI m k=some v:=by simpa only[zcI,zdu,hne,decide_false] using hl
   obtain ⟨j,hj⟩:=zvP hK w (i+1) h.2.2 hl';have e1:=hK.eq k p.1 w;rw[zcU (fun e=>hne e.symm)] at e1;exact ⟨j,by simp[Instr.findAsking,h.1,e1,hj]⟩
 | [],_::_,_,h,_=>h.elim
 | _::_,[],_,h,_=>h.elim
theorem zCL {κ υ:Type} [DecidableEq κ] {ek:κ→Value} {eu:υ→Value} (hK:KeyF P kt ek) {k:κ} (w:World) {es:List MapEntry} {m:List (κ×υ)} (h:Ent ek eu es m):∃ j,(Instr.findKey kt (ek k) es).run P w=.ok ((zcI m k).map fun v=>(j,eu v)) w:=by
 obtain ⟨kind,hu,hn⟩:=hK.now k k w;cases es with
 | nil=>
  cases m with
  | nil=>exact ⟨0,by simp[Instr.findKey,run_underlying hu,Instr.findNow,zcI]⟩
  | cons _ _=>exact h.elim
 | cons e es=>
  cases m with
  | nil=>exact h.elim
  | cons p m=>
   obtain ⟨kind',hu',hn'⟩:=hK.now k p.1 w;obtain rfl:=zeO (hu.symm.trans hu');have e1:Instr.findNow kind (ek k) (e::es) 0=none:=by simp[Instr.findNow,h.1,hn']
   cases hl:zcI (p::m) k with
   | none=>
    have:=zvQ hK w 0 h hl;exact ⟨0,by simp only[Instr.findKey,Sem.run_bind,run_underlying hu,Result.andThen_ok,e1,this,Option.map_none]⟩
   | some v=>
    obtain ⟨j,hj⟩:=zvP hK w 0 h hl;exact ⟨j,by simp only[Instr.findKey,Sem.run_bind,run_underlying hu,Result.andThen_ok,e1,hj,zck]⟩
section
variable {κ υ:Type} {ek:κ→Value} {eu:υ→Value}
variable {P:Program} {n:Nat} {ops:Array Oper} {rest:List Oper} {Kw:Env→World→Prop} {σ:Env} {w w0:World} {h0 h:Heap} {own:Own} {ty:TypeId} {pos:String} {aft:Array Edge} {d:Nat} {dst:Option Tmp} {g:Option (Nat×Bool)}
theorem ztZ [DecidableEq κ] {t: TypeId} {m:List (κ×υ)} {o:List (Nat×Obj)} {zv: Value} {k:κ} {zu:υ} (hK:KeyF P kt ek) (ht:P.underlying t=some (.map kt et)) (hM:OM ek eu m o v) (hw:∀ b ob,o=[(b,ob)]→w.heap[b]?=some ob) (hz:∀ w,(zeroValue et).run P w=.ok zv w) (hzu:zv=eu zu) (hx:ev σ x=v) (hy:ev σ y=ek k):
  Run P σ w ⟨dst,.lookup t x y false,ty,pos,aft,g⟩ (eu ((zcI m k).getD zu)) w:=by
 obtain ⟨b,es,clock,rfl,rfl,hE,_,_⟩:=hM;have hb:=hw b _ rfl;obtain ⟨j,hf⟩:=zCL hK (k:=k) w hE;have hc:=hK.check es.isEmpty k w;have hg:(getObj b).run P w=.ok (.map es clock) w:=by simp[getObj,Sem.run,hb]
 subst hzu;have:(Instr.lookup t (.map (some b)) (ek k) false).run P w=.ok (eu ((zcI m k).getD zu)) w:=by
  simp only[Instr.lookup,Sem.run_bind,run_underlying ht,Result.andThen_ok,hg,Sem.run_pure,hc,hf];cases zcI m k with
  | none=>simp[hz]
  | some r=>simp
 simp[Run,execOp,hx,hy,this]
theorem zwg [DecidableEq κ] {t: TypeId} {z: Operand} {m:List (κ×υ)} {o:List (Nat×Obj)} {k:κ} {u:υ} (st:St h0 w0 h w own) (hM:OM ek eu m o v) (hi:own[i]?=some o) (hn:(m.map (·.1)).Nodup) (hK:KeyF P kt ek) (ht:P.underlying t=some (.map kt et)) (hl:zcI m k=none) (hx:ev σ x=v) (hy:ev σ y=ek k) (hz:ev σ z=eu u) (hk:∀ o' w' own',own'=own.set i o'→OM ek eu (ziL m k u) o' v→((ziL m k u).map (·.1)).Nodup→St h0 w0 h w' own'→M P n ops rest Kw σ w'):
  M P n ops (⟨none,.mapUpdate t x y z,ty,pos,aft,none⟩::rest) Kw σ w:=by
 obtain ⟨b,es,clock,rfl,rfl,hE,hB,hD⟩:=hM;have hb:=st.get hi;have hg:(getObj b).run P w=.ok (.map es clock) w:=by simp[getObj,Sem.run,hb]
 have hset:∀ es' c',(setObj b (.map es' c')).run P w=.ok () { w with heap:=w.heap.setIfInBounds b (.map es' c') }:=by
  intro es' c';simp[setObj,Sem.run,hb]
 have hc:=hK.check false k w;obtain ⟨j,hf⟩:=zCL hK (k:=k) w hE;rw[hl] at hf;have hp:ziL m k u=m++[(k,u)]:=by simp[ziL,hl]
 refine zov rfl rfl (w':={ w with heap:=w.heap.setIfInBounds b (.map (es.push { key:=ek k,val:=eu u,born:=clock }) (clock+1)) }) ?_ (hk _ _ _ rfl ⟨b,es.push { key:=ek k,val:=eu u,born:=clock },clock+1,rfl,rfl,?_,?_,?_⟩ ?_ (st.set _ hi))
 ·simp only[execOp,hx,hy,hz,Instr.mapUpdate,Sem.run_bind,run_underlying ht,Result.andThen_ok,hg,hc,hf,Option.map_none,hset,Sem.run_pure]
 ·rw[hp,zfR];exact hE.snoc rfl rfl
 ·intro e he;rw[zfR,zcq] at he
  rcases he with he|he
  ·exact Nat.lt_succ_of_lt (hB e he)
  ·simp at he;subst he;exact Nat.lt_succ_self _
 ·rw[zfR,zaz,zcx];refine ⟨hD,by simp,fun a ha c hc'=>?_⟩;simp at hc';subst hc';obtain ⟨e,he,rfl⟩:=zbk.1 ha;exact Nat.ne_of_lt (hB e he)
 ·rw[hp,zaz,zcx];refine ⟨hn,by simp,fun a ha c hc'=>?_⟩;simp at hc';subst hc';rintro rfl;obtain ⟨p,hp',rfl⟩:=zbk.1 ha;have:(m.find? fun q=>decide (q.1=p.1)).isSome=true:=by
   rw[List.find?_isSome];exact ⟨p,hp',by simp⟩
  simp only[zcI,Option.map_eq_none_iff] at hl;rw[hl] at this;cases this
end
end Go.Pk

namespace Go.Pk
open Go Go.RowKit Go.ChangeShapes Go.WideShapes Go.ChangeAt
variable {v:Value} {n fuel base:Nat} {cs:List Value} {α H:Type} {L:Lay α} {e:TypeId} {sp:Nat→Bool} {held:Bool} {d:DataW H} {ps p q:List MemPlace} {fs:Array Field} {r:Reach} {ds:List (DataW H)} {P:Program}
def zmj (W:World):Heap:=fun b=>W.heap[b]?
theorem ztm (W:World):Sub (zmj W) W:=fun _ _ h=>h
def zdr {α:Type} (P:Program) (W:World) (t:TypeId) (L:Lay α):Prop:=
 ∀ {H:Type} (enc:TypeId×Value→H) (sp:Nat→Bool) (held:Bool) (fuel:Nat) (cs:List Value) (d:DataW H) (ps:List MemPlace),
  DataW.trod enc P W 0 sp held fuel t cs=some (d,ps)→(∀ n∈d.weights P t,n≤reachBytes)→∃ x:α,L.R (zmj W) cs x
section
variable {P:Program} {W:World} {t:TypeId}
theorem zDr (hu:P.underlying t=some (.int .i64)):zdr P W t zeg:=by
 intro H enc sp held fuel cs d ps h _;obtain ⟨n,rfl,_,_⟩:=DataW.trod_int hu h;exact ⟨n,rfl⟩
theorem zEx (hu:P.underlying t=some (.int .u8)):zdr P W t LU8:=by
 intro H enc sp held fuel cs d ps h _;obtain ⟨n,rfl,_,hw⟩:=DataW.trod_int hu h;simp[Lit.wf,IntKind.min,IntKind.max,IntKind.bits,IntKind.signed] at hw;exact ⟨n,rfl,by omega⟩
theorem zDq (hu:P.underlying t=some .string):zdr P W t zea:=by
 intro H enc sp held fuel cs d ps h hw;obtain ⟨s,rfl,hx,_⟩:=DataW.trod_string hu h;simp only[Prod.mk.injEq] at hx;obtain ⟨rfl,_⟩:=hx;refine ⟨s.data.toList,?_,?_⟩
 ·simp[zae]
 have:=hw _ (by simp[DataW.weights]:s.data.toList.length∈_);unfold reachBytes at this;unfold big;omega
theorem zru {H:Type} {e:TypeId}:∀ {ds:List (DataW H)} {d:DataW H},d∈ds→∀ n∈d.weights P e,n∈DataW.weightsAll P e ds
 | _::_,_,h,n,hn=>by
  rw[DataW.weightsAll,zcq]
  rcases zaV.1 h with rfl|h
  ·exact .inl hn
  ·exact .inr (zru h n hn)
theorem zvM {α:Type} {R:Nat→α→Prop}:∀ n,(∀ i,i<n→∃ x,R i x)→∃ xs:List α,xs.length=n∧∀ i x,xs[i]?=some x→R i x
 | 0,_=>⟨[],rfl,by simp⟩
 | n+1,h=>by
  obtain ⟨xs,hl,hx⟩:=zvM n fun i hi=>h i zW;obtain ⟨y,hy⟩:=h n zW;refine ⟨xs++[y],by simp[hl],fun i x hi=>?_⟩
  by_cases hlt:i<xs.length
  ·rw[zcN hlt] at hi;exact hx i x hi
  ·rw[zdg zW] at hi;have hi0:i-xs.length=0:=by
    rcases Nat.eq_zero_or_pos (i-xs.length) with h0|h0
    ·exact h0
    ·rw[zbF (by simp;omega)] at hi;cases hi
   rw[hi0] at hi;simp only[zeL,zeS] at hi;subst hi;have:i=n:=by omega
   subst this;exact hy
theorem zqQ {b off:Nat} {sp:Option _} (h:W.cell? ⟨b,off,sp⟩=some v):sp=none∧∃ c T fr,W.heap[b]?=some (.cells c T fr)∧c[off]?=some v:=by
 have hs:=World.cell?_spot h;simp only at hs;subst hs;refine ⟨rfl,?_⟩;simp only[World.cell?] at h;cases hb:W.heap[b]? with
 | none=>rw[hb] at h;cases h
 | some o=>
  rw[hb] at h;cases o with
  | cells c T fr=>exact ⟨c,T,fr,rfl,by simpa using h⟩
  | _=>cases h
theorem zBi {a:Addr} (h:W.cells? 0 a n=some cs) (hn:0<n):∃ b off,a=⟨b,off,none⟩∧zaL (zmj W) b off cs:=by
 unfold World.cells? at h;rw[zab (zfg _)] at h;have hl:=mapM_some_length h;have hg:∀ j,j<n→W.cell? (a.add j)=cs[j]?:=fun j hj=>mapM_some_get h j j (by simp[hj]);obtain ⟨b,off,sp⟩:=a;have hlen:cs.length=n:=by simpa using hl
 have h0:=hg 0 hn;rw[zn zW] at h0;have e0:(⟨b,off,sp⟩:Addr).add 0=⟨b,off,sp⟩:=by simp[Addr.add]
 rw[e0] at h0;obtain ⟨rfl,c,T,fr,hb,_⟩:=zqQ h0;refine ⟨b,off,rfl,c,T,fr,hb,fun j v hj=>?_⟩;have hjl:j<n:=by rw[← hlen];exact (k_List_getElem__eq_some_iff.1 hj).1
 have:=hg j hjl;rw[zik,hj] at this;obtain ⟨_,c',T',fr',hb',hc'⟩:=zqQ this;rw[hb] at hb';cases hb';exact hc'
theorem zlB (hu:P.underlying t=some (.slice e)) (hc:P.cellsOf e=L.size) (hp:Nat.blt 0 L.size=true) (hb:Nat.blt 0 (P.bytesOf e)=true) (hr:zdr P W e L):zdr P W t (LSl L):=by
 intro H enc sp held fuel cs d ps h hw;have hp:0<L.size:=by simpa using hp
 have hb:0<P.bytesOf e:=by simpa using hb
 rcases DataW.trod_slice hu h with ⟨rfl,_⟩|⟨a,len,cap,elems,rest,n,_,rfl,hx,_,_,_,hlen,hel,_,_⟩
 ·exact ⟨[],_,rfl,Sl.nil L _⟩
 simp only[Prod.mk.injEq] at hx;obtain ⟨rfl,_⟩:=hx;simp only[DataW.weights,hu,zaa] at hw;have h1:=hw _ (zct ..);have hle:len≤big:=by
  have h2:len≤(elems.length+rest.length)*P.bytesOf e:=by
   rw[hlen];exact zfl (Nat.le_add_right _ _) (Nat.le_mul_of_pos_right _ hb)
  unfold reachBytes at h1;unfold big;omega
 have hE:∀ i,i<len→∃ x:α,∃ vs,W.cells? 0 (a.add (i*L.size)) L.size=some vs∧L.R (zmj W) vs x:=by
  intro i hi;have hi':i<elems.length:=by omega
  have:=hel i hi;rw[zn hi',hc] at this;obtain ⟨vs,h3,h4⟩:=Option.bind_eq_some_iff.1 this;obtain ⟨x,hx⟩:=hr enc sp held n vs elems[i].1 elems[i].2 h4 (fun q hq=>hw q (zcH _ (List.mem_append_left _ (zru (zdq (zdB hi')) q hq))));exact ⟨x,vs,h3,hx⟩
 obtain ⟨xs,hxl,hxs⟩:=zvM len hE;refine ⟨xs,_,rfl,some a,cap,by rw[hxl],by omega,?_⟩;cases xs with
 | nil=>exact .inl rfl
 | cons x0 xs'=>
  right;obtain ⟨vs0,h5,_⟩:=hxs 0 x0 rfl;have e0:a.add (0*L.size)=a:=by simp[Addr.add]
  rw[e0] at h5;obtain ⟨b,off,rfl,_⟩:=zBi h5 hp;refine ⟨b,off,rfl,fun i x hi=>?_⟩;obtain ⟨vs,h6,h7⟩:=hxs i x hi;rw[zik] at h6;obtain ⟨b',off',he,hcl⟩:=zBi h6 hp;cases he;exact ⟨vs,hcl,h7⟩
theorem zfL {enc:TypeId×Value→H} {Nw:Nat} (hu:P.underlying t=some (.struct fs)) (hc:P.cellsOf t=Nw) (h:DataW.trod enc P W 0 sp held fuel t cs=some (d,ps)) (hw:∀ n∈d.weights P t,n≤reachBytes):
  cs.length=Nw∧∀ (i:Nat) (f:Field) {α:Type} {L:Lay α},fs[i]?=some f→zdr P W f.type L→∃ x,L.R (zmj W) ((cs.drop f.offset).take (P.cellsOf f.type)) x:=by
 obtain ⟨xs,n,_,hx,hl,hlen,hf⟩:=DataW.trod_struct hu h;simp only[Prod.mk.injEq] at hx;obtain ⟨rfl,_⟩:=hx;refine ⟨by rw[hl,hc],fun i f α L hi hr=>?_⟩;have hil:i<xs.length:=by rw[hlen];exact (Array.getElem?_eq_some_iff.1 hi).1
 have:=hf i f hi;rw[zn hil] at this;refine hr enc sp held n _ xs[i].1 xs[i].2 this (fun q hq=>hw q ?_);simp only[DataW.weights,hu];exact DataW.weights_mem_each (j:=i) (t:=f.type) (d:=xs[i].1) (by rw[zcy,zgu,hi];rfl) (by rw[zcy,zn hil];rfl) q hq
theorem zBX (hu:P.underlying t=some (.struct fs)) (h:Value.okWide P W r base t v):∃ cs,v=.agg cs:=by
 simp only[Value.okWide,hu] at h;obtain ⟨cs,e,_⟩:=h;exact ⟨cs,e⟩
theorem zuQ {enc:TypeId×Value→H} (hu:P.underlying t=some (.struct fs)) (hr:zdr P W t L) (hok:Value.okWide P W r base t v) (h:DataW.Trod enc P W 0 sp held t v d ps) (hw:∀ n∈d.weights P t,n≤reachBytes):
  ∃ cs x,v=.agg (List.toArray cs)∧L.R (zmj W) cs x:=by
 obtain ⟨cs,rfl⟩:=zBX hu hok;obtain ⟨fuel,h⟩:=h;obtain ⟨x,hx⟩:=hr enc sp held fuel _ d ps h hw;exact ⟨cs.toList,x,by simp,by simpa [Value.cells] using hx⟩
theorem ztd {ts:List TypeId} (h:(DataW.weightsEach P ts ds).all (·≤reachBytes)=true) {j:Nat} {t:TypeId} (ht:ts[j]?=some t) (hd:ds[j]?=some d):∀ n∈d.weights P t,n≤reachBytes:=by
 intro n hn;have:=zal.1 h n (DataW.weights_mem_each ht hd n hn);simpa using this
end
theorem Bel.old {B:Nat} {w w':World} (b:Bel B w w'):Below B w w':=⟨b.os,b.tape,b.output,b.size,b.block⟩
theorem zsT {H:Type} {enc:TypeId×Value→H} {P:Program} {W W':World} {sp:Nat→Bool} (hl:laidOutB P=true) (hb:Below W.heap.size W W'):∀ {ts:List TypeId} {vs:List Value} {ds:List (DataW H)} {ps:List MemPlace},
  (∀ t∈ts,P.readableRec t=true∧t<P.types.size)→DataW.TrodAll enc P W 0 (fun _=>true) true ts vs ds ps→(∀ x∈ps,x.block<W.heap.size)→(∀ x∈ps,sp x.block=true)→DataW.TrodAll enc P W' 0 sp true ts vs ds ps
 | [],_,_,_,_,h,_,_=>by
  obtain ⟨rfl,rfl,rfl⟩:=trodAll_nil h;exact trodAll_mk0
 | t::ts,_,_,_,ht,h,hlt,hs=>by
  obtain ⟨v,vs,d,ds,p,q,rfl,rfl,rfl,h1,h2⟩:=trodAll_cons h;obtain ⟨hr,hrow⟩:=ht t (zct ..);refine ⟨p,q,WideElems.Trod_stays hl hr hrow h1 (fun x hx=>hb.same (hlt x (List.mem_append_left _ hx))) (fun x hx=>hs x (List.mem_append_left _ hx)),?_,rfl⟩;exact zsT hl hb (fun t' h'=>ht t' (zcH _ h')) h2 (fun x hx=>hlt x (List.mem_append_right _ hx)) (fun x hx=>hs x (List.mem_append_right _ hx))
theorem zFb {enc:TypeId×Value→H} {f:Func} {s:ChangeSpec} {apart fresh handsOn again:Bool} {W W':World} {args:Array Value} {gs: List (DataW H)} {before:List MemPlace} {tb:TypeId} (hl:laidOutB P=true) (hts:∀ t∈f.params.toList,P.readableRec t=true∧t<P.types.size) (hW:DataW.Whole enc P f.params.toList s.vars apart W args.toList ds gs before) (hv:s.vars=[]) (hs:(s.fn H ds).results=[.lit (.bool true)]∧(s.fn H ds).args=ds∧(s.fn H ds).vars=[]) (hr:f.resultTypes=#[tb]) (hu:P.underlying tb=some .bool) (hb:Bel W.heap.size W W'):
  s.post enc P f apart fresh handsOn again W args (.bool true) W':=by
 have hW0:=hW;have hbo:=hb.old;obtain ⟨p,q,hA,hV,rfl,hz,hn⟩:=hW;rw[hv] at hV;obtain ⟨rfl,rfl⟩:=trodVars_none hV;simp only[zbL] at hW0 hz hn;have hlt:∀ x∈p,x.block<W.heap.size:=fun x hx=>by simpa using hW0.lt x hx
 have hargs:∀ sp:Nat→Bool,(∀ x∈p,sp x.block=true)→DataW.TrodAll enc P W' 0 sp true f.params.toList args.toList ds p:=fun sp h=>zsT hl hbo hts hA hlt h;have hres:∀ (b:Nat) (sp:Nat→Bool) (hd:Bool),DataW.TrodAll enc P W' b sp hd f.resultTypes.toList ((Value.bool true).resultList f.resultTypes.size) [.lit (.bool true)] []:=by
  intro b sp hd;rw[hr];exact trodAll_mk1 (shut_bool hu true)
 have hold:∀ x∈p,(fun b=>decide (b<W.heap.size)) x.block=true:=fun x hx=>by simpa using hlt x hx
 have hargs':∀ sp:Nat→Bool,(∀ x∈p,sp x.block=true)→DataW.TrodAll enc P W' 0 sp true f.params.toList args.toList (s.fn H (ds++[])).args p:=by
  intro sp h;rw[zbL,hs.2.1];exact hargs sp h
 have hres':∀ (b:Nat) (sp:Nat→Bool) (hd:Bool),DataW.TrodAll enc P W' b sp hd f.resultTypes.toList ((Value.bool true).resultList f.resultTypes.size) (s.fn H (ds++[])).results []:=by
  intro b sp hd;rw[zbL,hs.1];exact hres b sp hd
 have hvars':∀ sp:Nat→Bool,DataW.TrodVars enc P W' sp s.vars (s.fn H (ds++[])).vars []:=by
  intro sp;rw[zbL,hs.2.2,hv];rfl
 refine ⟨ds,[],p,[],p,[],hW0,hres' _ _ _,hargs' _ hold,hvars' _,hbo.frame _,fun _=>?_⟩;refine ⟨ok_one hr rfl (okWide_bool_mk hu _),_,_,([]++p)++[],⟨[]++p,[],trodAll_append (hargs' _ (fun _ _=>rfl)) (hres' _ _ _),hvars' _,rfl,?_,?_⟩,?_⟩
 ·intro b off hp;have hp':MemPlace.cell b off∈p:=by simpa using hp
  have:=hbo.frozen (p:=⟨b,off,none⟩) (hlt _ hp');rw[this];exact hz b off hp'
 ·intro ha;simpa using hn ha
 ·intro x hx _;simpa using hx
section
variable {H:Type} {enc:TypeId×Value→H} {P:Program} {W:World} {base:Nat} {sp:Nat→Bool} {held:Bool} {t:TypeId}
theorem zoX {ds:List (DataW H)} (hu:P.underlying t=some (.array n e)) (h:DataW.trod enc P W base sp held fuel t cs=some (.agg ds,p)):
  cs.length=P.cellsOf t∧∀ i d,ds[i]?=some d→∃ m q,DataW.trod enc P W base sp held m e ((cs.drop (i*P.cellsOf e)).take (P.cellsOf e))=some (d,q):=by
 obtain ⟨xs,m,_,hx,hl,hn,hel⟩:=DataW.trod_array hu h;simp only[Prod.mk.injEq,DataW.agg.injEq] at hx;obtain ⟨rfl,_⟩:=hx;refine ⟨hl,fun i d hd=>?_⟩;rw[zcy] at hd;obtain ⟨y,hy,rfl⟩:=zfB.1 hd;have hi:i<n:=by rw[← hn];exact (k_List_getElem__eq_some_iff.1 hy).1
 exact ⟨m,y.2,by rw[hel i hi,hy]⟩
theorem zgq {ds:List (DataW H)} (hu:P.underlying t=some (.struct fs)) (h:DataW.trod enc P W base sp held fuel t cs=some (.agg ds,p)):
  cs.length=P.cellsOf t∧∀ (i:Nat) (f:Field) (d:DataW H),fs[i]?=some f→ds[i]?=some d→∃ m q,DataW.trod enc P W base sp held m f.type ((cs.drop f.offset).take (P.cellsOf f.type))=some (d,q):=by
 obtain ⟨xs,m,_,hx,hl,_,hf⟩:=DataW.trod_struct hu h;simp only[Prod.mk.injEq,DataW.agg.injEq] at hx;obtain ⟨rfl,_⟩:=hx;refine ⟨hl,fun i f d hi hd=>?_⟩;rw[zcy] at hd;obtain ⟨y,hy,rfl⟩:=zfB.1 hd;exact ⟨m,y.2,by rw[hf i f hi,hy]⟩
theorem zfa {b:Bool} (hu:P.underlying t=some .bool) (h:DataW.trod enc P W base sp held fuel t [v]=some (.lit (.bool b),q)):v=.bool b:=by
 cases fuel with
 | zero=>simp[DataW.trod] at h
 | succ n=>cases v <;> simp[DataW.trod,hu] at h;rw[h.1]
theorem zrz {ps rs:Array TypeId} {va:Bool} (hu:P.underlying t=some (.func ps rs va)) (h:DataW.trod enc P W base sp held fuel t [v]=some (.nil,q)):v=.nilFunc:=by
 cases fuel with
 | zero=>simp[DataW.trod] at h
 | succ n=>cases v <;> simp[DataW.trod,hu] at h <;> rfl
end
theorem zuK {W:World} {n:String} {g:Nat} {cs:Array Value} (hg:P.globalNamed n=some g) (hv:W.var? P n=some cs) (hp:0<cs.toList.length):zaL (zmj W) g 0 cs.toList:=by
 have hc:∀ j,W.cell? ⟨g,j,none⟩=cs[j]?:=fun j=>World.var?_cell hg hv j;have h0:=hc 0;rw[zcr (by simpa using hp)] at h0;obtain ⟨_,c,T,fr,hb,_⟩:=zqQ h0;refine ⟨c,T,fr,hb,fun j v hj=>?_⟩;have:=hc j;rw[← zgu,hj] at this;obtain ⟨_,c',T',fr',hb',hc'⟩:=zqQ this;rw[hb] at hb';cases hb';rw[zdv];exact hc'
end Go.Pk

namespace Go.Pk
open Go Go.RowKit
variable {cs vs us:List Value} {α:Type} {xs:List α} {i:Int} {y x hi_ lo:Operand} {v z:Value} {j s b m off u a:Nat} {o:List (Nat×Obj)} {L:Lay α} {T e ty:TypeId} {y0:α} {fn:Func} {P:Program} {R:Ending→World→Prop} {σ:Env} {w:World} {h:Heap} {dst:Option Tmp} {pos:String} {g:Option (Nat×Bool)} {aft:Array Edge}
section
variable {α:Type} {L:Lay α} {T:TypeId} {h:Heap}
def zrg:Value→Nat→Value
 | .slice p _ c,k=>.slice p k c
 | v,_=>v
def zmQ (s:Nat):Value→Nat→Value
 | .slice p n c,k=>.slice (if c=k then p else p.map (·.add (k*s))) (n-k) (c-k)
 | v,_=>v
theorem Enc.take {xs:List α} (e:Enc L h cs xs) {k:Nat} (hk:k≤xs.length):Enc L h (cs.take (k*L.size)) (xs.take k):=by
 have hle:k*L.size≤cs.length:=by rw[e.1];exact zcb _ hk
 refine ⟨by rw[zt,zt,zdX hle,zdX hk],fun i x hi=>?_⟩;have hik:i<k:=by
  rw[zaR] at hi;split at hi
  ·assumption
  ·cases hi
 rw[zaR,zab hik] at hi;have hr:=e.2 i x hi;have h1:i*L.size+L.size≤k*L.size:=by rw[← Nat.succ_mul];exact zcb _ hik
 rw[List.drop_take,zhY,zdX zW];exact hr
theorem Enc.drop {xs:List α} (e:Enc L h cs xs) (k:Nat):Enc L h (cs.drop (k*L.size)) (xs.drop k):=by
 refine ⟨by rw[zeQ,zeQ,e.1,Nat.sub_mul],fun i x hi=>?_⟩;rw[zdL] at hi;have hr:=e.2 _ x hi;rw[zht,← zhL];exact hr
theorem Enc.set {xs:List α} {i:Nat} {y:α} (e:Enc L h cs xs) (hi:i<xs.length) (hr:L.R h vs y):Enc L h (cs.take (i*L.size)++vs++cs.drop ((i+1)*L.size)) (xs.set i y):=by
 rw[zce,zab hi];have h1:=((e.take (Nat.le_of_lt hi)).append (Enc.one1 hr)).append (e.drop (i+1));rw[zaB (xs.take i)] at h1;exact h1
theorem OSl.take {v:Value} {xs:List α} {o:List (Nat×Obj)} (e:OSl L T h v xs o) {k:Nat} (hk:k≤xs.length):OSl L T h (zrg v k) (xs.take k) o:=by
 obtain ⟨cs,e1,⟨⟨p,rfl⟩,rfl,rfl⟩|⟨g,cap,cur,rfl,rfl,hnc,hcm,hsz,htk⟩⟩:=e
 ·have:k=0:=by simpa using hk
  subst this;exact ⟨[],⟨by simp,by simp⟩,.inl ⟨⟨p,rfl⟩,by simp,rfl⟩⟩
 have hl:(xs.take k).length=k:=by rw[zt,zdX hk]
 refine ⟨_,e1.take hk,.inr ⟨g,cap,cur,by rw[hl];rfl,rfl,by omega,hcm,hsz,?_⟩⟩;rw[hl,← htk,zhY,zdX (zcb _ hk)]
theorem zqz.drop {k o: Nat} (e:zqz v (k+j) s b o) (hc:∀ p n c,v=.slice p n c→n≤c):zqz (zmQ s v k) j s b o:=by
 obtain ⟨off,n,c,rfl,hlt,rfl⟩:=e;have:=hc _ _ _ rfl;refine ⟨off+k*s,n-k,c-k,?_,by omega,by rw[zhL];omega⟩;simp only[zmQ];rw[zam zW];simp[zik]
theorem zqz.drop' {k o: Nat} (e:zqz v m s b o) (hm:m=k+j) (hc:∀ p n c,v=.slice p n c→n≤c):zqz (zmQ s v k) j s b o:=by
 subst hm;exact e.drop hc
theorem OSl.caps {xs:List α} (e:OSl L T h v xs o):∀ p n c,v=.slice p n c→n≤c:=by
 rintro p n c rfl;obtain ⟨cs,e1,⟨⟨q,e2⟩,rfl,rfl⟩|⟨g,cap,cur,e2,rfl,hnc,hcm,hsz,htk⟩⟩:=e
 ·cases e2;exact zbR _
 cases e2;exact hnc
theorem OSl.len {xs:List α} (e:OSl L T h v xs o):∀ p n c,v=.slice p n c→n=xs.length:=by
 rintro p n c rfl;obtain ⟨q,c',e2⟩:=e.form;cases e2;rfl
end
section
variable {P:Program} {n:Nat} {ops:Array Oper} {rest:List Oper} {Kw:Env→World→Prop} {σ:Env} {w w0:World} {h0 h:Heap} {own:Own} {ty:TypeId} {pos:String} {aft:Array Edge} {d:Nat} {dst:Option Tmp} {g:Option (Nat×Bool)}
theorem zjE {t: TypeId} {k: Nat} (hO:OSl L T h v xs o) (hx:ev σ x=v) (hi:ev σ hi_=.int .i64 i) (hk:i=(k:Int)) (hle:k≤xs.length) (hu:P.underlying t=some (.slice e)) (hz:∀ w,(sizeOf e).run P w=.ok m w):
  Run P σ w ⟨dst,.slice t x none (some hi_) none,ty,pos,aft,g⟩ (zrg v k) w:=by
 subst hk;obtain ⟨p,c,rfl⟩:=hO.form;have hc:=hO.caps _ _ _ rfl;have h1:k≤c:=by omega
 cases p <;> simp[Run,execOp,hx,hi,Instr.sliceAt,Instr.slice,run_underlying hu,Instr.sliceBounds,Instr.sliceBound,asIntOf,hz,h1,zrg];rename_i a;intro _;cases a;rfl
theorem zjA {t: TypeId} {k: Nat} (hO:OSl L T h v xs o) (hx:ev σ x=v) (hi:ev σ lo=.int .i64 i) (hk:i=(k:Int)) (hle:k≤xs.length) (hu:P.underlying t=some (.slice e)) (hz:∀ w,(sizeOf e).run P w=.ok m w):
  Run P σ w ⟨dst,.slice t x (some lo) none none,ty,pos,aft,g⟩ (zmQ m v k) w:=by
 subst hk;obtain ⟨p,c,rfl⟩:=hO.form;have h1:k≤xs.length:=hle;simp[Run,execOp,hx,hi,Instr.sliceAt,Instr.slice,run_underlying hu,Instr.sliceBounds,Instr.sliceBound,asIntOf,hz,h1,zmQ]
theorem zvF {t: TypeId} {k len: Nat} (hx:ev σ x=zmQ s v k) (hl:∃ p c,v=.slice p len c) (hu:P.underlying t=some (.slice e)):
  Run P σ w ⟨dst,.call ⟨.builtin .len,#[x],#[t]⟩,ty,pos,aft,g⟩ (.int .i64 ((len-k:Nat):Int)) w:=by
 obtain ⟨p,c,rfl⟩:=hl;exact zwH hx hu
theorem zsU:∀ (us pre:List Value) (cs:List Value),us.length≤cs.length→zlm (pre++cs) pre.length us=pre++us++cs.drop us.length
 | [],pre,cs,_=>by simp[zlm]
 | u::us,pre,[],h=>by simp at h
 | u::us,pre,c::cs,h=>by
  have ih:=zsU us (pre++[u]) cs (by simpa using h);simp only[zj,zy,zC,zdv] at ih;rw[zlm,zfd _ _ (zbR _),Nat.sub_self,List.set_cons_zero];rw[show pre++u::cs=pre++[u]++cs by simp,ih];simp
theorem zvz (h:off+us.length≤cs.length):zlm cs off us=cs.take off++us++cs.drop (off+us.length):=by
 have h1:=zsU us (cs.take off) (cs.drop off) (by rw[zeQ];omega);rw[zbS,zt,zdX zW,zht] at h1;exact h1
theorem zuF {k i: Nat} {t:TypeId} (st:St h0 w0 h w own) (hO:OSl L T h v xs o) (hk:own[k]?=some o) (hi:i<xs.length) (he:zqz v i L.size b off) (hx:ev σ x=.pointer (some ⟨b,off,none⟩)) (hy:ev σ y=.agg us.toArray) (hR:L.R h us y0) (hz:∀ w,(sizeOf t).run P w=.ok us.length w) (hK:∀ o' w' own',own'=own.set k o'→OSl L T h v (xs.set i y0) o'→St h0 w0 h w' own'→M P n ops rest Kw σ w'):M P n ops (⟨none,.store t x y,ty,pos,aft,none⟩::rest) Kw σ w:=by
 obtain ⟨cs,e1,⟨⟨p,rfl⟩,rfl,rfl⟩|⟨gb,cap,cur,rfl,rfl,hnc,hcm,hsz,htk⟩⟩:=hO
 ·simp at hi
 ·obtain ⟨off0,n',c',e2,hlt,rfl⟩:=he;cases e2;have hul:=L.len hR;have h1:(i+1)*L.size≤xs.length*L.size:=zcb _ hi;have h2:xs.length*L.size≤cap*L.size:=zcb _ hnc;rw[Nat.succ_mul] at h1;have hcl:cur.toList.length=cap*L.size:=by rw[zhE,hsz]
  have ho:(0+i*L.size)+us.length≤cur.toList.length:=by rw[hcl];have hul':us.length=L.size:=hul;omega
  have hk':own[k]?=some [(b,.cells cur.toList.toArray T)]:=by simpa using hk
  have hsp:=zvz ho;refine zou st hk' hx hy (by rw[zal];exact fun u hu=>L.one hR u hu) hz (by simpa using ho) hsp rfl fun w' st'=>?_;have hlen:(cur.toList.take (0+i*L.size)).length=i*L.size:=by rw[zt,hcl];omega
  refine hK _ _ _ rfl ⟨_,e1.set hi hR,.inr ⟨b,cap,_,by rw[zek],rfl,by rw[zek];exact hnc,hcm,?_,?_⟩⟩ st'
  ·simp only[ziq,zj,hlen,zeQ,hcl];omega
  ·rw[zek,← htk];have e3:(i+1)*L.size=i*L.size+L.size:=Nat.succ_mul _ _;have hul':us.length=L.size:=hul;rw[zhY,zdX zW,e3,List.drop_take];rw[List.take_append,zS (l:=cur.toList.take (0+i*L.size)++us) (by rw[zj,hlen];omega),zj,hlen,hul',zdv]
theorem ztb {k i: Nat} {u:Value} {t:TypeId} (st:St h0 w0 h w own) (hO:OSl L T h v xs o) (hk:own[k]?=some o) (hi:i<xs.length) (he:zqz v i L.size b off) (hx:ev σ x=.pointer (some ⟨b,off,none⟩)) (hy:ev σ y=u) (hR:L.R h [u] y0) (hz:∀ w,(sizeOf t).run P w=.ok 1 w) (hK:∀ o' w' own',own'=own.set k o'→OSl L T h v (xs.set i y0) o'→St h0 w0 h w' own'→M P n ops rest Kw σ w'):M P n ops (⟨none,.store t x y,ty,pos,aft,none⟩::rest) Kw σ w:=by
 obtain ⟨cs,e1,⟨⟨p,rfl⟩,rfl,rfl⟩|⟨gb,cap,cur,rfl,rfl,hnc,hcm,hsz,htk⟩⟩:=hO
 ·simp at hi
 ·obtain ⟨off0,n',c',e2,hlt,rfl⟩:=he;cases e2;have hul:=L.len hR;have h1:(i+1)*L.size≤xs.length*L.size:=zcb _ hi;have h2:xs.length*L.size≤cap*L.size:=zcb _ hnc;rw[Nat.succ_mul] at h1;have hcl:cur.toList.length=cap*L.size:=by rw[zhE,hsz]
  have hs1:L.size=1:=by rw[← hul];rfl
  have ho:(0+i*L.size)+[u].length≤cur.toList.length:=by rw[hcl];have hul':[u].length=L.size:=hul;omega
  have hk':own[k]?=some [(b,.cells cur.toList.toArray T)]:=by simpa using hk
  have hsp:=zvz ho;have hlen:(cur.toList.take (0+i*L.size)).length=i*L.size:=by rw[zt,hcl];omega
  have hlt':0+i*L.size<cur.toList.length:=by have h9:[u].length=1:=rfl;omega
  refine zeH st hk' hx hy (L.one hR u (by simp)) hz (by simpa using hlt') rfl rfl fun w' st'=>?_;refine hK _ _ _ rfl ⟨_,e1.set hi hR,.inr ⟨b,cap,_,by rw[zek],rfl,by rw[zek];exact hnc,hcm,?_,?_⟩⟩ st'
  ·simp[hsz]
  ·have hset:cur.toList.set (0+i*L.size) u=cur.toList.take (0+i*L.size)++[u]++cur.toList.drop (0+i*L.size+[u].length):=by
    rw[← hsp];rfl
   rw[zek,← htk];have e3:(i+1)*L.size=i*L.size+L.size:=Nat.succ_mul _ _;rw[zhY,zdX zW,e3,List.drop_take];have hul':[u].length=L.size:=hul;show (cur.toList.set (0+i*L.size) u).take (xs.length*L.size)=_;rw[hset,List.take_append,zS (l:=cur.toList.take (0+i*L.size)++[u]) (by rw[zj,hlen];omega),zj,hlen,hul',zdv]
def zEi (s:Nat):Value→Nat→Nat→Value
 | .slice p _ c,l,m=>.slice (if c=l then p else p.map (·.add (l*s))) (m-l) (c-l)
 | v,_,_=>v
theorem zEq {own:Own} {k:Nat} (hk:own[k]?=some o):own.set k o=own:=by
 apply zeF;intro q;rw[zir];split
 ·rename_i e4;subst e4;split
  ·exact hk.symm
  ·rename_i h5;rw[zbF zW]
 rfl
theorem zyw {k l: Nat} {t: TypeId} (st:St h0 w0 h w own) (hO:OSl L T h v xs o) (hk:own[k]?=some o) (hlm:l≤m) (hmc:∀ p n c,v=.slice p n c→m≤c) (hx:ev σ x=zEi L.size v l m) (ht:P.underlying t=some (.slice e)) (hz:∀ w,(zeroValue e).run P w=.ok z w) (hzs:z.cells.size=L.size) (hz1:∀ u∈z.cells.toList,u.oneCell'=true) (hK:∀ o' w' own',own'=own.set k o'→(∀ j,j≤l→j≤xs.length→OSl L T h (zrg v j) (xs.take j) o')→St h0 w0 h w' own'→M P n ops rest Kw σ w'):M P n ops (⟨none,.call ⟨.builtin .clear,#[x],#[t]⟩,ty,pos,aft,none⟩::rest) Kw σ w:=by
 have hset:=zEq hk;have run (v':Value) (w':World) (hv:zEi L.size v l m=v') (hr:(Builtin.clear_ #[t] ty #[v']).run P w=.ok (.tuple #[]) w'):Run P σ w ⟨none,.call ⟨.builtin .clear,#[x],#[t]⟩,ty,pos,aft,none⟩ (.tuple #[]) w':=by
  refine zpb rfl (vs:=[v']) (by simp[hx,hv]) fun cs=>?_;simp only[builtin,Sem.run_bind,hr,Result.andThen_ok,Sem.run_pure]
 obtain ⟨cs,e1,⟨⟨p,rfl⟩,rfl,rfl⟩|⟨gb,cap,cur,rfl,rfl,hnc,hcm,hsz,htk⟩⟩:=hO
 ·have hm0:m-l=0:=by have:=hmc _ _ _ rfl;omega
  refine zax rfl rfl (run _ w rfl ?_) (hK [] w _ rfl (fun j _ hj=>?_) (by rw[hset];exact st))
  ·simp only[zEi,hm0];split <;> cases p <;> simp[Builtin.clear_,run_underlying ht]
  ·have:j=0:=by simpa using hj
   subst this;exact ⟨[],⟨by simp,by simp⟩,.inl ⟨⟨p,rfl⟩,by simp,rfl⟩⟩
 ·have hmc:=hmc _ _ _ rfl;have hcl:cur.toList.length=cap*L.size:=by rw[zhE,hsz]
  have fin:∀ (cur':Array Value) w',cur'.size=cap*L.size→cur'.toList.take (l*L.size)=cur.toList.take (l*L.size)→St h0 w0 h w' (own.set k [(gb,.cells cur' T)])→M P n ops rest Kw σ w':=by
   intro cur' w' h1 h2 s;refine hK _ w' _ rfl (fun j hjl hj=>⟨_,e1.take hj,.inr ⟨gb,cap,cur',?_,rfl,?_,hcm,h1,?_⟩⟩) s
   ·rw[zt,zdX hj];rfl
   ·rw[zt,zdX hj];omega
   ·have h3:=zcE (List.take (j*L.size)) h2;rw[zhY,zhY,zdX (zcb _ hjl)] at h3;rw[zt,zdX hj,h3,← htk,zhY,zdX (zcb _ hj)]
  by_cases h0:m-l=0
  ·refine zax rfl rfl (run _ w rfl ?_) (fin cur w hsz rfl (by rw[hset];exact st));simp only[zEi,h0];split <;> simp[Builtin.clear_,run_underlying ht]
  ·have hgw:=st.get hk;have hfit:l*L.size+(List.length (Builtin.zeroCells z.cells (m-l)).toList)≤cur.size:=by
    rw[zhE,size_zeroCells,hzs,hsz];have h2:(l+(m-l))*L.size≤cap*L.size:=zcb _ zW;rw[zhL] at h2;exact h2
   have hst:=run_storeCells_at P gb (l*L.size) T (Builtin.zeroCells z.cells (m-l)).toList 0 cur w hgw (by simpa using hfit) ?_
   ·simp only[Nat.add_zero] at hst;refine zax rfl rfl (run (.slice ((some (⟨gb,0,none⟩:Addr)).map (·.add (l*L.size))) (m-l) (cap-l)) (w.setRow gb (cur.toList.take (l*L.size)++(Builtin.zeroCells z.cells (m-l)).toList++cur.toList.drop (l*L.size+(Builtin.zeroCells z.cells (m-l)).toList.length)).toArray) (by simp only[zEi];rw[zam (by omega:¬ cap=l)]) ?_) (fin (cur.toList.take (l*L.size)++(Builtin.zeroCells z.cells (m-l)).toList++cur.toList.drop (l*L.size+(Builtin.zeroCells z.cells (m-l)).toList.length)).toArray _ ?_ ?_ ?_)
    ·obtain ⟨q,hm⟩:∃ q,m-l=q+1:=⟨m-l-1,by omega⟩;rw[hm] at hst;simp[Builtin.clear_,run_underlying ht,hm,hz,zik,hst]
    ·rw[ziq,zj,zj,zt,zeQ,hcl];omega
    ·rw[zaB,List.take_append,zt,hcl];rw[zhY,Nat.min_self,show l*L.size-min (l*L.size) (cap*L.size)=0 by have:=zcb L.size (show l≤cap by omega);omega,zfc,zbL]
    ·have:=st.set (.cells (cur.toList.take (l*L.size)++(Builtin.zeroCells z.cells (m-l)).toList++cur.toList.drop (l*L.size+(Builtin.zeroCells z.cells (m-l)).toList.length)).toArray T) hk;refine this.same ?_ rfl rfl rfl (zbR _);apply zhg;intro q;have hlt:=zgU hgw
     by_cases ej:q=gb
     ·subst ej;rw[setRow_heap w _ cur _ T _ hgw];simp[hlt]
     ·rw[setRow_other w gb q _ ej];simp[Ne.symm ej]
   ·intro u hu;refine hz1 u ?_;simp only[Builtin.zeroCells,Array.toList_map,zbk] at hu;obtain ⟨q,hq,rfl⟩:=hu;have hq2:q<(m-l)*z.cells.size:=by simpa using hq
    have hpos:0<z.cells.size:=by
     rcases Nat.eq_zero_or_pos z.cells.size with e0|e0
     ·rw[e0] at hq2;omega
     ·exact e0
    have hm:=Nat.mod_lt q hpos;rw[getElem!_pos z.cells _ hm];exact Array.getElem_mem_toList hm
theorem znF {k: Nat} {t: TypeId} (st:St h0 w0 h w own) (hO:OSl L T h v xs o) (hk:own[k]?=some o) (hj:j≤xs.length) (hx:ev σ x=zmQ L.size v j) (ht:P.underlying t=some (.slice e)) (hz:∀ w,(zeroValue e).run P w=.ok z w) (hzs:z.cells.size=L.size) (hz1:∀ u∈z.cells.toList,u.oneCell'=true) (hK:∀ o' w' own',own'=own.set k o'→OSl L T h (zrg v j) (xs.take j) o'→St h0 w0 h w' own'→M P n ops rest Kw σ w'):M P n ops (⟨none,.call ⟨.builtin .clear,#[x],#[t]⟩,ty,pos,aft,none⟩::rest) Kw σ w:=by
 obtain ⟨p,c,rfl⟩:=hO.form;refine zyw (l:=j) (m:=xs.length) st hO hk hj (fun p n c e=>?_) hx ht hz hzs hz1 (fun o' w' own' e1 f s=>hK o' w' own' e1 (f j (zbR _) hj) s);have:=hO.len _ _ _ e;have:=hO.caps _ _ _ e;omega
theorem Sl.ofCells (hc:zaL h b off cs) (hE:Enc L h cs xs) (hb:xs.length≤big):Sl L h (.slice (some ⟨b,off,none⟩) xs.length xs.length) xs:=by
 refine ⟨_,xs.length,rfl,⟨hb,zbR _⟩,.inr ⟨b,off,rfl,fun i x hi=>⟨_,?_,hE.2 i x hi⟩⟩⟩;obtain ⟨row,T,fr,hb,hh⟩:=hc;refine ⟨row,T,fr,hb,fun j u hj=>?_⟩;rw[zaR] at hj;split at hj
 ·rw[zdL] at hj;have:=hh _ _ hj;rw[Nat.add_assoc];exact this
 cases hj
theorem zvD {len: Nat} {t: TypeId} (hx:ev σ x=.pointer (some ⟨b,off,none⟩)) (hu:P.underlying t=some (.array len e)) (hz:∀ w,(sizeOf e).run P w=.ok m w):
  Run P σ w ⟨dst,.slice t x none none none,ty,pos,aft,g⟩ (.slice (some ⟨b,off,none⟩) len len) w:=by
 by_cases h:len=0 <;> simp[Run,execOp,hx,Instr.sliceAt,run_underlying hu,Instr.sliceBounds,hz,Instr.sureAddr,zik,h]
theorem zAG {s:TypeId} {k: Nat} {fs:Array Field} {f:Field} (hx:ev σ x=.agg vs.toArray) (hu:P.underlying s=some (.struct fs)) (hf:fs[k]?=some f) (ha:∀ w,(isAgg f.type).run P w=.ok true w) (hz:∀ w,(sizeOf f.type).run P w=.ok m w) (hv:(vs.drop f.offset).take m=us) (hl:us.length=m):
  Run P σ w ⟨dst,.field s x k,ty,pos,aft,g⟩ (.agg us.toArray) w:=by
 subst hv;simp[Run,execOp,hx,Instr.field,run_underlying hu,hf,asAgg,part,ha,hz]
theorem zhm {P:Program} {n: Nat} {t:TypeId} {σ:Env} {w:World} (hr:fn.results=#[.cell a t,.tmp u]) (hp:σ a=.pointer (some ⟨b,0,none⟩)) (ha:∀ w,(isAgg t).run P w=.ok true w) (hz:∀ w,(sizeOf t).run P w=.ok n w) (hn:cs.length=n) (hb:w.heap[b]?=some (.cells cs.toArray T)) (h:R (.returned (.tuple #[.agg cs.toArray,σ u])) w):zZ fn P R .ret σ w:=by
 intro tmps ht;refine ⟨_,?_,h⟩;subst hn;have hl:=run_loadCells_list (P:=P) (w:=w) ⟨b,0,none⟩ cs (fun j v hj=>by rw[zik];simp[World.cell?,hb,hj]);have hp':tmps.getD a undef=.pointer (some ⟨b,0,none⟩):=by rw[ht,hp]
 have hu:=ht u;simp only[zbb] at hp' hu;simp[results,hr,hp',hu,asAddr,loadVar,ha,hz,hl]
theorem zxL {P:Program} {n: Nat} {t:TypeId} {σ:Env} {w:World} {h:Heap} (hr:fn.results=#[.cell a t,.tmp u]) (hp:σ a=.pointer (some ⟨b,0,none⟩)) (ha:∀ w,(isAgg t).run P w=.ok true w) (hz:∀ w,(sizeOf t).run P w=.ok n w) (hn:cs.length=n) (hs:Sub h w) (hb:zaL h b 0 cs) (hR:R (.returned (.tuple #[.agg cs.toArray,σ u])) w):zZ fn P R .ret σ w:=by
 intro tmps ht;refine ⟨_,?_,hR⟩;subst hn;have hl:=run_loadCells_list (P:=P) (w:=w) ⟨b,0,none⟩ cs (fun j v hj=>by rw[zik];exact hb.cell hs hj);have hp':tmps.getD a undef=.pointer (some ⟨b,0,none⟩):=by rw[ht,hp]
 have hu:=ht u;simp only[zbb] at hp' hu;simp[results,hr,hp',hu,asAddr,loadVar,ha,hz,hl]
end
theorem zyt {n:Nat} {ops:Array Oper} {C:World→Prop} {rest:List Oper} {Kw:Env→Prop} {op:Op} {type:TypeId} {after:Array Edge} {g d:Nat} {b:Bool} (hg:(ops[g]?).bind (·.dst)=some d) (hd:Nat.blt d n=true) (hv:σ d=undef) (hdst:zjw n dst=true) (h:zai P n ops C rest Kw (updO σ dst undef)):zai P n ops C (⟨dst,op,type,pos,after,some (g,b)⟩::rest) Kw σ:=by
 intro a ha;unfold wpQuiet;rw[zam (by simp[Region.wanted,zsR ha hg hd hv])];exact h _ (ha.put hdst _)
theorem OSl.whole {h0: Heap} {w0: World} {own:Own} {k:Nat} (st:St h0 w0 h w own) (e:OSl L T h v xs o) (hk:own[k]?=some o) (hb:xs.length≤281474976710656):Le h (zmj w)∧Sl L (zmj w) v xs:=by
 have hle:Le h (zmj w):=fun b o hb=>st.sub b o hb;refine ⟨hle,?_⟩;obtain ⟨cs,e1,⟨⟨p,rfl⟩,rfl,rfl⟩|⟨g,cap,cur,rfl,rfl,hnc,_,hsz,htk⟩⟩:=e
 ·exact ⟨p,0,rfl,⟨zfg _,zfg _⟩,.inl rfl⟩
 have hg:=st.get hk;refine ⟨_,cap,rfl,⟨hb,hnc⟩,.inr ⟨g,0,rfl,fun i x hi=>⟨_,⟨cur,T,_,hg,fun j u hj=>?_⟩,L.up (e1.2 i x hi) hle⟩⟩⟩;have hjl:j<L.size:=by
  rw[zaR] at hj;split at hj
  ·assumption
  ·cases hj
 rw[zaR,zab hjl,zdL,← htk,zaR] at hj;split at hj
 ·rw[zdv];simpa using hj
 cases hj
theorem St.thaw {h' : Heap} {w' : World} (s:St (zmj w) w h' w' []) (hs:Sub h w):St h w h w' []:=
 ⟨Le.refl h,fun _ _=>rfl,fun b o hb=>s.sub b o (s.le b o (hs b o hb)),s.below,by simp,by simp⟩
theorem Sl.take {α:Type} {L:Lay α} {h:Heap} {v:Value} {xs:List α} (e:Sl L h v xs) {k:Nat} (hk:k≤xs.length):Sl L h (zrg v k) (xs.take k):=by
 obtain ⟨p,c,rfl,⟨hb,hc⟩,hh⟩:=e;have hl:(xs.take k).length=k:=by rw[zt,zdX hk]
 refine ⟨p,c,by rw[hl];rfl,⟨by omega,by omega⟩,?_⟩
 rcases hh with rfl|⟨b,off,rfl,hh⟩
 ·exact .inl (by simp)
 refine .inr ⟨b,off,rfl,fun i x hi=>hh i x ?_⟩;rw[zaR] at hi;split at hi
 ·exact hi
 cases hi
theorem Sl.drop {α:Type} {L:Lay α} {h:Heap} {v:Value} {xs:List α} (e:Sl L h v xs) {k:Nat} (hk:k≤xs.length):Sl L h (zmQ L.size v k) (xs.drop k):=by
 obtain ⟨p,c,rfl,⟨hb,hc⟩,hh⟩:=e;have hl:(xs.drop k).length=xs.length-k:=zeQ;refine ⟨_,_,by rw[hl];rfl,⟨by omega,by omega⟩,?_⟩
 rcases hh with rfl|⟨b,off,rfl,hh⟩
 ·exact .inl (by simp)
 by_cases h1:c=k
 ·exact .inl (zeV zW)
 rw[zam h1];refine .inr ⟨b,off+k*L.size,by simp[zik],fun i x hi=>?_⟩;rw[zdL] at hi;obtain ⟨vs,h2,h3⟩:=hh _ x hi;refine ⟨vs,?_,h3⟩;rw[Nat.add_assoc,← zhL];exact h2
theorem Sl.caps (e:Sl L h v xs):∀ p n c,v=.slice p n c→n≤c:=by
 rintro p n c rfl;obtain ⟨q,c',e2,⟨_,hc⟩,_⟩:=e;cases e2;exact hc
theorem ziK {t: TypeId} {k: Nat} (hO:Sl L h v xs) (hx:ev σ x=v) (hi:ev σ hi_=.int .i64 i) (hk:i=(k:Int)) (hle:k≤xs.length) (hu:P.underlying t=some (.slice e)) (hz:∀ w,(sizeOf e).run P w=.ok m w):
  Run P σ w ⟨dst,.slice t x none (some hi_) none,ty,pos,aft,g⟩ (zrg v k) w:=by
 subst hk;obtain ⟨p,c,rfl⟩:=hO.form;have hc:=hO.caps _ _ _ rfl;have h1:k≤c:=by omega
 cases p <;> simp[Run,execOp,hx,hi,Instr.sliceAt,Instr.slice,run_underlying hu,Instr.sliceBounds,Instr.sliceBound,asIntOf,hz,h1,zrg];rename_i a;intro _;cases a;rfl
theorem zit {t: TypeId} {k: Nat} (hO:Sl L h v xs) (hx:ev σ x=v) (hi:ev σ lo=.int .i64 i) (hk:i=(k:Int)) (hle:k≤xs.length) (hu:P.underlying t=some (.slice e)) (hz:∀ w,(sizeOf e).run P w=.ok m w):
  Run P σ w ⟨dst,.slice t x (some lo) none none,ty,pos,aft,g⟩ (zmQ m v k) w:=by
 subst hk;obtain ⟨p,c,rfl⟩:=hO.form;have h1:k≤xs.length:=hle;simp[Run,execOp,hx,hi,Instr.sliceAt,Instr.slice,run_underlying hu,Instr.sliceBounds,Instr.sliceBound,asIntOf,hz,h1,zmQ]
end Go.Pk

namespace Go.Pk
def inB (n lo hi:Int):Bool:=decide (lo≤n) && decide (n≤hi)
def isL (c:UInt8):Bool:=decide (97≤(c.toNat:Int)) && decide ((c.toNat:Int)≤122)
def zgM (s:Str) (lo:Int):Bool:=s.all isL && inB s.length lo 12
def zgA (s:Str):Bool:=zgM s 1
def zmh (l:List Str):Bool:=inB l.length 1 10 && l.all zgA
def zeC (c:Chapter):Bool:=inB c.id 0 9999 && inB c.lines.length 1 10 && c.lines.all zmh
def zcz (t:Text):Bool:=inB t.chapters.length 1 6 && t.chapters.all zeC && decide (t.chapters.map (·.id)).Nodup
def zdw (t:Text) (p:Place):Option (List Str):=
 if 0≤p.chapter∧0≤p.line then (t.chapters[p.chapter.toNat]?).bind fun c=>c.lines[p.line.toNat]? else none
def znn (t:Text) (p:Place):Option Str:=
 if 0≤p.word then (zdw t p).bind fun l=>l[p.word.toNat]? else none
def zeb (t:Text) (p:Place):Bool:=(znn t p).isSome
def zge (a b:Place):Bool:=
 if a.chapter≠b.chapter then decide (a.chapter<b.chapter) else if a.line≠b.line then decide (a.line<b.line) else decide (a.word<b.word)
def zmp (r:Rule):Bool:=zgM r.cut 1 && zgM r.put 0 && decide (r.cut≠r.put) && inB r.least 1 12
def zlo (h:Head):Bool:=zgA h.stem && inB h.mark 0 3
def zjN:Place:=⟨0,0,0⟩
def zkS:Head:=⟨[],0⟩
def zhV:Decision:=⟨0,0,[],zjN,zkS,0⟩
def zbE (t:Text) (d:Decision):Bool:=
 inB d.number 1 999 &&
 (if d.kind=1 then zgA d.form && decide (d.at_=zjN) && zlo d.to && decide (d.of_=0)
  else if d.kind=2 then zgA d.form && zeb t d.at_ && zlo d.to && decide (d.of_=0)
  else if d.kind=3 then decide (d.form=[]) && zeb t d.at_ && zlo d.to && decide (d.of_=0)
  else if d.kind=4 then decide (d.form=[]) && decide (d.at_=zjN) && decide (d.to=zkS) && inB d.of_ 1 (d.number-1)
  else false)
def zfA (t:Text) (x:Lexicon):Bool:=
 decide (x.rules.length≤12) && decide (x.decisions.length≤20) && x.rules.all zmp && x.decisions.all (zbE t) && decide (x.decisions.map (·.number)).Nodup
def zcZ (t:Text) (x:Lexicon):Int:=if zcz t=false then 10 else if zfA t x=false then 40 else 0
def zlt (r:Rule) (w:Str):Option Str:=
 if r.cut.length≤w.length∧r.least≤((w.length-r.cut.length:Nat):Int)∧w.drop (w.length-r.cut.length)=r.cut∧w.length-r.cut.length+r.put.length≤12 then some (w.take (w.length-r.cut.length)++r.put) else none
def zjD (rs:List Rule) (w:Str):Option Str:=rs.findSome? (zlt · w)
def zgT (rs:List Rule):Nat→Str→List Str
 | 0,w=>[w]
 | n+1,w=>match zjD rs w with
  | none=>[w]
  | some s=>w::zgT rs n s
theorem zrB (r:Rule) (rs:List Rule) (w:Str):zjD (r::rs) w=match zlt r w with|some s=>some s|none=>zjD rs w:=by
 simp only[zjD,List.findSome?_cons];cases zlt r w <;> rfl
theorem zvw {rs:List Rule} {n m:Nat} {w s:Str} (hn:n=m+1) (h:zjD rs w=some s):zgT rs n w=w::zgT rs m s:=by
 subst hn;simp[zgT,h]
theorem zvx {rs:List Rule} {n:Nat} {w:Str} (h:zjD rs w=none):zgT rs n w=[w]:=by
 cases n <;> simp[zgT,h]
theorem zjS {α:Type} {xs:List α} {k:Nat} {y:α} (h:xs[k]?=some y):xs.drop k=y::xs.drop (k+1):=by
 obtain ⟨h1,h2⟩:=k_List_getElem__eq_some_iff.1 h;rw[zcX h1,h2]
theorem zwS {r:Rule} {w s:Str} (h:zlt r w=some s):s.length≤12:=by
 unfold zlt at h;split at h
 ·rename_i h1;cases h;simp;omega
 cases h
theorem zEZ {r:Rule} {w s:Str} (hr:1≤r.least) (h:zlt r w=some s):s≠[]:=by
 unfold zlt at h;split at h
 ·rename_i h1;cases h;intro e;have:=zcE List.length e;simp at this;omega
 cases h
theorem zBG {rs:List Rule} {w s:Str} (hr:∀ r∈rs,1≤r.least) (h:zjD rs w=some s):s≠[]:=by
 induction rs with
 | nil=>cases h
 | cons r rs ih=>
  rw[zrB] at h;cases e:zlt r w with
  | none=>rw[e] at h;exact ih (fun r hr'=>hr r (zcH _ hr')) h
  | some q=>rw[e] at h;cases h;exact zEZ (hr r (zct ..)) e
theorem zyd {t:Text} {x:Lexicon} (h:zcZ t x=0):∀ r∈x.rules,1≤r.least:=by
 intro r hr;unfold zcZ at h;split at h
 ·cases h
 split at h
 ·cases h
 rename_i h2;have h3:zfA t x=true:=by simpa using h2
 simp only[zfA,zK,zal] at h3;have h4:=h3.1.1.2 r hr;simp only[zmp,inB,zK,zX] at h4;omega
theorem ztM {s:Str} (h:zgA s=true):s.length≤12:=by
 simp only[zgA,zgM,inB,zK,zX] at h;omega
def zkl (x:Lexicon):Nat→Decision→Bool
 | 0,_=>true
 | n+1,d=>x.decisions.all fun v=>!(decide (v.kind=4) && decide (v.of_=d.number) && zkl x n v)
def zrv (x:Lexicon) (n:Nat) (d v:Decision):Bool:=!(decide (v.kind=4) && decide (v.of_=d.number) && zkl x (n-1) v)
theorem zoY {x:Lexicon} {n:Nat} {d:Decision} (hv:∀ v∈x.decisions,v.number≤999∧(v.kind=4→v.of_<v.number)) (hn:999<d.number+n):zkl x n d=x.decisions.all (zrv x n d):=by
 cases n with
 | succ n=>rfl
 | zero=>
  simp only[zkl]
  symm
  rw[zal];intro v hm;obtain ⟨h1,h2⟩:=hv v hm;simp only[zrv,zfp,zfN,zcw];left
  by_cases h:v.kind=4
  ·right;have:=h2 h;omega
  ·left;exact h
def zib (x:Lexicon) (d:Decision):Bool:=zkl x 1000 d
def zqD (x:Lexicon) (n:Nat) (d:Decision):Bool:=decide (d.number=(n:Int)+1) && zkl x 1000 d
def zmv (x:Lexicon) (n:Nat):List Decision:=x.decisions.filter (zqD x n)
def zhq (x:Lexicon):List Decision:=(List.range 999).flatMap (zmv x)
theorem zuN {x:Lexicon} (n:Nat) (h:x.decisions.length≤20):((List.range n).flatMap (zmv x)).length≤20*n:=by
 induction n with
 | zero=>simp
 | succ n ih=>
  rw[zdb,zfi,zj];have:=zak (zqD x n) x.decisions;simp only[zhA,List.flatMap_nil,zbL,zmv];omega
theorem ztk {t:Text} {x:Lexicon} (h:zcZ t x=0):zcz t=true∧zfA t x=true:=by
 unfold zcZ at h;split at h
 ·cases h
 rename_i h1;split at h
 ·cases h
 rename_i h2;exact ⟨by simpa using h1,by simpa using h2⟩
theorem zrH {t:Text} {x:Lexicon} (h:zcZ t x=0):∀ v∈x.decisions,zbE t v=true:=by
 have h1:=(ztk h).2;simp only[zfA,zK,zal] at h1;exact h1.1.2
theorem zyP {t:Text} {x:Lexicon} (h:zcZ t x=0):∀ v∈x.decisions,v.number≤999∧(v.kind=4→v.of_<v.number):=by
 intro v hv;have h1:=zrH h v hv;simp only[zbE,zK,inB,zX] at h1;refine ⟨h1.1.2,fun h4=>?_⟩;have h2:=h1.2;rw[h4] at h2;simp at h2;omega
theorem zwU {t:Text} {x:Lexicon} (h:zcZ t x=0):∀ v∈x.decisions,1≤v.number:=by
 intro v hv;have h1:=zrH h v hv;simp only[zbE,zK,inB,zX] at h1;exact h1.1.1
theorem zwV {t:Text} {x:Lexicon} (h:zcZ t x=0):x.decisions.length≤20:=by
 have h1:=(ztk h).2;simp only[zfA,zK,zX] at h1;exact h1.1.1.1.2
def zey (l:List Int) (lo hi:Int):Bool:=l.all fun n=>inB n lo hi
theorem zuh (l:List Int) (lo hi:Int):(!(l.any fun n=>decide (n<lo) || decide (hi<n)))=zey l lo hi:=by
 unfold zey;rw[List.not_any_eq_all_not];congr 1;funext n;simp only[inB,Bool.not_or]
 by_cases h1:n<lo <;> by_cases h2:hi<n <;> simp[h1,h2] <;> omega
@[simp] theorem inAll_one (n lo hi:Int):zey [n] lo hi=inB n lo hi:=by simp[zey]
theorem zAU (s:Str):((s.map fun c=>(c.toNat:Int)).any fun b=>decide (b<97) || decide (122<b)) = !(s.all isL):=by
 rw[List.any_map,List.not_all_eq_any_not];congr 1;funext c;simp only[Function.comp,isL,Bool.not_and]
 by_cases h1:(c.toNat:Int)<97 <;> by_cases h2:122<(c.toNat:Int) <;> simp[h1,h2] <;> omega
theorem zAf (s:Str):zgA s=(inB s.length 1 12 && !((s.map fun c=>(c.toNat:Int)).any fun b=>decide (b<97) || decide (122<b))):=by
 rw[zAU,zgA,zgM,Bool.not_not,Bool.and_comm]
theorem zrF (t:Text) (p:Place):zeb t p=((zdw t p).isSome && inB p.word 0 ((((zdw t p).getD []).length:Int)-1)):=by
 unfold zeb znn;cases h:zdw t p with
 | none=>simp
 | some l=>
  simp only[Option.bind_some,Option.isSome_some,zdK,zdQ,inB]
  by_cases h1:0≤p.word
  ·rw[zab h1]
   by_cases h2:p.word≤(l.length:Int)-1
   ·rw[zn zW];simp[h1,h2]
   ·rw[zbF zW];simp[h2]
  ·rw[zam h1];simp[h1]
theorem ztj {t:Text} {p:Place} (h:¬ (0≤p.chapter∧p.chapter≤(t.chapters.length:Int)-1)):zdw t p=none:=by
 unfold zdw;split
 ·rename_i h1;rw[zbF zW];rfl
 rfl
theorem zti {t:Text} {p:Place} {c:Chapter} (hc:t.chapters[p.chapter.toNat]?=some c) (h:¬ (0≤p.line∧p.line≤(c.lines.length:Int)-1)):zdw t p=none:=by
 unfold zdw;split
 ·rename_i h1;rw[hc];exact zbF zW
 rfl
theorem zuZ {t:Text} {p:Place} {c:Chapter} {l:List Str} (hc:t.chapters[p.chapter.toNat]?=some c) (h:0≤p.chapter) (hl:c.lines[p.line.toNat]?=some l) (h2:0≤p.line):zdw t p=some l:=by
 unfold zdw;rw[zab ⟨h,h2⟩,hc];exact hl
section
variable {α:Type} {xs:List α} {k:Nat} {y:α} {p:α→Bool}
theorem zeW (h:(xs.take k).all p=true) (hy:xs[k]?=some y) (hp:p y=true):(xs.take (k+1)).all p=true:=by
 rw[zbg hy,List.all_append,h];simp[hp]
theorem zdY (h:(xs.take k).all p=true) (hk:xs.length≤k):xs.all p=true:=by
 rwa [zS hk] at h
theorem zri {β:Type} {f:α→β} (h:((xs.take k).map f).Nodup) (hy:xs[k]?=some y) (hk:k≤xs.length) (hd:∀ j z,j<k→xs[j]?=some z→f z≠f y):((xs.take (k+1)).map f).Nodup:=by
 rw[zbg hy,zaz,zcx];refine ⟨h,by simp,?_⟩;intro a ha b hb e;simp only[zbQ,zfm,zgc] at hb;subst hb;subst e;obtain ⟨z,hz,e⟩:=zbk.1 ha;obtain ⟨j,hj⟩:=k_List_mem_iff_getElem_.1 hz;rw[zaR] at hj;split at hj
 ·exact hd j z (by assumption) hj e
 cases hj
theorem zql {β:Type} {f:α→β} {j:Nat} {z:α} (hz:xs[j]?=some z) (hy:xs[k]?=some y) (hj:j<k) (e:f z=f y):¬ (xs.map f).Nodup:=by
 intro h;obtain ⟨h1,h2⟩:=k_List_getElem__eq_some_iff.1 hz;obtain ⟨h3,h4⟩:=k_List_getElem__eq_some_iff.1 hy;have h5:=zdE.1 h j k (by simpa using h1) (by simpa using h3) hj;simp only[List.getElem_map,h2,h4] at h5;exact h5 e
theorem zpZ {β:Type} {f:α→β} (hy:xs[k]?=some y) (h:f y∈(xs.take k).map f):¬ (xs.map f).Nodup:=by
 obtain ⟨z,hz,e⟩:=zbk.1 h;obtain ⟨j,hj⟩:=k_List_mem_iff_getElem_.1 hz;rw[zaR] at hj;split at hj
 ·exact zql hj hy (by assumption) e
 cases hj
theorem zwl (q:α→Bool):(xs.any fun x=>!q x) = !(xs.all q):=by rw[List.not_all_eq_any_not]
theorem zeG (hy:xs[k]?=some y) (hp:p y=false):xs.all p=false:=by
 rw[List.all_eq_false];exact ⟨y,zD hy,by simp[hp]⟩
end
end Go.Pk

namespace Go.Pk
open Go Go.RowKit
variable {α υ κ:Type} {a b:List α} {x:Lexicon} {y:α} {p:Place} {d e:Decision} {h h0:Heap} {v:Value} {wd s:Str} {L:Lay α} {c:Chapter} {ds l ys:List Decision} {w0 w:World} {j i n f off:Nat} {xs:List α} {o O:List (Nat×Obj)} {u:υ} {P:Program} {kt:TypeId} {fs:Array Field} {es:List MapEntry} {m:List (κ×υ)} {Q:Env→World→Prop} {is:List Nat} {σ:Env} {r:Rule} {cs:Array Value} {rs:List Rule} {left:Int} {ln:List Str}
theorem zhv {k:Nat} {x: α} (h:a.take k=b.take k) (ha:a[k]?=some x) (hb:b[k]?=some y) (e:x=y):a.take (k+1)=b.take (k+1):=by
 subst e;rw[List.take_add_one,List.take_add_one,h,ha,hb]
theorem zin {k:Nat} {x: α} (ha:a[k]?=some x) (hb:b[k]?=some y) (e:x≠y):a≠b:=by
 rintro rfl;rw[ha] at hb;cases hb;exact e rfl
theorem ziF {k:Nat} (h:a.take k=b.take k) (hl:a.length=b.length) (hk:a.length≤k):a=b:=by
 rwa [zS hk,zS zW] at h
theorem zwX (s:Str) (lo:Int):zgM s lo=(inB s.length lo 12 && !(s.any fun c=>decide ((c.toNat:Int)<97) || decide (122<(c.toNat:Int)))):=by
 unfold zgM;rw[Bool.and_comm];congr 1;rw[List.not_any_eq_all_not];congr 1;funext c;simp only[isL,Bool.not_or];congr 1 <;> (rw[← decide_not];congr 1;simp only[Int.not_lt])
theorem zCI (h:Head) (h0:0≤h.mark):zlo h=(zgM h.stem 1 && decide (h.mark≤3)):=by
 unfold zlo zgA inB;simp[h0]
theorem zmG (d:Decision) (k:Int) (f:Str) (a:Place) (t:Head) (o:Int):(d=Decision.mk d.number k f a t o)↔(d.kind=k∧d.form=f∧d.at_=a∧d.to=t∧d.of_=o):=by
 rcases d with ⟨n,k',f',a',t',o'⟩
 simp
theorem znD {t:Text} (ht:zcz t=true):((if (zcz t && zeb t p)=true then (0:Int) else if zcz t=true then 12 else 10)=0)=(zeb t p=true):=by
 cases h:zeb t p <;> simp[ht]
theorem zHy {t:Text} (ht:zcz t=true) (hk:d.kind=1) (hn:(!zey [d.number] 1 999)=false) (g:d=Decision.mk d.number d.kind d.form (Place.mk 0 0 0) d.to 0) (e0:zgM d.form 1=true) (e1:zlo d.to=true):true=zbE t d:=by
 rw[inAll_one] at hn;rw[zmG] at g
 try rw[znD ht] at e0
 try rw[znD ht] at e1
 simp_all[zbE,zgA,zjN,zkS]
theorem zGs {t:Text} (ht:zcz t=true) (hk:d.kind=1) (hn:(!zey [d.number] 1 999)=false) (g:d=Decision.mk d.number d.kind d.form (Place.mk 0 0 0) d.to 0) (e0:zgM d.form 1=false):false=zbE t d:=by
 rw[inAll_one] at hn;rw[zmG] at g
 try rw[znD ht] at e0
 simp_all[zbE,zgA,zjN,zkS]
theorem zGr {t:Text} (ht:zcz t=true) (hk:d.kind=1) (hn:(!zey [d.number] 1 999)=false) (g:d=Decision.mk d.number d.kind d.form (Place.mk 0 0 0) d.to 0) (e0:zgM d.form 1=true) (e1:zlo d.to=false):false=zbE t d:=by
 rw[inAll_one] at hn;rw[zmG] at g
 try rw[znD ht] at e0
 try rw[znD ht] at e1
 simp_all[zbE,zgA,zjN,zkS]
theorem zHz {t:Text} (ht:zcz t=true) (hk:d.kind=1) (hn:(!zey [d.number] 1 999)=false) (g:¬ d=Decision.mk d.number d.kind d.form (Place.mk 0 0 0) d.to 0):false=zbE t d:=by
 rw[inAll_one] at hn;rw[zmG] at g
 symm
 rw[Bool.eq_false_iff];intro q;apply g;simp[zbE,hk,zjN,zkS,zK] at q;simp_all
theorem zHw {t:Text} (ht:zcz t=true) (hk:d.kind=2) (hn:(!zey [d.number] 1 999)=false) (g:d=Decision.mk d.number d.kind d.form d.at_ d.to 0) (e0:zgM d.form 1=true) (e1:((if (zcz t && zeb t d.at_)=true then (0:Int) else if zcz t=true then 12 else 10)=0)) (e2:zlo d.to=true):true=zbE t d:=by
 rw[inAll_one] at hn;rw[zmG] at g
 try rw[znD ht] at e0
 try rw[znD ht] at e1
 try rw[znD ht] at e2
 simp_all[zbE,zgA,zjN,zkS]
theorem zGq {t:Text} (ht:zcz t=true) (hk:d.kind=2) (hn:(!zey [d.number] 1 999)=false) (g:d=Decision.mk d.number d.kind d.form d.at_ d.to 0) (e0:zgM d.form 1=false):false=zbE t d:=by
 rw[inAll_one] at hn;rw[zmG] at g
 try rw[znD ht] at e0
 simp_all[zbE,zgA,zjN,zkS]
theorem zGp {t:Text} (ht:zcz t=true) (hk:d.kind=2) (hn:(!zey [d.number] 1 999)=false) (g:d=Decision.mk d.number d.kind d.form d.at_ d.to 0) (e0:zgM d.form 1=true) (e1:¬ ((if (zcz t && zeb t d.at_)=true then (0:Int) else if zcz t=true then 12 else 10)=0)):false=zbE t d:=by
 rw[inAll_one] at hn;rw[zmG] at g
 try rw[znD ht] at e0
 try rw[znD ht] at e1
 simp_all[zbE,zgA,zjN,zkS]
theorem zGo {t:Text} (ht:zcz t=true) (hk:d.kind=2) (hn:(!zey [d.number] 1 999)=false) (g:d=Decision.mk d.number d.kind d.form d.at_ d.to 0) (e0:zgM d.form 1=true) (e1:((if (zcz t && zeb t d.at_)=true then (0:Int) else if zcz t=true then 12 else 10)=0)) (e2:zlo d.to=false):false=zbE t d:=by
 rw[inAll_one] at hn;rw[zmG] at g
 try rw[znD ht] at e0
 try rw[znD ht] at e1
 try rw[znD ht] at e2
 simp_all[zbE,zgA,zjN,zkS]
theorem zHx {t:Text} (ht:zcz t=true) (hk:d.kind=2) (hn:(!zey [d.number] 1 999)=false) (g:¬ d=Decision.mk d.number d.kind d.form d.at_ d.to 0):false=zbE t d:=by
 rw[inAll_one] at hn;rw[zmG] at g
 symm
 rw[Bool.eq_false_iff];intro q;apply g;simp[zbE,hk,zjN,zkS,zK] at q;simp_all
theorem zHu {t:Text} (ht:zcz t=true) (hk:d.kind=3) (hn:(!zey [d.number] 1 999)=false) (g:d=Decision.mk d.number d.kind [] d.at_ d.to 0) (e0:((if (zcz t && zeb t d.at_)=true then (0:Int) else if zcz t=true then 12 else 10)=0)) (e1:zlo d.to=true):true=zbE t d:=by
 rw[inAll_one] at hn;rw[zmG] at g
 try rw[znD ht] at e0
 try rw[znD ht] at e1
 simp_all[zbE,zgA,zjN,zkS]
theorem zGn {t:Text} (ht:zcz t=true) (hk:d.kind=3) (hn:(!zey [d.number] 1 999)=false) (g:d=Decision.mk d.number d.kind [] d.at_ d.to 0) (e0:¬ ((if (zcz t && zeb t d.at_)=true then (0:Int) else if zcz t=true then 12 else 10)=0)):false=zbE t d:=by
 rw[inAll_one] at hn;rw[zmG] at g
 try rw[znD ht] at e0
 simp_all[zbE,zgA,zjN,zkS]
theorem zGm {t:Text} (ht:zcz t=true) (hk:d.kind=3) (hn:(!zey [d.number] 1 999)=false) (g:d=Decision.mk d.number d.kind [] d.at_ d.to 0) (e0:((if (zcz t && zeb t d.at_)=true then (0:Int) else if zcz t=true then 12 else 10)=0)) (e1:zlo d.to=false):false=zbE t d:=by
 rw[inAll_one] at hn;rw[zmG] at g
 try rw[znD ht] at e0
 try rw[znD ht] at e1
 simp_all[zbE,zgA,zjN,zkS]
theorem zHv {t:Text} (ht:zcz t=true) (hk:d.kind=3) (hn:(!zey [d.number] 1 999)=false) (g:¬ d=Decision.mk d.number d.kind [] d.at_ d.to 0):false=zbE t d:=by
 rw[inAll_one] at hn;rw[zmG] at g
 symm
 rw[Bool.eq_false_iff];intro q;apply g;simp[zbE,hk,zjN,zkS,zK] at q;simp_all
theorem zHs {t:Text} (ht:zcz t=true) (hk:d.kind=4) (hn:(!zey [d.number] 1 999)=false) (g:d=Decision.mk d.number d.kind [] (Place.mk 0 0 0) (Head.mk [] 0) d.of_):zey [d.of_] 1 (d.number-1)=zbE t d:=by
 rw[inAll_one] at hn ⊢;rw[zmG] at g;simp_all[zbE,zgA,zjN,zkS]
theorem zHt {t:Text} (ht:zcz t=true) (hk:d.kind=4) (hn:(!zey [d.number] 1 999)=false) (g:¬ d=Decision.mk d.number d.kind [] (Place.mk 0 0 0) (Head.mk [] 0) d.of_):false=zbE t d:=by
 rw[inAll_one] at hn;rw[zmG] at g
 symm
 rw[Bool.eq_false_iff];intro q;apply g;simp[zbE,hk,zjN,zkS,zK] at q;have q1:=zej q.2.1.1.2;have q2:=zej q.2.1.2;have q3:=q.2.1.1.1;simp_all
theorem zCF {t:Text} (f:Sl zaN h v t.chapters) (p:Place):((zdw t p).getD []).length≤281474976710656:=by
 cases e:zdw t p with
 | none=>simp
 | some l=>
  unfold zdw at e;split at e
  ·cases e2:t.chapters[p.chapter.toNat]? with
   | none=>rw[e2] at e;cases e
   | some c=>
    rw[e2,Option.bind_some] at e;obtain ⟨_,_,_,_,_,hr⟩:=Sl.elem f e2;obtain ⟨v1,rfl,f1⟩:=hr;obtain ⟨_,_,_,_,_,hr2⟩:=Sl.elem f1 e;obtain ⟨v2,rfl,f2⟩:=hr2;exact f2.le
  ·cases e
theorem zyy {t:Text} (hp:zeb t p=true) (hw:((zdw t p).getD [])[p.word.toNat]?=some wd):znn t p=some wd:=by
 unfold zeb znn at hp;unfold znn;split at hp
 ·rename_i h1;rw[zab h1];cases e:zdw t p with
  | none=>rw[e] at hw;cases hw
  | some l=>rw[e] at hw;exact hw
 cases hp
theorem zCY {t:Text} (hp:zeb t p=false):znn t p=none:=by
 unfold zeb at hp;cases e:znn t p with
 | none=>rfl
 | some l=>rw[e] at hp;cases hp
def Box {α:Type} (L:Lay α) (h:Heap) (c:Bool) (x:α) (v:Value):Prop:=bif c then ∃ b vs,v=.pointer (some ⟨b,0,none⟩)∧zaL h b 0 vs∧L.R h vs x else v=.pointer none
theorem Box.nil {c:Bool} {x:α} (e:c=false):Box L h c x (.pointer none):=by subst e;rfl
theorem Box.some {c:Bool} {x:α} {b:Nat} {vs:List Value} (e:c=true) (hc:zaL h b 0 vs) (hr:L.R h vs x):Box L h c x (.pointer (some ⟨b,0,none⟩)):=by subst e;exact ⟨b,vs,rfl,hc,hr⟩
def zGl (t:Text) (ds:List Decision) (k:Nat):Bool:=match ds[k]? with|some d=>!(decide (d.number∈(ds.take k).map (·.number))) && zbE t d|none=>true
theorem zve {t:Text} {k:Nat} (h:ds[k]?=some d):zGl t ds k=(!(decide (d.number∈(ds.take k).map (·.number))) && zbE t d):=by simp[zGl,h]
theorem zwP {α β:Type} {xs:List α} {f:α→β} (h:∀ j y,xs[j]?=some y→f y ∉ (xs.take j).map f):∀ n,n≤xs.length→((xs.take n).map f).Nodup
 | 0,_=>by simp
 | n+1,hn=>by
  have hy:xs[n]?=some xs[n]:=zn zW;rw[zbg hy,zaz,zcx];refine ⟨zwP h n zW,by simp,?_⟩;intro a ha b hb e;simp only[zbQ,zfm,zgc] at hb;subst hb;subst e;exact h n _ hy ha
theorem zyh {t:Text} {b:Bool} (h:b=true↔∀ j,j<ds.length→zGl t ds j=true):b=(ds.all (zbE t) && decide (ds.map (·.number)).Nodup):=by
 rw[zdR,h,zK,zX,zal];constructor
 ·intro hall;have h1:∀ j y,ds[j]?=some y→y.number ∉ (ds.take j).map (·.number)∧zbE t y=true:=by
   intro j y hy;have:=hall j (k_List_getElem__eq_some_iff.1 hy).1;rw[zve hy] at this;simpa using this
  refine ⟨fun y hy=>?_,?_⟩
  ·obtain ⟨j,hj⟩:=k_List_mem_iff_getElem_.1 hy;exact (h1 j y hj).2
  ·have:=zwP (f:=(·.number)) (fun j y hy=>(h1 j y hy).1) ds.length (zbR _);rwa [zhU] at this
 rintro ⟨h1,h2⟩ j hj;have hy:ds[j]?=some ds[j]:=zn hj;rw[zve hy,h1 _ (zdB hj)];simp only[Bool.and_true,zfp,zcw];intro hm;exact zpZ (f:=(·.number)) hy hm h2
section
variable {α:Type} {L:Lay α} {T:TypeId} {h:Heap} {v:Value} {xs:List α} {o:List (Nat×Obj)}
end
section
variable {P:Program} {n:Nat} {ops:Array Oper} {rest:List Oper} {Kw:Env→World→Prop} {σ:Env} {w w0:World} {h0 h:Heap} {own:Own} {ty:TypeId} {pos:String} {aft:Array Edge}
end
theorem Box.up {α:Type} {L:Lay α} {h h':Heap} {c:Bool} {x:α} {v:Value} (f:Box L h c x v) (hl:Le h h'):Box L h' c x v:=by
 cases c with
 | false=>exact f
 | true=>obtain ⟨b,vs,e,hc,hr⟩:=f;exact ⟨b,vs,e,hc.up hl,L.up hr hl⟩
theorem St.move {own:Own} (st:St h0 w0 h w own) {k: Nat} {x y:List (Nat×Obj)} (hk:own[k]?=some x) (hj:own[j]?=some y) (hn:k<j):St h0 w0 h w ((own.set k y).set j []):=by
 have d:=st.drop k;obtain ⟨k1,_⟩:=k_List_getElem__eq_some_iff.1 hk;obtain ⟨j1,j2⟩:=k_List_getElem__eq_some_iff.1 hj;have hp:=@List.set_set_perm _ (own.set k []) k j (by simpa using k1) (by simpa using j1);have e1:(own.set k [])[j]'(by simpa using j1)=y:=by rw[List.getElem_set_ne zW];exact j2
 have e2:(own.set k [])[k]'(by simpa using k1)=[]:=by rw[List.getElem_set_self]
 rw[e1,e2,List.set_set] at hp;exact d.perm hp.symm
theorem OSl.heap {T:TypeId} (hL:∀ h1 h2 vs x,L.R h1 vs x→L.R h2 vs x) (e:OSl L T h v xs o) (h':Heap):OSl L T h' v xs o:=by
 obtain ⟨cs,e1,e2⟩:=e;exact ⟨cs,⟨e1.1,fun i x hi=>hL _ _ _ _ (e1.2 i x hi)⟩,e2⟩
structure VoterR where
 id:Int
 wrong:Int
 hd:Value
section
variable {α:Type} {L:Lay α} {T:TypeId} {h0 h h' hB:Heap} {w0 w:World} {own:Own} {v:Value} {xs:List α} {o:List (Nat×Obj)}
theorem zCD {b:Nat} (l:Le h h') (e:h' b=none):h b=none:=by
 cases q:h b with
 | none=>rfl
 | some x=>rw[l _ _ q] at e;cases e
theorem St.defrost (st:St h0 w0 h' w own) (l0:Le h0 hB) (l:Le hB h') (hO:∀ p∈O,h' p.1=some p.2∧hB p.1=none) (hn:(O.map (·.1)).Nodup):St h0 w0 hB w (own++[O]):=by
 refine ⟨l0,fun b hb=>?_,fun b q hq=>st.sub b q (l b q hq),st.below,fun p hp=>?_,?_⟩
 ·have e:=st.new b hb;cases q:hB b with
  | some x=>rw[← q,q,← e,l _ _ q]
  | none=>exact (zCD l0 q).symm
 ·rw[zdf,zcq] at hp
  rcases hp with hp|hp
  ·obtain ⟨a,b,c⟩:=st.mine p hp;exact ⟨a,zCD l b,c⟩
  ·simp only[zfQ,List.flatten_nil,zbL] at hp;obtain ⟨a,b⟩:=hO p hp;refine ⟨st.sub _ _ a,b,?_⟩
   rcases zcO p.1 w0.heap.size with q|q
   ·rw[st.new _ q] at a;rw[l0 _ _ a] at b;cases b
   ·exact q
 rw[zdf,zaz,zcx];refine ⟨st.nodup,by simpa using hn,?_⟩;intro a ha b hb e;subst e;obtain ⟨p,hp,rfl⟩:=zbk.1 ha;obtain ⟨q,hq,e⟩:=zbk.1 hb;simp only[zfQ,List.flatten_nil,zbL] at hq;have h1:=(st.mine p hp).2.1;have h2:=(hO q hq).1;rw[e,h1] at h2;cases h2
theorem St.split {k:Nat} {a b:List (Nat×Obj)} (st:St h0 w0 h w own) (hk:own[k]?=some (a++b)):St h0 w0 h w (own.set k a++[b]):=by
 have hlt:=(k_List_getElem__eq_some_iff.1 hk);obtain ⟨h1,h2⟩:=hlt;have hp:own.flatten.Perm (own.set k a++[b]).flatten:=by
  have e:own=own.take k++(a++b)::own.drop (k+1):=by
   conv=>lhs;rw[← zbS k own,zcX h1,h2]
  rw[zce,zab h1]
  conv=>lhs;rw[e]
  simp only[zdf,zfQ,List.flatten_nil,zbL,zaB];exact zgt _ (zgt _ zfe)
 exact ⟨st.le,st.new,st.sub,st.below,fun p hq=>st.mine p (hp.mem_iff.2 hq),(hp.map _).nodup_iff.1 st.nodup⟩
end
section
variable {T:TypeId} {h h' hB:Heap} {rs:List VoterR} {xs:List Voter} {os:List (List (Nat×Obj))}
def NV (T:TypeId) (hB h:Heap) (rs:List VoterR) (xs:List Voter):Prop:=∃ os:List (List (Nat×Obj)),rs.length=xs.length∧os.length=xs.length∧
 (∀ (j:Nat) r x o,rs[j]?=some r→xs[j]?=some x→os[j]?=some o→r.id=x.id∧r.wrong=x.wrong∧OSl zeg T h r.hd x.votes o)∧(∀ p∈os.flatten,h p.1=some p.2∧hB p.1=none)∧(os.flatten.map (·.1)).Nodup
theorem NV.len (a:NV T hB h rs xs):rs.length=xs.length:=by obtain ⟨_,a1,_⟩:=a;exact a1
theorem zAZ {l:List α} {a b:α} (e:(l++[a])[j]?=some b):l[j]?=some b∨(j=l.length∧b=a):=by
 rcases Nat.lt_trichotomy j l.length with q|q|q
 ·rw[zcN q] at e;exact .inl e
 ·subst q;simp at e;exact .inr ⟨rfl,e.symm⟩
 rw[zbF (by simp;omega)] at e;cases e
def NW (T:TypeId) (h:Heap) (rs:List VoterR) (xs:List Voter) (i:Nat) (os:List (List (Nat×Obj))):Prop:=rs.length=xs.length∧os.length+i=xs.length∧
 ∀ (j:Nat) r x,rs[j]?=some r→xs[j]?=some x→r.id=x.id∧r.wrong=x.wrong∧r.hd.oneCell'=true∧(j<i→Sl zeg h r.hd x.votes)∧∀ o,i≤j→os[j-i]?=some o→OSl zeg T h r.hd x.votes o
theorem NW.open (a:NW T h rs xs i os) {x:Voter} (hx:xs[i]?=some x):∃ r o os',rs[i]?=some r∧os=o::os'∧r.id=x.id∧r.wrong=x.wrong∧OSl zeg T h r.hd x.votes o:=by
 obtain ⟨a1,a2,a3⟩:=a;have hi:=(k_List_getElem__eq_some_iff.1 hx).1;cases os with
 | nil=>simp at a2;omega
 | cons o os'=>
  obtain ⟨c1,c2,_,_,c5⟩:=a3 i _ x (zn zW) hx;exact ⟨_,o,os',zn zW,rfl,c1,c2,c5 o (zbR _) (by simp)⟩
end
section
variable {α:Type} {L:Lay α} {T:TypeId} {h0 h h':Heap} {w0 w:World} {own:Own} {v:Value} {xs:List α} {o:List (Nat×Obj)}
theorem OSl.asSl (e:OSl L T h v xs o) (l:Le h h') (hO:∀ p∈o,h' p.1=some p.2) (hb:xs.length≤281474976710656):Sl L h' v xs:=by
 obtain ⟨cs,e1,⟨⟨p,rfl⟩,rfl,rfl⟩|⟨g,cap,cur,rfl,rfl,hnc,_,hsz,htk⟩⟩:=e
 ·exact ⟨p,0,rfl,⟨zfg _,zfg _⟩,.inl rfl⟩
 have hg:=hO (g,.cells cur T) (by simp);refine ⟨_,cap,rfl,⟨hb,hnc⟩,.inr ⟨g,0,rfl,fun i x hi=>⟨_,⟨cur,T,_,hg,fun j u hj=>?_⟩,L.up (e1.2 i x hi) l⟩⟩⟩;have hjl:j<L.size:=by
  rw[zaR] at hj;split at hj
  ·assumption
  ·cases hj
 rw[zaR,zab hjl,zdL,← htk,zaR] at hj;split at hj
 ·rw[zdv];simpa using hj
 cases hj
theorem St.freezeAll {k:Nat}:∀ (O:List (Nat×Obj)) {own:Own} {h:Heap},St h0 w0 h w own→own[k]?=some O→∃ h',Le h h'∧(∀ p∈O,h' p.1=some p.2)∧St h0 w0 h' w (own.set k [])
 | [],own,h,st,hk=>⟨h,Le.refl h,by simp,st.drop k⟩
 | p::O,own,h,st,hk=>by
  have hlt:=(k_List_getElem__eq_some_iff.1 hk).1;have s1:=St.split (a:=[p]) (b:=O) st hk;obtain ⟨h1,l1,hp,s2⟩:=St.freeze (k:=k) (b:=p.1) (o:=p.2) s1 (by rw[zcN (by simpa using hlt)];simp[List.getElem?_set_self hlt]);have e2:(own.set k [p]++[O]).set k []=own.set k []++[O]:=by rw[List.set_append_left _ _ (by simpa using hlt),List.set_set]
  rw[e2] at s2;obtain ⟨h2,l2,hO,s3⟩:=St.freezeAll O (k:=own.length) s2 (by rw[zdg (by simp)];simp);refine ⟨h2,l1.trans l2,fun q hq=>?_,?_⟩
  ·rcases zaV.1 hq with rfl|hq
   ·exact l2 _ _ hp
   ·exact hO q hq
  ·have s4:=s3.take own.length;have e3:((own.set k []++[O]).set own.length []).take own.length=own.set k []:=by
    rw[zfd _ _ (by simp),List.take_append_of_le_length (by simp),zS (by simp)]
   rw[e3] at s4;exact s4
theorem St.permAt {k:Nat} {O' : List (Nat×Obj)} (st:St h0 w0 h w own) (hk:own[k]?=some O) (hp:O.Perm O'):St h0 w0 h w (own.set k O'):=by
 obtain ⟨h1,h2⟩:=k_List_getElem__eq_some_iff.1 hk;have hq:own.flatten.Perm (own.set k O').flatten:=by
  have e:own=own.take k++O::own.drop (k+1):=by
   conv=>lhs;rw[← zbS k own,zcX h1,h2]
  rw[zce,zab h1]
  conv=>lhs;rw[e]
  simp only[zdf,zfQ];exact zgt _ (hp.append_right _)
 exact ⟨st.le,st.new,st.sub,st.below,fun p hq'=>st.mine p (hq.mem_iff.2 hq'),(hq.map _).nodup_iff.1 st.nodup⟩
theorem St.pick {k:Nat} {a b: List (Nat×Obj)} (st:St h0 w0 h w own) (hk:own[k]?=some O) (hp:O.Perm (a++b)):St h0 w0 h w (own.set k b++[a]):=by
 have h1:=(k_List_getElem__eq_some_iff.1 hk).1;have s:=st.permAt hk (hp.trans zfe);have s2:=St.split (k:=k) s (List.getElem?_set_self h1);rw[List.set_set] at s2;exact s2
theorem St.unpick {k: Nat} {a b:List (Nat×Obj)} (st:St h0 w0 h w own) (hk:own[k]?=some b) (hj:own[j]?=some a) (hn:k<j):St h0 w0 h w ((own.set k (b++a)).set j []):=by
 obtain ⟨k1,k2⟩:=k_List_getElem__eq_some_iff.1 hk;obtain ⟨j1,j2⟩:=k_List_getElem__eq_some_iff.1 hj;have hp:own.flatten.Perm ((own.set k (b++a)).set j []).flatten:=by
  have e:own=own.take k++b::own.drop (k+1):=by
   conv=>lhs;rw[← zbS k own,zcX k1,k2]
  have e2:own.drop (k+1)=(own.drop (k+1)).take (j-(k+1))++a::own.drop (j+1):=by
   have hlt:j-(k+1)<(own.drop (k+1)).length:=by rw[zeQ];omega
   conv=>lhs;rw[← zbS (j-(k+1)) (own.drop (k+1)),zcX hlt]
   rw[List.getElem_drop,zht];congr 2
   ·rw[← j2];congr 1;omega
   ·congr 1;omega
  have e3:(own.set k (b++a)).set j []=own.take k++(b++a)::((own.drop (k+1)).take (j-(k+1))++[]::own.drop (j+1)):=by
   have e4:own.set k (b++a)=own.take k++(b++a)::own.drop (k+1):=by rw[zce,zab k1]
   rw[e4];rw[zfd _ _ (by rw[zt];omega)];rw[zt,zdX zW];have:j-k=(j-(k+1))+1:=by omega
   rw[this,List.set_cons_succ]
   conv=>lhs;rw[e2]
   rw[zfd _ _ (by rw[zt,zeQ];omega)];rw[zt,zeQ,zdX zW,Nat.sub_self,List.set_cons_zero]
  rw[e3]
  conv=>lhs;rw[e,e2]
  simp only[zdf,zfQ,zcM,zaB];refine zgt _ (zgt _ ?_);rw[← zaB,← zaB];exact zfe.append_right _
 exact ⟨st.le,st.new,st.sub,st.below,fun p hq=>st.mine p (hp.mem_iff.2 hq),(hp.map _).nodup_iff.1 st.nodup⟩
end
section
variable {κ α:Type} [DecidableEq κ] {L:Lay α} {T:TypeId} {h h':Heap} {m:List (κ×Value)} {ls:List (κ×List α)} {O:List (Nat×Obj)}
def NM (L:Lay α) (T:TypeId) (h:Heap) (m:List (κ×Value)) (ls:List (κ×List α)) (O:List (Nat×Obj)):Prop:=∃ es:List (κ×List (Nat×Obj)),(es.map (·.1)).Nodup∧
 (∀ k,(zcI m k=none∧zcI es k=none∧zcI ls k=none)∨∃ v o xs,zcI m k=some v∧zcI es k=some o∧zcI ls k=some xs∧OSl L T h v xs o)∧O.Perm (es.flatMap (·.2))
theorem NM.nil:NM L T h ([]:List (κ×Value)) ([]:List (κ×List α)) []:=⟨[],by simp,fun k=>.inl ⟨rfl,rfl,rfl⟩,by simp⟩
theorem NM.up (a:NM L T h m ls O) (l:Le h h'):NM L T h' m ls O:=by
 obtain ⟨es,a1,a2,a3⟩:=a;refine ⟨es,a1,fun k=>?_,a3⟩
 rcases a2 k with b|⟨v,o,xs,b1,b2,b3,b4⟩
 ·exact .inl b
 exact .inr ⟨v,o,xs,b1,b2,b3,b4.up l⟩
theorem zyM {l:List (κ×υ)} {k k':κ} (hn:zcI l k=none):zcI (l++[(k,u)]) k'=if k'=k then some u else zcI l k':=by
 have e:=zio l k k' u;rw[ziL,zam (by rw[hn];simp)] at e;exact e
theorem zAP {l:List (κ×υ)} {k:κ}:zcI (zni l k) k=none:=by rw[zuY,zab rfl]
theorem zBe {υ β:Type} {f:κ×υ→List β} {k:κ} {u:υ}:∀ {l:List (κ×υ)},(l.map (·.1)).Nodup→zcI l k=some u→(l.flatMap f).Perm (f (k,u)++(zni l k).flatMap f)
 | [],_,e=>by cases e
 | (k',u')::l,hn,e=>by
  obtain ⟨h1,h2⟩:=zgb.1 hn
  by_cases q:k'=k
  ·subst q;have e1:u'=u:=by simpa [zcI] using e
   subst e1;have e2:zni ((k',u')::l) k'=l:=by
    unfold zni;rw[zbo,zam (by simp)];exact zeN.2 fun p hp=>by simpa using fun z=>h1 (zbk.2 ⟨p,hp,z⟩)
   rw[e2,zhA]
  ·have e1:zcI l k=some u:=by rw[← e,zcI,zcI,List.find?_cons_of_neg (by simpa using q)]
   have e2:zni ((k',u')::l) k=(k',u')::zni l k:=by
    unfold zni;rw[zbo,zab (by simpa using q)]
   rw[e2,zhA,zhA];refine ((zBe h2 e1).append_left _).trans ?_;rw[← zaB,← zaB];exact zfe.append_right _
theorem zDY {l:List (κ×υ)} {k:κ} (hn:(l.map (·.1)).Nodup):((zni l k).map (·.1)).Nodup:=(zdC.map _).nodup hn
theorem zFp {l:List (κ×υ)} {k:κ} (hn:zcI l k=none):zni l k=l:=zeN.2 fun p hp=>by simpa using zuX hn p hp
theorem zwx {l:List (κ×υ)} {k:κ} (h1:(l.map (·.1)).Nodup) (h2:zcI l k=none):((l++[(k,u)]).map (·.1)).Nodup:=by
 rw[zaz,zcx];refine ⟨h1,by simp,?_⟩;intro a ha b hb e;subst e;simp only[zbQ,zfm,zgc] at hb;obtain ⟨p,hp,rfl⟩:=zbk.1 ha;exact zuX h2 p hp hb
theorem NM.open (a:NM L T h m ls O) (k:κ):∃ v o R,v=(zcI m k).getD (.slice none 0 0)∧OSl L T h v ((zcI ls k).getD []) o∧O.Perm (o++R)∧
  ∀ h' v' xs' o',Le h h'→OSl L T h' v' xs' o'→NM L T h' (ziL m k v') (ziL ls k xs') (R++o'):=by
 obtain ⟨es,a1,a2,a3⟩:=a;have back:∀ h' v' xs' o',Le h h'→OSl L T h' v' xs' o'→NM L T h' (ziL m k v') (ziL ls k xs') ((zni es k).flatMap (·.2)++o'):=by
  intro h' v' xs' o' l e;refine ⟨zni es k++[(k,o')],zwx (zDY a1) zAP,fun k'=>?_,by simp⟩;rw[zio,zio,zyM zAP,zuY]
  by_cases q:k'=k
  ·rw[zab q,zab q,zab q];exact .inr ⟨_,_,_,rfl,rfl,rfl,e⟩
  ·rw[zam q,zam q,zam q,zam q]
   rcases a2 k' with b|⟨v,o,xs,b1,b2,b3,b4⟩
   ·exact .inl b
   ·exact .inr ⟨v,o,xs,b1,b2,b3,b4.up l⟩
 rcases a2 k with ⟨b1,b2,b3⟩|⟨v,o,xs,b1,b2,b3,b4⟩
 ·refine ⟨_,[],_,rfl,?_,?_,back⟩
  ·rw[b1,b3];exact OSl.nil L T h
  ·rw[zFp b2];simpa using a3
 ·refine ⟨_,o,_,rfl,?_,?_,back⟩
  ·rw[b1,b3];exact b4
  ·exact a3.trans (zBe a1 b2)
theorem NM.freeze {own:Own} {k:Nat} (a:NM L T h m ls O) (st:St h0 w0 h w own) (hk:own[k]?=some O) (hb:∀ k xs,zcI ls k=some xs→xs.length≤281474976710656):
  ∃ h',Le h h'∧(∀ k v,zcI m k=some v→Sl L h' v ((zcI ls k).getD []))∧St h0 w0 h' w (own.set k []):=by
 obtain ⟨h1,l1,hO,s1⟩:=st.freezeAll O hk;obtain ⟨es,a1,a2,a3⟩:=a;refine ⟨h1,l1,fun k v hv=>?_,s1⟩
 rcases a2 k with ⟨b1,_⟩|⟨v',o,xs,b1,b2,b3,b4⟩
 ·rw[b1] at hv;cases hv
 ·rw[b1] at hv;cases hv;rw[b3];refine b4.asSl l1 (fun p hp=>hO p (a3.mem_iff.2 ?_)) (hb k xs b3);obtain ⟨q,hq,e⟩:∃ q∈es,q=(k,o):=by
   rw[zcI,zfB] at b2;obtain ⟨q,q1,q2⟩:=b2;have q3:=zjc q1;refine ⟨q,zfw q1,?_⟩;rw[← q2,← zej q3]
  subst e;exact zeh.2 ⟨_,hq,hp⟩
end
structure KeyG {κ:Type} [DecidableEq κ] (P:Program) (kt:TypeId) (ek:κ→Value):Prop extends KeyF P kt ek where
 stays:∀ k,Instr.sameBits 10000 (ek k) (ek k)=true
def zix (p:Place):Value:=.agg [.int .i64 p.chapter,.int .i64 p.line,.int .i64 p.word].toArray
theorem zAI (p:Place):Instr.sameBits 10000 (zix p) (zix p)=true:=by
 rw[show (10000:Nat)=9999+1 from rfl];simp[zix,Instr.sameBits]
theorem zyT {t:TypeId} {a b:Value} {d:Bool} (h:(binOp .eql t a b).run P w=.ok (.bool d) w) (hs:∀ u,(binOp .eql t a b).run P u=((Op.equal t a b).run P u).andThen fun x u'=>.ok (.bool x) u'):(Op.equal t a b).run P w=.ok d w:=by
 rw[hs w] at h;cases e:(Op.equal t a b).run P w with
 | ok x u=>
  rw[e] at h;simp only[Result.andThen_ok,Result.ok.injEq,Value.bool.injEq] at h;rw[h.1,h.2]
 | _=>rw[e] at h;simp[Result.andThen] at h
theorem zDB (hu:P.underlying kt=some (.struct fs)) (he:∀ (x y:Place) (w:World),(binOp .eql kt (zix x) (zix y)).run P w=.ok (.bool (decide (x=y))) w) (hc:∀ b k w,(Instr.checkKey b 10000 kt (zix k)).run P w=.ok () w):KeyG P kt zix where
 eq:=fun a b w=>zyT (he a b w) fun u=>run_eql_struct _ _ _ _
 now:=fun a b w=>⟨_,hu,rfl⟩
 check:=hc
 stays:=zAI
theorem zAJ {e_: TypeId} {f0 f1 f2:Field} (hu:P.underlying kt=some (.struct #[f0,f1,f2])) (he:P.underlying e_=some (.int .i64)) (ha:∀ w,(isAgg e_).run P w=.ok false w) (h0:(f0.name,f0.type,f0.offset)=(f0.name,e_,0)) (h1:(f1.name,f1.type,f1.offset)=(f1.name,e_,1)) (h2:(f2.name,f2.type,f2.offset)=(f2.name,e_,2)) (b:Bool) (k:Place) (w:World):(Instr.checkKey b 10000 kt (zix k)).run P w=.ok () w:=by
 simp only[Prod.mk.injEq,true_and] at h0 h1 h2
 rcases k with ⟨x,y,z⟩
 rw[show (10000:Nat)=9998+1+1 from rfl,Instr.checkKey];have p1:∀ (n:Nat) (xs:Array Value) (v:Value),xs[n]?=some v→(part e_ xs n).run P w=.ok v w:=by
  intro n xs v h;simp[part,ha,h]
 have q:∀ (x:Int),(Instr.checkKey b (9998+1) e_ (.int .i64 x)).run P w=.ok () w:=by
  intro x;rw[Instr.checkKey];simp[run_underlying he]
 have e0:=p1 0 [.int .i64 x,.int .i64 y,.int .i64 z].toArray (.int .i64 x) rfl;have e1:=p1 1 [.int .i64 x,.int .i64 y,.int .i64 z].toArray (.int .i64 y) rfl;have e2:=p1 2 [.int .i64 x,.int .i64 y,.int .i64 z].toArray (.int .i64 z) rfl;simp only[Sem.run_bind,run_underlying hu,Result.andThen_ok,zix];rw[← Array.forIn_toList];simp only[List.forIn_cons,List.forIn_nil,h0,h1,h2]
 by_cases n0 : f0.name ≠ "_" <;> by_cases n1 : f1.name ≠ "_" <;> by_cases n2 : f2.name ≠ "_" <;> simp_all
section
variable {κ υ:Type} {ek:κ→Value} {eu:υ→Value}
variable {P:Program} {n:Nat} {ops:Array Oper} {rest:List Oper} {Kw:Env→World→Prop} {σ:Env} {w w0:World} {h0 h:Heap} {own:Own} {ty:TypeId} {pos:String} {aft:Array Edge} {d:Nat}
def OME [DecidableEq κ] (ek:κ→Value) (eu:υ→Value) (m:List (κ×υ)) (o:List (Nat×Obj)) (v:Value) (k:κ) (c:Nat):Prop:=
 ∃ (b:Nat) (es:Array MapEntry) (clock j:Nat) (e:MapEntry),o=[(b,.map es clock)]∧v=.map (some b)∧Ent ek eu es.toList m∧(∀ e∈es.toList,e.born<clock)∧(es.toList.map (·.born)).Nodup∧es.toList[j]?=some e∧e.born=c∧(m[j]?).map Prod.fst=some k
theorem Ent.getP:∀ {es:List MapEntry} {m:List (κ×υ)} {j:Nat} {p:κ×υ},Ent ek eu es m→m[j]?=some p→∃ e,es[j]?=some e∧e.key=ek p.1∧e.val=eu p.2
 | e::es,p::m,0,q,h,hp=>by simp at hp;subst hp;exact ⟨e,rfl,h.1,h.2.1⟩
 | e::es,p::m,j+1,q,h,hp=>by
  obtain ⟨e',a,b⟩:=Ent.getP h.2.2 (by simpa using hp);exact ⟨e',by simpa using a,b⟩
 | [],[],_,_,_,hp=>by simp at hp
 | [],_::_,_,_,h,_=>h.elim
 | _::_,[],_,_,h,_=>h.elim
theorem zzd [DecidableEq κ] {kt:TypeId} (hK:KeyF P kt ek) {k:κ} (w:World) {v:υ}:∀ {es:List MapEntry} {m:List (κ×υ)} (i:Nat),Ent ek eu es m→zcI m k=some v→∃ j,(Instr.findAsking kt (ek k) es i).run P w=.ok (some (i+j,eu v)) w∧m[j]?=some (k,v)
 | [],[],_,_,hl=>by cases hl
 | e::es,p::m,i,h,hl=>by
  by_cases hne:p.1=k
  ·simp only[zcI,zdu,hne,decide_true,zck,zeS] at hl;have e1:=hK.eq k p.1 w;rw[zdi hne.symm] at e1;exact ⟨0,by simp[Instr.findAsking,h.1,e1,h.2.1,hl],by simp[← hne,← hl]⟩
  ·have hl':zcI m k=some v:=by simpa only[zcI,zdu,hne,decide_false] using hl
   obtain ⟨j,hj,hm⟩:=zzd hK w (i+1) h.2.2 hl';have e1:=hK.eq k p.1 w;rw[zcU (fun e=>hne e.symm)] at e1;refine ⟨j+1,?_,by simpa using hm⟩;rw[show i+(j+1)=i+1+j by omega];simp[Instr.findAsking,h.1,e1,hj]
 | [],_::_,_,h,_=>h.elim
 | _::_,[],_,h,_=>h.elim
theorem zFn [DecidableEq κ] (hK:KeyF P kt ek) {k:κ} (w:World) {v:υ} {m:List (κ×υ)} (h:Ent ek eu es m) (hl:zcI m k=some v):∃ j,(Instr.findKey kt (ek k) es).run P w=.ok (some (j,eu v)) w∧m[j]?=some (k,v):=by
 obtain ⟨kind,hu,hn⟩:=hK.now k k w;cases es with
 | nil=>
  cases m with
  | nil=>cases hl
  | cons _ _=>exact h.elim
 | cons e es=>
  cases m with
  | nil=>exact h.elim
  | cons p m=>
   obtain ⟨kind',hu',hn'⟩:=hK.now k p.1 w;obtain rfl:=zeO (hu.symm.trans hu');have e1:Instr.findNow kind (ek k) (e::es) 0=none:=by simp[Instr.findNow,h.1,hn']
   obtain ⟨j,hj,hm⟩:=zzd hK w 0 h hl;rw[zdv] at hj;exact ⟨j,by simp only[Instr.findKey,Sem.run_bind,run_underlying hu,Result.andThen_ok,e1,hj],hm⟩
theorem zGS [DecidableEq κ] (hK:KeyF P kt ek) {k:κ} (w:World) {m:List (κ×υ)} (h:Ent ek eu es m) (hl:zcI m k=none):(Instr.findKey kt (ek k) es).run P w=.ok none w:=by
 obtain ⟨j,hf⟩:=zCL hK (k:=k) w h;rw[hl] at hf;exact hf
def zoP [DecidableEq κ] (m:List (κ×υ)) (k:κ) (z:υ):List (κ×υ):=if (zcI m k).isSome then m else m++[(k,z)]
theorem zmW [DecidableEq κ] {m:List (κ×υ)} {k:κ} {z:υ} (k':κ):zcI (zoP m k z) k'=if k'=k then some ((zcI m k).getD z) else zcI m k':=by
 unfold zoP;cases e:zcI m k with
 | none=>rw[zam (by simp),zyM e];rfl
 | some v=>
  rw[zab (by simp)];split
  ·rename_i q;rw[q,e];rfl
  ·rfl
theorem zok [DecidableEq κ] {t et: TypeId} {x y:Operand} {m:List (κ×υ)} {zv: Value} {k:κ} {zu:υ} (st:St h0 w0 h w own) (hM:OM ek eu m o v) (hi:own[i]?=some o) (hn:(m.map (·.1)).Nodup) (hK:KeyG P kt ek) (ht:P.underlying t=some (.map kt et)) (hz:∀ w,(zeroValue et).run P w=.ok zv w) (hzu:zv=eu zu) (hx:ev σ x=v) (hy:ev σ y=ek k) (hd:Nat.blt d n=true) (hk:∀ o' w' c own',own'=own.set i o'→OME ek eu (zoP m k zu) o' v k c→((zoP m k zu).map (·.1)).Nodup→St h0 w0 h w' own'→M P n ops rest Kw (upd σ d (.tuple #[eu ((zcI m k).getD zu),.int .i64 (c:Int)])) w'):
  M P n ops (⟨some d,.mapEntry t x y,ty,pos,aft,none⟩::rest) Kw σ w:=by
 obtain ⟨b,es,clock,rfl,rfl,hE,hB,hD⟩:=hM;have hb:=st.get hi;have hg:(getObj b).run P w=.ok (.map es clock) w:=by simp[getObj,Sem.run,hb]
 have hset:∀ es' c',(setObj b (.map es' c')).run P w=.ok () { w with heap:=w.heap.setIfInBounds b (.map es' c') }:=by
  intro es' c';simp[setObj,Sem.run,hb]
 have hc:=hK.check false k w;subst hzu;cases hl:zcI m k with
 | none=>
  have hf:=zGS hK.toKeyF (k:=k) w hE hl;have hp:zoP m k zu=m++[(k,zu)]:=by simp[zoP,hl]
  have hlen:=hE.len;rw[hl] at hk;refine zax rfl hd (w':={ w with heap:=w.heap.setIfInBounds b (.map (es.push { key:=ek k,val:=eu zu,born:=clock }) (clock+1)) }) ?_ (hk _ _ clock _ rfl ⟨b,es.push { key:=ek k,val:=eu zu,born:=clock },clock+1,m.length,{ key:=ek k,val:=eu zu,born:=clock },rfl,rfl,?_,?_,?_,?_,rfl,?_⟩ ?_ (st.set _ hi))
  ·simp only[Run,execOp,hx,hy,Instr.mapEntry,Sem.run_bind,run_underlying ht,Result.andThen_ok,hg,hc,hf,hz,hset,Sem.run_pure];rfl
  ·rw[hp,zfR];exact hE.snoc rfl rfl
  ·intro e he;rw[zfR,zcq] at he
   rcases he with he|he
   ·exact Nat.lt_succ_of_lt (hB e he)
   ·simp at he;subst he;exact Nat.lt_succ_self _
  ·rw[zfR,zaz,zcx];refine ⟨hD,by simp,fun a ha c hc'=>?_⟩;simp at hc';subst hc';obtain ⟨e,he,rfl⟩:=zbk.1 ha;exact Nat.ne_of_lt (hB e he)
  ·rw[zfR,← hlen,zdg (zbR _)];simp
  ·rw[hp];simp
  ·rw[hp];exact zwx hn hl
 | some u=>
  obtain ⟨j,hf,hm⟩:=zFn hK.toKeyF (k:=k) w hE hl;obtain ⟨e,he,he1,he2⟩:=hE.getP hm;have hp:zoP m k zu=m:=by simp[zoP,hl]
  have hje:es[j]?=some e:=by simpa using he
  have hsame:es.modify j (fun e'=>{ e' with key:=ek k })=es:=by
   apply Array.ext';rw[zet];refine zeF fun q=>?_;rw[zfx]
   by_cases hq:j=q
   ·subst hq;rw[he];simp[he1];exact he1.symm▸rfl
   ·simp[hq]
  rw[hl] at hk;refine zax rfl hd (w':={ w with heap:=w.heap.setIfInBounds b (.map es clock) }) ?_ (hk _ _ e.born _ rfl ⟨b,es,clock,j,e,rfl,rfl,by rw[hp];exact hE,hB,hD,he,rfl,by rw[hp,hm];rfl⟩ (by rw[hp];exact hn) (st.set _ hi));have hst:(Instr.keyThatStays (ek k) (ek k)).run P w=.ok (ek k) w:=by simp[Instr.keyThatStays,hK.stays k]
  simp only[Run,execOp,hx,hy,Instr.mapEntry,Sem.run_bind,run_underlying ht,Result.andThen_ok,hg,hc,hf,hje,zck,zdK,he1,hst,hsame,hset,Sem.run_pure];rfl
theorem zjn [DecidableEq κ] {t:TypeId} {x y z:Operand} {m:List (κ×υ)} {k:κ} {u:υ} {c: Nat} (st:St h0 w0 h w own) (hM:OME ek eu m o v k c) (hi:own[i]?=some o) (hn:(m.map (·.1)).Nodup) (hx:ev σ x=v) (hy:ev σ y=.int .i64 (c:Int)) (hz:ev σ z=eu u) (hk:∀ o' w' own',own'=own.set i o'→OM ek eu (ziL m k u) o' v→((ziL m k u).map (·.1)).Nodup→St h0 w0 h w' own'→M P n ops rest Kw σ w'):
  M P n ops (⟨none,.entryStore t x y z,ty,pos,aft,none⟩::rest) Kw σ w:=by
 obtain ⟨b,es,clock,j,e,rfl,rfl,hE,hB,hD,he,rfl,hm⟩:=hM;have hb:=st.get hi;have hg:(getObj b).run P w=.ok (.map es clock) w:=by simp[getObj,Sem.run,hb]
 have hset:∀ es' c',(setObj b (.map es' c')).run P w=.ok () { w with heap:=w.heap.setIfInBounds b (.map es' c') }:=by
  intro es' c';simp[setObj,Sem.run,hb]
 obtain ⟨⟨k',u0⟩,hmj,e9⟩:=zfB.1 hm;obtain rfl:k'=k:=e9;obtain ⟨e',he',hk1,_⟩:=hE.getP hmj;obtain rfl:e'=e:=zeO (he'.symm.trans he);have hidx:es.findIdx? (fun x=>((x.born:Nat):Int) == ((e'.born:Nat):Int))=some j:=by
  rw[WideElems.findIdx_arr];exact WideElems.findIdx_born hD he
 have hl:(zcI m k').isSome=true:=by
  rw[zcI,Option.isSome_map,List.find?_isSome];exact ⟨_,zD hmj,by simp⟩
 have hp:ziL m k' u=m.map fun p=>if p.1=k' then (k',u) else p:=by rw[ziL,zab hl]
 have hmod:es.modify j (fun x=>{ x with val:=eu u })=es.modify j (fun x=>{ x with key:=ek k',val:=eu u }):=by
  apply Array.ext';rw[zet,zet];refine zeF fun q=>?_;rw[zfx,zfx]
  by_cases hq:j=q
  ·subst hq;rw[he];simp[hk1]
  ·simp[hq]
 refine zov rfl rfl (w':={ w with heap:=w.heap.setIfInBounds b (.map (es.modify j fun x=>{ x with key:=ek k',val:=eu u }) clock) }) ?_ (hk _ _ _ rfl ⟨b,es.modify j fun x=>{ x with key:=ek k',val:=eu u },clock,rfl,rfl,?_,?_,?_⟩ ?_ (st.set _ hi))
 ·simp only[execOp,hx,hy,hz,Instr.entryStore,Sem.run_bind,Result.andThen_ok,hg,asInt,asIntOf,Sem.run_pure,hidx,hset,hmod]
 ·rw[hp,zet];exact hE.modify hn hmj
 ·intro x hx';rw[zet] at hx';obtain ⟨q,hq⟩:=k_List_mem_iff_getElem_.1 hx';rw[zfx] at hq;cases e3:es.toList[q]? with
  | none=>rw[e3] at hq;simp at hq
  | some y=>
   rw[e3] at hq;have:=hB y (zD e3)
   by_cases q9:j=q
   ·simp[q9] at hq;rw[← hq];exact this
   ·simp[q9] at hq;rw[← hq];exact this
 ·have:(es.modify j fun x=>{ x with key:=ek k',val:=eu u }).toList.map (·.born)=es.toList.map (·.born):=by
   rw[zet];refine zeF fun q=>?_;rw[zcy,zcy,zfx];cases e3:es.toList[q]? with
   | none=>rfl
   | some y=>by_cases q9:j=q <;> simp[q9]
  rw[this];exact hD
 ·have:(ziL m k' u).map (·.1)=m.map (·.1):=by
   rw[hp,zhf];refine zgo fun p _=>?_
   by_cases q:p.1=k'
   ·simp[q]
   ·simp[q]
  rw[this];exact hn
end
def zzm (l:List Oper) (done:List Nat):List Nat:=(List.range l.length).filter fun i=>!inL done i && (match l[i]? with|some o=>(bnd o).all (inL done)|none=>false)
def zDz (i:Nat):List Nat→List Nat
 | []=>[i]
 | j::l=>bif Nat.ble i j then i::j::l else j::zDz i l
theorem zAM {i x:Nat}:∀ {l:List Nat},x∈zDz i l↔x=i∨x∈l
 | []=>by simp[zDz]
 | j::l=>by
  unfold zDz;cases h:Nat.ble i j
  ·simp only[cond_false,zaV,zAM];constructor
   ·rintro (h|h|h)
    ·exact .inr (.inl h)
    ·exact .inl h
    ·exact .inr (.inr h)
   ·rintro (h|h|h)
    ·exact .inr (.inl h)
    ·exact .inl h
    ·exact .inr (.inr h)
  ·simp
def zjK (P:Program) (n:Nat) (l:List Oper) (Kw:Nat→Env→World→Prop) (σ:Env) (w:World):List Nat→Prop
 | []=>True
 | i::is=>(match l[i]? with|some o=>M P n l.toArray [o] (Kw i) σ w|none=>True)∧zjK P n l Kw σ w is
theorem zjK.get {P:Program} {n:Nat} {l:List Oper} {Kw:Nat→Env→World→Prop} {σ:Env} {w:World}:∀ {is:List Nat},zjK P n l Kw σ w is→∀ i∈is,∀ o,l[i]?=some o→M P n l.toArray [o] (Kw i) σ w
 | j::is,h,i,hi,o,ho=>by
  rcases zaV.1 hi with rfl|hi
  ·have:=h.1;rw[ho] at this;exact this
  ·exact zjK.get h.2 i hi o ho
def zjo (P:Program) (n:Nat) (l:List Oper) (Q:Env→World→Prop):Nat→List Nat→Env→World→Prop
 | 0,_,σ,w=>Q σ w
 | f+1,done,σ,w=>zjK P n l (fun i σ' w'=>zjo P n l Q f (zDz i done) σ' w') σ w (zzm l done)
theorem zjo.step {l:List Oper} {done: List Nat} (e:zzm l done=is) (h:zjK P n l (fun i σ' w'=>zjo P n l Q f (zDz i done) σ' w') σ w is):zjo P n l Q (f+1) done σ w:=by
 subst e;exact h
theorem zjK.cons {l:List Oper} {Kw:Nat→Env→World→Prop} {o:Oper} (ho:l[i]?=some o) (h1:M P n l.toArray [o] (Kw i) σ w) (h2:zjK P n l Kw σ w is):zjK P n l Kw σ w (i::is):=by
 refine ⟨?_,h2⟩;rw[ho];exact h1
theorem zjo.nil {l:List Oper} {done:List Nat} (h:Q σ w):zjo P n l Q 0 done σ w:=h
theorem zjo.pre {l:List Oper} {done:List Nat} (mods:List Nat) (vals:List (Nat×Value)) {g:Nat} {done2:List Nat} (suf:∀ τ,zjo P n l Q g done2 (known vals (mix mods τ σ)) w) (h:(∀ σ',Has σ' vals→zfs mods σ' σ→zjo P n l Q g done2 σ' w)→zjo P n l Q f done σ w):zjo P n l Q f done σ w:=
 h fun σ' a b=>by obtain ⟨τ,hτ⟩:=zqm a b;rw[hτ];exact suf τ
theorem OME.om [DecidableEq κ] {ek:κ→Value} {eu:υ→Value} {k:κ} {c:Nat} (h:OME ek eu m o v k c):OM ek eu m o v:=by
 obtain ⟨b,es,clock,j,e,rfl,rfl,hE,hB,hD,he,rfl,hm⟩:=h;exact ⟨b,es,clock,rfl,rfl,hE,hB,hD⟩
theorem zFT {l:List Oper} {listed:Array Bool} (hsz:listed.size=l.length) (hil:i<l.length) (hn:listed[i]?≠some true):unl l.length (listed.setIfInBounds i true)+1=unl l.length listed:=by
 have hlt:i<listed.size:=by omega
 have hf:listed[i]=false:=by
  cases e:listed[i] with
  | false=>rfl
  | true=>exact absurd (by rw[zcr hlt,e]) hn
 have hnl:listed.getD i true=false:=by simp[zbb,hlt,hf]
 have hpi:(!listed.getD i true)=true:=by rw[hnl];rfl
 have hqi:(!(listed.setIfInBounds i true).getD i true)=false:=by simp[zbb,hlt]
 unfold unl;exact zxj List.nodup_range (zbZ.2 hil) hpi hqi fun j hj=>by
  simp only[zbb,zbi (fun z=>hj z.symm)]
theorem zjo.any {P:Program} {n:Nat} {l:List Oper} {Q:Env→World→Prop} (hlow:zrG 0 l=true) (hdst:l.all (fun o=>zjw n o.dst)=true):
  ∀ (f:Nat) (done:List Nat) (listed:Array Bool) (a:Act) (σ:Env) (w:World),listed.size=l.length→unl l.length listed=f→(∀ i,i<l.length→(listed[i]?=some true↔inL done i=true))→Fits n a σ→zjo P n l Q f done σ w→
   wpAnyIn Fence.wide 0 P .any l.toArray (fun e a' w'=>e=.normal∧∃ σ',Fits n a' σ'∧Q σ' w') f listed a w:=by
 have none_left:∀ (listed:Array Bool),listed.size=l.length→Region.ready .any l.toArray listed=[]→unl l.length listed=0:=by
  intro listed hsz hr;have:=zth hlow hsz hr;unfold unl;rw[List.countP_eq_zero];intro i hi;have:=this i (by simpa using hi);simp[this]
 intro f
 induction f with
 | zero=>
  intro done listed a σ w hsz hu hl hf h;have hnil:Region.ready .any l.toArray listed=[]:=by
   unfold Region.ready;rw[zgP];intro i hi;unfold unl at hu;rw[List.countP_eq_zero] at hu;have:=hu i (by simpa using hi);simp only[zfp,Bool.not_eq_false] at this;simp[this]
  exact ⟨hnil,rfl,σ,hf,h⟩
 | succ f ih=>
  intro done listed a σ w hsz hu hl hf h;refine ⟨fun hnil=>(by have:=none_left listed hsz hnil;omega),fun i hi=>?_⟩;obtain ⟨o,hio,hnl,hready⟩:=znS hi;have hil:=(k_List_getElem__eq_some_iff.1 hio).1;have hlt:∀ j∈bnd o,j<l.length:=fun j hj=>by have:=(zoU hlow hio).1 j hj;omega
  have hmem:i∈zzm l done:=by
   unfold zzm;rw[zcl];refine ⟨zbZ.2 hil,?_⟩;rw[hio];simp only[zK,zfp,zal];refine ⟨?_,fun j hj=>(hl j (hlt j hj)).1 (hready j hj)⟩;cases e:inL done i with
   | false=>rfl
   | true=>exact absurd ((hl i hil).2 e) hnl
  have hrun:=zjK.get h i hmem o hio;have hgo:zjw n o.dst=true:=zal.1 hdst o (zD hio);unfold wpOpIn;rw[zdI,hio];simp only[];refine zuH hrun hf ?_;intro a' σ' w' hf' hK;refine ih _ _ _ σ' w' (by simpa using hsz) ?_ ?_ hf' hK
  ·have:=zFT hsz hil hnl;omega
  ·intro j hj;rw[zkm,zAM,← zkm]
   by_cases e:j=i
   ·subst e;simp[hsz,hj]
   ·rw[zbi (fun z=>e z.symm),hl j hj];simp[e]
theorem zBq {l:List Oper} {Q:Exit→VS→World→Prop} {r:Option Nat} {ds:List Deferred} {id:Nat} (hm:P.follows .mixedOrders=true) (hE:(znv l,zrG 0 l,l.all (fun o=>zjw n o.dst))=(true,true,true)) (h:zjo P n l (fun σ' w'=>Q .normal (ds,σ') w') l.length [] σ { w with drawn:=w.drawn+1 }):V { Fence.wide with round:=r } P n (.region id l.toArray true) Q (ds,σ) w:=by
 have hnd:znv l=true:=zcE Prod.fst hE;have h2:zrG 0 l=true:=zcE (fun x=>x.2.1) hE;have h3:l.all (fun o=>zjw n o.dst)=true:=zcE (fun x=>x.2.2) hE;intro k a ha;refine wpIn_region_any hm ?_;refine zuC (ds:=ds) ?_ ?_ (fun i o e=>zpK hnd i o (by simpa using e)) _ _ { a with defers:=[] } a _ rfl (by simpa using ha.defers) (zjo.any h2 h3 _ [] _ _ σ _ (by simp) ?_ ?_ ha.bare h)
 ·rintro e a1 a2 w h1 h2 ⟨rfl,σ',hf,q⟩;exact ⟨(ds,σ'),⟨by rw[h1];exact hf.size,by rw[h2,hf.defers];rfl,by rw[h1];exact hf.at_⟩,q⟩
 ·rintro e a w ⟨rfl,_⟩;rfl
 ·unfold unl;rw[List.countP_eq_length.2];simp;intro i hi;simp at hi;simp[hi]
 ·intro i hi;simp[hi,inL]
section
variable {P:Program} {σ:Env} {w:World} {ty:TypeId} {pos:String} {aft:Array Edge} {g:Option (Nat×Bool)} {dst:Option Tmp}
def zIj (s i:Int):Int:=s / 2 ^ i.toNat % 2
end
structure Reading where
 at_:Place
 kind:Int
 word:Str
 deriving DecidableEq
def zgz:Lay Reading:={ size:=5,R:=fun _ vs x=>vs=[.int .i64 x.at_.chapter,.int .i64 x.at_.line,.int .i64 x.at_.word,.int .u8 x.kind,zae x.word]∧(0≤x.kind∧x.kind≤255)∧x.word.length≤big,up:=fun h _=>h,len:=(by rintro _ _ _ ⟨rfl,_,_⟩;rfl),one:=(by rintro _ _ _ ⟨rfl,f0,f1⟩ u hu;simp only[zaV,zbD,zec] at hu;rcases hu with rfl|rfl|rfl|rfl|rfl <;> first|rfl|exact Sl.one (by assumption)) }
structure Copy where
 id:Int
 readings:(List Reading)
 deriving DecidableEq
def zhl:Lay Copy:={ size:=2,R:=fun h vs x=>∃ v0,vs=[.int .i64 x.id,v0]∧Sl zgz h v0 x.readings,up:=(by rintro _ _ _ _ ⟨v0,rfl,f0⟩ hl;exact ⟨v0,rfl,f0.up hl⟩),len:=(by rintro _ _ _ ⟨_,rfl,_⟩;rfl),one:=(by rintro _ _ _ ⟨v0,rfl,f0⟩ u hu;simp only[zaV,zbD,zec] at hu;rcases hu with rfl|rfl <;> first|rfl|exact Sl.one (by assumption)) }
section
variable {P:Program} {n:Nat} {t:TypeId}
def Chk (P:Program) (n:Nat) (t:TypeId) (v:Value):Prop:=∀ b w,(Instr.checkKey b n t v).run P w=.ok () w
theorem ziQ (ha:∀ w,(isAgg t).run P w=.ok false w) (h:cs[off]?=some v) (w:World):(part t cs off).run P w=.ok v w:=by simp[part,ha,h]
theorem zuc {m: Nat} (ha:∀ w,(isAgg t).run P w=.ok true w) (hz:∀ w,(sizeOf t).run P w=.ok m w) (w:World):(part t cs off).run P w=.ok (.agg (cs.extract off (off+m))) w:=by simp[part,ha,hz]
theorem Chk.int {ik k:IntKind} {x:Int} (hu:P.underlying t=some (.int ik)):Chk P (n+1) t (.int k x):=by
 intro b w;rw[Instr.checkKey];simp[run_underlying hu]
theorem Chk.str (hu:P.underlying t=some .string):Chk P (n+1) t (zae s):=by
 intro b w;rw[Instr.checkKey];simp[run_underlying hu,zae]
theorem Chk.struct (hu:P.underlying t=some (.struct fs)) (h:∀ f∈fs.toList,∃ v,(∀ w,(part f.type cs f.offset).run P w=.ok v w)∧Chk P n f.type v):Chk P (n+1) t (.agg cs):=by
 intro b w;rw[Instr.checkKey];simp only[Sem.run_bind,run_underlying hu,Result.andThen_ok];rw[← Array.forIn_toList];generalize fs.toList=l at h
 induction l with
 | nil=>simp
 | cons f l ih=>
  obtain ⟨v,h1,h2⟩:=h f (by simp);have ih:=ih (fun g hg=>h g (by simp[hg]));have h2:=h2 b w;simp only[List.forIn_cons]
  by_cases n0 : f.name ≠ "_" <;> simp_all
theorem zHe [DecidableEq κ] {ek:κ→Array Value} (hu:P.underlying kt=some (.struct fs)) (he:∀ (x y:κ) (w:World),(binOp .eql kt (.agg (ek x)) (.agg (ek y))).run P w=.ok (.bool (decide (x=y))) w) (hc:∀ k,Chk P 10000 kt (.agg (ek k))) (hs:∀ k,Instr.sameBits 10000 (.agg (ek k)) (.agg (ek k))=true):KeyG P kt (fun k=>.agg (ek k)) where
 eq:=fun a b w=>zyT (he a b w) fun u=>run_eql_struct _ _ _ _
 now:=fun a b w=>⟨_,hu,rfl⟩
 check:=fun b k w=>hc k b w
 stays:=hs
end
structure Pair where
 a:Int
 b:Int
 deriving DecidableEq
structure Trip where
 a:Int
 b:Int
 c:Int
 deriving DecidableEq
def zvI (s:Pair):Value:=.agg [.int .i64 s.a,.int .i64 s.b].toArray
def zwq (s:Trip):Value:=.agg [.int .i64 s.a,.int .i64 s.b,.int .i64 s.c].toArray
section
variable {P:Program} {kt e_:TypeId} (he:P.underlying e_=some (.int .i64)) (ha:∀ w,(isAgg e_).run P w=.ok false w) (hz:∀ w,(sizeOf e_).run P w=.ok 1 w)
include he ha hz
theorem zBW (hu:P.underlying kt=some (.array 2 e_)) (s t:Pair) (w:World):(Op.equal kt (zvI s) (zvI t)).run P w=.ok (decide (s=t)) w:=by
 rcases s with ⟨a,b⟩;rcases t with ⟨a',b'⟩
 show (Op.equalIn (9998+1+1) kt _ _).run P w=_;rw[Op.equalIn];simp only[Sem.run_bind,run_underlying hu,Result.andThen_ok,zvI,hz];have q:=zCx he 9998;simp only[Std.Legacy.Range.forIn_eq_forIn_range',Std.Legacy.Range.size,Nat.sub_zero,zfC,Nat.div_one,List.range'_succ,List.range'_zero,List.forIn_cons,List.forIn_nil,zif,zdv,Nat.reduceAdd];have e0:∀ x0 x1:Value,(part e_ #[x0,x1] 0).run P w=.ok x0 w:=fun _ _=>ziQ ha rfl w;have e1:∀ x0 x1:Value,(part e_ #[x0,x1] 1).run P w=.ok x1 w:=fun _ _=>ziQ ha rfl w
 by_cases h1:a=a'
 rotate_left
 ·simp[e0,q,h1]
 by_cases h2:b=b'
 rotate_left
 ·simp[e0,e1,q,h1,h2]
 simp[e0,e1,q,h1,h2]
theorem zwp (hu:P.underlying kt=some (.array 3 e_)) (s t:Trip) (w:World):(Op.equal kt (zwq s) (zwq t)).run P w=.ok (decide (s=t)) w:=by
 rcases s with ⟨a,b,c⟩;rcases t with ⟨a',b',c'⟩
 show (Op.equalIn (9998+1+1) kt _ _).run P w=_;rw[Op.equalIn];simp only[Sem.run_bind,run_underlying hu,Result.andThen_ok,zwq,hz];have q:=zCx he 9998;simp only[Std.Legacy.Range.forIn_eq_forIn_range',Std.Legacy.Range.size,Nat.sub_zero,zfC,Nat.div_one,List.range'_succ,List.range'_zero,List.forIn_cons,List.forIn_nil,zif,zdv,Nat.reduceAdd];have e0:∀ x0 x1 x2:Value,(part e_ #[x0,x1,x2] 0).run P w=.ok x0 w:=fun _ _ _=>ziQ ha rfl w;have e1:∀ x0 x1 x2:Value,(part e_ #[x0,x1,x2] 1).run P w=.ok x1 w:=fun _ _ _=>ziQ ha rfl w;have e2:∀ x0 x1 x2:Value,(part e_ #[x0,x1,x2] 2).run P w=.ok x2 w:=fun _ _ _=>ziQ ha rfl w
 by_cases h1:a=a'
 rotate_left
 ·simp[e0,q,h1]
 by_cases h2:b=b'
 rotate_left
 ·simp[e0,e1,q,h1,h2]
 by_cases h3:c=c'
 rotate_left
 ·simp[e0,e1,e2,q,h1,h2,h3]
 simp[e0,e1,e2,q,h1,h2,h3]
theorem zEO (hu:P.underlying kt=some (.array 2 e_)):KeyG P kt zvI where
 eq:=zBW he ha hz hu
 now:=fun a b w=>⟨_,hu,rfl⟩
 check:=fun em s w=>by
  rw[show (10000:Nat)=9998+1+1 from rfl,Instr.checkKey];have q:∀ (x:Int),(Instr.checkKey em (9998+1) e_ (.int .i64 x)).run P w=.ok () w:=fun x=>Chk.int he em w;simp only[Sem.run_bind,run_underlying hu,Result.andThen_ok,zvI,hz];simp only[Std.Legacy.Range.forIn_eq_forIn_range',Std.Legacy.Range.size,Nat.sub_zero,zfC,Nat.div_one,List.range'_succ,List.range'_zero,List.forIn_cons,List.forIn_nil,zif,zdv,Nat.reduceAdd];have e0:∀ x0 x1:Value,(part e_ #[x0,x1] 0).run P w=.ok x0 w:=fun _ _=>ziQ ha rfl w;have e1:∀ x0 x1:Value,(part e_ #[x0,x1] 1).run P w=.ok x1 w:=fun _ _=>ziQ ha rfl w;simp[hz,e0,e1,q]
 stays:=fun k=>by
  rw[show (10000:Nat)=9999+1 from rfl];simp[zvI,Instr.sameBits]
end
def zze:Lay Pair:={ size:=2,R:=fun _ vs x=>vs=[.int .i64 x.a,.int .i64 x.b],up:=fun h _=>h,len:=(by rintro _ _ _ rfl;rfl),one:=(by rintro _ _ _ rfl u hu;simp only[zaV,zbD,zec] at hu;rcases hu with rfl|rfl <;> rfl) }
def zlr:Lay Trip:={ size:=3,R:=fun _ vs x=>vs=[.int .i64 x.a,.int .i64 x.b,.int .i64 x.c],up:=fun h _=>h,len:=(by rintro _ _ _ rfl;rfl),one:=(by rintro _ _ _ rfl u hu;simp only[zaV,zbD,zec] at hu;rcases hu with rfl|rfl|rfl <;> rfl) }
structure Ref where
 chapter:Int
 line:Int
 word:Int
 deriving DecidableEq
def zHH:Lay Ref:={ size:=3,R:=fun _ vs x=>vs=[.int .i64 x.chapter,.int .i64 x.line,.int .i64 x.word],up:=fun h _=>h,len:=(by rintro _ _ _ rfl;rfl),one:=(by rintro _ _ _ rfl u hu;simp only[zaV,zbD,zec] at hu;rcases hu with rfl|rfl|rfl <;> first|rfl|exact Sl.one (by assumption)) }
structure Stretch where
 chapter:Int
 from_:Int
 to:Int
 as_:Int
 first:Int
 deriving DecidableEq
def zcp:Lay Stretch:={ size:=5,R:=fun _ vs x=>vs=[.int .i64 x.chapter,.int .i64 x.from_,.int .i64 x.to,.int .i64 x.as_,.int .i64 x.first],up:=fun h _=>h,len:=(by rintro _ _ _ rfl;rfl),one:=(by rintro _ _ _ rfl u hu;simp only[zaV,zbD,zec] at hu;rcases hu with rfl|rfl|rfl|rfl|rfl <;> first|rfl|exact Sl.one (by assumption)) }
structure Edition where
 id:Int
 stretches:(List Stretch)
 deriving DecidableEq
def zqy:Lay Edition:={ size:=2,R:=fun h vs x=>∃ v0,vs=[.int .i64 x.id,v0]∧Sl zcp h v0 x.stretches,up:=(by rintro _ _ _ _ ⟨v0,rfl,f0⟩ hl;exact ⟨v0,rfl,f0.up hl⟩),len:=(by rintro _ _ _ ⟨_,rfl,_⟩;rfl),one:=(by rintro _ _ _ ⟨v0,rfl,f0⟩ u hu;simp only[zaV,zbD,zec] at hu;rcases hu with rfl|rfl <;> first|rfl|exact Sl.one (by assumption)) }
structure Cut where
 width:Int
 side:Int
 deriving DecidableEq
def zHI:Lay Cut:={ size:=2,R:=fun _ vs x=>vs=[.int .i64 x.width,.int .u8 x.side]∧(0≤x.side∧x.side≤255),up:=fun h _=>h,len:=(by rintro _ _ _ ⟨rfl,_⟩;rfl),one:=(by rintro _ _ _ ⟨rfl,f0⟩ u hu;simp only[zaV,zbD,zec] at hu;rcases hu with rfl|rfl <;> first|rfl|exact Sl.one (by assumption)) }
structure Row where
 at_:Place
 ref:Ref
 sure:Int
 deriving DecidableEq
def zqf:Lay Row:={ size:=7,R:=fun _ vs x=>vs=[.int .i64 x.at_.chapter,.int .i64 x.at_.line,.int .i64 x.at_.word,.int .i64 x.ref.chapter,.int .i64 x.ref.line,.int .i64 x.ref.word,.int .u8 x.sure]∧(0≤x.sure∧x.sure≤255),up:=fun h _=>h,len:=(by rintro _ _ _ ⟨rfl,_⟩;rfl),one:=(by rintro _ _ _ ⟨rfl,f0⟩ u hu;simp only[zaV,zbD,zec] at hu;rcases hu with rfl|rfl|rfl|rfl|rfl|rfl|rfl <;> first|rfl|exact Sl.one (by assumption)) }
structure Form where
 word:Str
 rows:(List Row)
 deriving DecidableEq
def zlT:Lay Form:={ size:=2,R:=fun h vs x=>∃ v0,vs=[zae x.word,v0]∧x.word.length≤big∧Sl zqf h v0 x.rows,up:=(by rintro _ _ _ _ ⟨v0,rfl,f0,f1⟩ hl;exact ⟨v0,rfl,f0,f1.up hl⟩),len:=(by rintro _ _ _ ⟨_,rfl,_,_⟩;rfl),one:=(by rintro _ _ _ ⟨v0,rfl,f0,f1⟩ u hu;simp only[zaV,zbD,zec] at hu;rcases hu with rfl|rfl <;> first|rfl|exact Sl.one (by assumption)) }
structure VEntry where
 head:Head
 forms:(List Form)
 deriving DecidableEq
def zev:Lay VEntry:={ size:=3,R:=fun h vs x=>∃ v0,vs=[zae x.head.stem,.int .u8 x.head.mark,v0]∧x.head.stem.length≤big∧(0≤x.head.mark∧x.head.mark≤255)∧Sl zlT h v0 x.forms,up:=(by rintro _ _ _ _ ⟨v0,rfl,f0,f1,f2⟩ hl;exact ⟨v0,rfl,f0,f1,f2.up hl⟩),len:=(by rintro _ _ _ ⟨_,rfl,_,_,_⟩;rfl),one:=(by rintro _ _ _ ⟨v0,rfl,f0,f1,f2⟩ u hu;simp only[zaV,zbD,zec] at hu;rcases hu with rfl|rfl|rfl <;> first|rfl|exact Sl.one (by assumption)) }
structure Volume where
 entries:(List VEntry)
 deriving DecidableEq
def zCS:Lay Volume:={ size:=1,R:=fun h vs x=>∃ v0,vs=[v0]∧Sl zev h v0 x.entries,up:=(by rintro _ _ _ _ ⟨v0,rfl,f0⟩ hl;exact ⟨v0,rfl,f0.up hl⟩),len:=(by rintro _ _ _ ⟨_,rfl,_⟩;rfl),one:=(by rintro _ _ _ ⟨v0,rfl,f0⟩ u hu;simp only[zaV,zbD,zec] at hu;rcases hu with rfl <;> first|rfl|exact Sl.one (by assumption)) }
structure Records where
 text:Text
 copies:(List Copy)
 lexicon:Lexicon
 edition:Edition
 cut:Cut
 deriving DecidableEq
def zBx:Lay Records:={ size:=8,R:=fun h vs x=>∃ v0 v1 v2 v3 v4,vs=[v0,v1,v2,v3,.int .i64 x.edition.id,v4,.int .i64 x.cut.width,.int .u8 x.cut.side]∧Sl zaN h v0 x.text.chapters∧Sl zhl h v1 x.copies∧Sl zeE h v2 x.lexicon.rules∧Sl zaG h v3 x.lexicon.decisions∧Sl zcp h v4 x.edition.stretches∧(0≤x.cut.side∧x.cut.side≤255),up:=(by rintro _ _ _ _ ⟨v0,v1,v2,v3,v4,rfl,f0,f1,f2,f3,f4,f5⟩ hl;exact ⟨v0,v1,v2,v3,v4,rfl,f0.up hl,f1.up hl,f2.up hl,f3.up hl,f4.up hl,f5⟩),len:=(by rintro _ _ _ ⟨_,_,_,_,_,rfl,_,_,_,_,_,_⟩;rfl),one:=(by rintro _ _ _ ⟨v0,v1,v2,v3,v4,rfl,f0,f1,f2,f3,f4,f5⟩ u hu;simp only[zaV,zbD,zec] at hu;rcases hu with rfl|rfl|rfl|rfl|rfl|rfl|rfl|rfl <;> first|rfl|exact Sl.one (by assumption)) }
structure Slip where
 at_:Place
 word:Str
 before:Str
 after:Str
 deriving DecidableEq
structure CRow where
 chapter:Int
 line:Int
 as_:Int
 number:Int
 words:Int
 deriving DecidableEq
def zvT:Lay CRow:={ size:=5,R:=fun _ vs x=>vs=[.int .i64 x.chapter,.int .i64 x.line,.int .i64 x.as_,.int .i64 x.number,.int .i64 x.words],up:=fun h _=>h,len:=(by rintro _ _ _ rfl;rfl),one:=(by rintro _ _ _ rfl u hu;simp only[zaV,zbD,zec] at hu;rcases hu with rfl|rfl|rfl|rfl|rfl <;> first|rfl|exact Sl.one (by assumption)) }
structure Chart where
 edition:Edition
 text:Text
 as_:(List (Pair×Pair))
 back:(List (Pair×Pair))
 deriving DecidableEq
def ztL:Lay Chart:={ size:=5,R:=fun h vs x=>∃ v0 v1 v2 v3,vs=[.int .i64 x.edition.id,v0,v1,v2,v3]∧Sl zcp h v0 x.edition.stretches∧Sl zaN h v1 x.text.chapters∧FML zvI (fun x:Pair=>[.int .i64 x.a,.int .i64 x.b]) zze h x.as_ v2∧FML zvI (fun x:Pair=>[.int .i64 x.a,.int .i64 x.b]) zze h x.back v3,up:=(by rintro _ _ _ _ ⟨v0,v1,v2,v3,rfl,f0,f1,f2,f3⟩ hl;exact ⟨v0,v1,v2,v3,rfl,f0.up hl,f1.up hl,f2.up hl,f3.up hl⟩),len:=(by rintro _ _ _ ⟨_,_,_,_,rfl,_,_,_,_⟩;rfl),one:=(by rintro _ _ _ ⟨v0,v1,v2,v3,rfl,f0,f1,f2,f3⟩ u hu;simp only[zaV,zbD,zec] at hu;rcases hu with rfl|rfl|rfl|rfl|rfl <;> first|rfl|exact Sl.one (by assumption)|exact FML.one (by assumption)) }
structure Desk where
 recs:Records
 doubt:(List (Place×Bool))
 deriving DecidableEq
def zGY:Lay Desk:={ size:=9,R:=fun h vs x=>∃ v0 v1 v2 v3 v4 v5,vs=[v0,v1,v2,v3,.int .i64 x.recs.edition.id,v4,.int .i64 x.recs.cut.width,.int .u8 x.recs.cut.side,v5]∧Sl zaN h v0 x.recs.text.chapters∧Sl zhl h v1 x.recs.copies∧Sl zeE h v2 x.recs.lexicon.rules∧Sl zaG h v3 x.recs.lexicon.decisions∧Sl zcp h v4 x.recs.edition.stretches∧(0≤x.recs.cut.side∧x.recs.cut.side≤255)∧FM zix (fun b:Bool=>.bool b) h x.doubt v5,up:=(by rintro _ _ _ _ ⟨v0,v1,v2,v3,v4,v5,rfl,f0,f1,f2,f3,f4,f5,f6⟩ hl;exact ⟨v0,v1,v2,v3,v4,v5,rfl,f0.up hl,f1.up hl,f2.up hl,f3.up hl,f4.up hl,f5,f6.up hl⟩),len:=(by rintro _ _ _ ⟨_,_,_,_,_,_,rfl,_,_,_,_,_,_,_⟩;rfl),one:=(by rintro _ _ _ ⟨v0,v1,v2,v3,v4,v5,rfl,f0,f1,f2,f3,f4,f5,f6⟩ u hu;simp only[zaV,zbD,zec] at hu;rcases hu with rfl|rfl|rfl|rfl|rfl|rfl|rfl|rfl|rfl <;> first|rfl|exact Sl.one (by assumption)|exact FML.one (by assumption)|exact FM.one (by assumption)) }
structure Found where
 head:Head
 word:Str
 row:Row
 deriving DecidableEq
def zhO (x:Lexicon):List Decision:=x.decisions.mergeSort fun a b=>decide (b.number≤a.number)
def zlD (d:Decision):Int×Decision:=(d.number,d)
def zkq (x:Lexicon):List (Int×Decision):=((zhO x).filter (zib x)).map zlD
def OkD (x:Lexicon):Prop:=(x.decisions.map (·.number)).Nodup∧∀ v∈x.decisions,1≤v.number∧v.number≤999∧(v.kind=4→v.of_<v.number)
theorem ziH (x:Lexicon):(zhO x).Perm x.decisions:=List.mergeSort_perm _ _
theorem zum (x:Lexicon):(zhO x).Pairwise fun a b=>b.number≤a.number:=by
 have h:=List.pairwise_mergeSort (le:=fun a b:Decision=>decide (b.number≤a.number)) (by intro a b c h1 h2;simp at *;omega) (by intro a b;simp;omega) x.decisions;exact h.imp (fun h=>by simpa using h)
theorem zyL {f:α→Int} (hn:(xs.map f).Nodup) {a b:α} (ha:a∈xs) (hb:b∈xs) (e:f a=f b):a=b:=by
 obtain ⟨i,hi⟩:=k_List_mem_iff_getElem_.1 ha;obtain ⟨j,hj⟩:=k_List_mem_iff_getElem_.1 hb
 rcases Nat.lt_trichotomy i j with h|h|h
 ·exact absurd hn (zql hi hj h e)
 ·subst h;rw[hi] at hj;exact zeO hj
 exact absurd hn (zql hj hi h e.symm)
theorem zFo (hp:ys.Perm x.decisions) (hs:ys.Pairwise fun a b=>¬ a.number-b.number<0) (hn:(x.decisions.map (·.number)).Nodup):ys=zhO x:=by
 refine List.Perm.eq_of_pairwise (le:=fun a b:Decision=>b.number≤a.number) ?_ (hs.imp (fun h=>by omega)) (zum x) (hp.trans (ziH x).symm);intro a b ha hb h1 h2;exact zyL hn (hp.mem_iff.1 ha) ((ziH x).mem_iff.1 hb) zW
theorem zpM (hn:(x.decisions.map (·.number)).Nodup):((zhO x).map (·.number)).Nodup:=((ziH x).map _).nodup_iff.2 hn
theorem zEN [DecidableEq κ] {k:κ} (h:zcI m k=none):ziL m k u=m++[(k,u)]:=by simp[ziL,h]
theorem zyN {n:Int} (hn:(l.map (·.number)).Nodup):zcI (l.map zlD) n=some d↔d∈l∧d.number=n:=by
 induction l with
 | nil=>simp[zcI]
 | cons e l ih=>
  simp only[zbQ,zgb] at hn;have ih:=ih hn.2;simp only[zcI,zbQ,zdu,zlD] at ih ⊢
  by_cases h:e.number=n
  ·simp only[h,decide_true,zck,zeS,zaV];constructor
   ·rintro rfl;exact ⟨.inl rfl,h⟩
   ·rintro ⟨rfl|h1,h2⟩
    ·rfl
    ·exact absurd (zbk.2 ⟨d,h1,h2.trans h.symm⟩) hn.1
  ·simp only[h,decide_false,zaV];rw[ih];constructor
   ·rintro ⟨h1,h2⟩;exact ⟨.inr h1,h2⟩
   ·rintro ⟨rfl|h1,h2⟩
    ·exact absurd h2 h
    ·exact ⟨h1,h2⟩
theorem zwT {n:Int} (h:n ∉ l.map (·.number)):zcI (l.map zlD) n=none:=by
 simp only[zcI,Option.map_eq_none_iff,zdM];intro p hp;obtain ⟨d,hd,rfl⟩:=zbk.1 hp;intro e;have e':d.number=n:=zej e;exact h (e'▸zdq hd)
theorem zAO {k:Nat} (hn:(l.map (·.number)).Nodup) (hd:l[k]?=some d):ziL ((l.take k).map zlD) d.number d=(l.take (k+1)).map zlD:=by
 rw[zEN (zwT ?_),zbg hd,zaz]
 ·rfl
 intro h;exact zpZ (f:=(·.number)) hd h hn
def zmX (x:Lexicon) (k:Nat) (d:Decision):Bool:=((zhO x).take k).all fun v=>!(decide (v.kind=4) && decide (v.of_=d.number) && zib x v)
theorem zws (hx:OkD x) (hd:1≤d.number):zib x d=x.decisions.all fun v=>!(decide (v.kind=4) && decide (v.of_=d.number) && zib x v):=by
 have hv:∀ v∈x.decisions,v.number≤999∧(v.kind=4→v.of_<v.number):=fun v h=>(hx.2 v h).2;unfold zib;rw[zoY hv zW];rw[zdR,zal,zal];refine forall_congr' fun v=>forall_congr' fun hm=>?_;have h1:=(hx.2 v hm).1;have e:zkl x (1000-1) v=zkl x 1000 v:=by
  rw[zoY hv (show 999<v.number+((1000-1:Nat):Int) by omega),zoY hv (show 999<v.number+((1000:Nat):Int) by omega)]
  -- both say the same of what makes v void
  rw[zdR,zal,zal];refine forall_congr' fun u=>forall_congr' fun hu=>?_
  by_cases hk:u.kind=4
  ·by_cases ho:u.of_=v.number
   ·have h2:=(hx.2 u hu).2.2 hk;have:zkl x (1000-1-1) u=zkl x (1000-1) u:=by
     have h3:2≤u.number:=by omega
     have key:∀ (n m:Nat) (w:Decision),999<w.number+(n:Int)→999<w.number+(m:Int)→zkl x n w=zkl x m w:=by
      intro n
      induction n with
      | zero=>
       intro m w hw hm';cases m with
       | zero=>rfl
       | succ m=>
        simp only[zkl]
        symm
        rw[zal];intro y hy;have hy':=hx.2 y hy
        by_cases hk':y.kind=4
        ·have:¬ y.of_=w.number:=by have:=hy'.2.2 hk';omega
         simp[this]
        ·simp[hk']
      | succ n ih=>
       intro m w hw hm';cases m with
       | zero=>
        simp only[zkl];rw[zal];intro y hy;have hy':=hx.2 y hy
        by_cases hk':y.kind=4
        ·have:¬ y.of_=w.number:=by have:=hy'.2.2 hk';omega
         simp[this]
        ·simp[hk']
       | succ m=>
        simp only[zkl];rw[zdR,zal,zal];refine forall_congr' fun y=>forall_congr' fun hy=>?_;have hy':=hx.2 y hy
        by_cases hk':y.kind=4
        ·by_cases ho':y.of_=w.number
         ·have:=hy'.2.2 hk';rw[ih m y zW zW]
         ·simp[ho']
        ·simp[hk']
     exact key _ _ u zW zW
    simp only[zrv,this]
   ·simp[zrv,ho]
  ·simp[zrv,hk]
 simp only[zrv,e]
theorem zFa (hx:OkD x) {k:Nat} (hd:(zhO x)[k]?=some d):zmX x k d=zib x d:=by
 have hm:d∈x.decisions:=(ziH x).mem_iff.1 (zD hd);rw[zws hx (hx.2 d hm).1];rw[zdR,zmX,zal,zal];constructor
 ·intro h v hv
  by_cases hk:v.kind=4
  ·by_cases ho:v.of_=d.number
   ·have h1:=(hx.2 v hv).2.2 hk;obtain ⟨j,hj⟩:=k_List_mem_iff_getElem_.1 ((ziH x).mem_iff.2 hv);have hjk:j<k:=by
     rcases zcO j k with h2|h2
     ·exact h2
     ·rcases Nat.eq_or_lt_of_le h2 with h3|h3
      ·subst h3;rw[hj] at hd;cases hd;omega
      ·obtain ⟨a1,a2⟩:=k_List_getElem__eq_some_iff.1 hd;obtain ⟨b1,b2⟩:=k_List_getElem__eq_some_iff.1 hj;have:=zdE.1 (zum x) k j a1 b1 h3;rw[a2,b2] at this;omega
    exact h v (zD (by rw[zaR,zab hjk];exact hj))
   ·simp[ho]
  ·simp[hk]
 intro h v hv;exact h v ((ziH x).mem_iff.1 (List.mem_of_mem_take hv))
theorem zwY (x:Lexicon):((zhO x).filter (zmX x 0)).map zlD=(zhO x).map zlD:=by
 congr 1;rw[zeN];intro d _;simp[zmX]
theorem zDH (hx:OkD x):((zhO x).filter (zmX x (zhO x).length)).map zlD=zkq x:=by
 unfold zkq;congr 1;apply zfo;intro d hd;have hm:d∈x.decisions:=(ziH x).mem_iff.1 hd;rw[zws hx (hx.2 d hm).1,zmX,zhU,zdR,zal,zal];exact ⟨fun h v hv=>h v ((ziH x).mem_iff.2 hv),fun h v hv=>h v ((ziH x).mem_iff.1 hv)⟩
theorem zqO (hx:OkD x) (p:Decision→Bool):(((zhO x).filter p).map (·.number)).Nodup:=(zdC.map _).nodup (zpM hx.1)
theorem zsl (hx:OkD x) {k:Nat} (hd:(zhO x)[k]?=some d):(zcI (((zhO x).filter (zmX x k)).map zlD) d.number).isSome=zib x d:=by
 rw[← zFa hx hd];have hm:=zD hd;cases h:zmX x k d with
 | true=>
  have:=(zyN (zqO hx (zmX x k))).2 ⟨zcl.2 ⟨hm,h⟩,rfl⟩;rw[this];rfl
 | false=>
  cases hl:zcI (((zhO x).filter (zmX x k)).map zlD) d.number with
  | none=>rfl
  | some e=>
   obtain ⟨h1,h2⟩:=(zyN (zqO hx (zmX x k))).1 hl;have h3:=zcl.1 h1;have:e=d:=zyL (zpM hx.1) h3.1 hm h2;subst this;rw[h] at h3;cases h3.2
theorem zwZ {k:Nat} (hd:(zhO x)[k]?=some d):zmX x (k+1) e=(zmX x k e && !(decide (d.kind=4) && decide (d.of_=e.number) && zib x d)):=by
 simp only[zmX,zbg hd,List.all_append,List.all_cons,List.all_nil,Bool.and_true]
theorem zAN {k:Nat} (hd:(zhO x)[k]?=some d) (h:d.kind=4∧zib x d=true):
  zni (((zhO x).filter (zmX x k)).map zlD) d.of_=((zhO x).filter (zmX x (k+1))).map zlD:=by
 rw[zni,List.filter_map,List.filter_filter];congr 1;apply zfo;intro e _;rw[zwZ hd,h.1,h.2];simp only[Function.comp,zlD,decide_true,Bool.and_true,zdQ];rw[Bool.and_comm];congr 2;exact zhT.2 eq_comm
theorem zug {k:Nat} (hd:(zhO x)[k]?=some d) (h:¬ (d.kind=4∧zib x d=true)):
  ((zhO x).filter (zmX x k)).map zlD=((zhO x).filter (zmX x (k+1))).map zlD:=by
 congr 1;apply zfo;intro e _;rw[zwZ hd]
 by_cases h1:d.kind=4
 ·have h2:zib x d=false:=by
   cases q:zib x d with
   | false=>rfl
   | true=>exact absurd ⟨h1,q⟩ h
  simp[h2]
 ·simp[h1]
theorem zoZ {p:Int×Decision} (h:p∈zkq x):p.2∈x.decisions∧p.1=p.2.number∧zib x p.2=true:=by
 obtain ⟨d,hd,rfl⟩:=zbk.1 h;obtain ⟨h1,h2⟩:=zcl.1 hd;exact ⟨(ziH x).mem_iff.1 h1,rfl,h2⟩
theorem zwN {t:Text} (h:zcZ t x=0):OkD x:=by
 have h1:=zyP h;have h2:=zwU h;refine ⟨?_,fun v hv=>⟨h2 v hv,h1 v hv⟩⟩;unfold zcZ at h;split at h
 ·cases h
 split at h
 ·cases h
 rename_i h3;simp only[Bool.not_eq_false] at h3;simp only[zfA,zK,zX] at h3;exact h3.2
def zpD (rs:List Rule) (left:Int) (w:Str):Str:=if left=0 then w else (zjD rs w).getD w
def zsS (rs:List Rule) (left:Int) (w:Str):Bool:=if left=0 then false else (zjD rs w).isSome
def zvu (left:Int):Int:=if left=0 then 0 else left-1
def zlh (s p:Str):Bool:=decide (p.length≤s.length) && decide (s.drop (s.length-p.length)=p)
theorem zDh {w: Str} (ht:(rs.take i).findSome? (zlt · w)=none) (hr:rs[i]?=some r) (hm:zlt r w=some s):zjD rs w=some s:=by
 unfold zjD;rw[← zbS i rs,List.findSome?_append,ht,zjS hr,List.findSome?_cons,hm];rfl
theorem zAm {w:Str} (ht:(rs.take i).findSome? (zlt · w)=none) (hi:rs.length≤i):zjD rs w=none:=by
 rw[zS hi] at ht;exact ht
theorem zuL {w:Str} (ht:(rs.take i).findSome? (zlt · w)=none) (hr:rs[i]?=some r) (hm:zlt r w=none):(rs.take (i+1)).findSome? (zlt · w)=none:=by
 rw[zbg hr,List.findSome?_append,ht,List.findSome?_cons,hm];rfl
theorem zyA {w:Str} (h:w.length≤12):(zpD rs left w).length≤12:=by
 unfold zpD;split
 ·exact h
 cases e:zjD rs w with
 | none=>exact h
 | some s=>
  obtain ⟨r,_,hr⟩:=List.exists_of_findSome?_eq_some e;exact zwS hr
theorem zzu {w:Str} (h:zlh w r.cut=true→r.least≤((w.take (w.length-r.cut.length)).length:Int)∧(w.take (w.length-r.cut.length)).length+r.put.length≤12→False):zlt r w=none:=by
 unfold zlt;rw[zam];rintro ⟨q1,q2,q3,q4⟩;have hl:(w.take (w.length-r.cut.length)).length=w.length-r.cut.length:=by rw[zt];omega
 exact h (by simp[zlh,q1,q3]) (by rw[hl];exact ⟨q2,q4⟩)
theorem zEY {w:Str} (h:zlh w r.cut=true) (h1:r.least≤((w.take (w.length-r.cut.length)).length:Int)) (h2:(w.take (w.length-r.cut.length)).length+r.put.length≤12):zlt r w=some (w.take (w.length-r.cut.length)++r.put):=by
 simp only[zlh,zK,zX] at h;have hl:(w.take (w.length-r.cut.length)).length=w.length-r.cut.length:=by rw[zt];omega
 rw[hl] at h1 h2;unfold zlt;rw[zab ⟨h.1,h1,h.2,h2⟩]
theorem zsg {w:Str} (h:zsS rs left w=true):¬ left=0∧zjD rs w=some (zpD rs left w):=by
 unfold zsS at h;unfold zpD;split at h
 ·cases h
 rename_i h0;rw[zam h0];refine ⟨h0,?_⟩;cases e:zjD rs w with
 | none=>rw[e] at h;cases h
 | some s=>rfl
theorem zwo {w:Str} (h:zsS rs left w=false) (hn:left=(n:Int)):zgT rs n w=[w]:=by
 unfold zsS at h;split at h
 ·have:n=0:=by omega
  subst this;rfl
 apply zvx;cases e:zjD rs w with
 | none=>rfl
 | some s=>rw[e] at h;cases h
theorem zmV {dn rm rm' m:List α} {p:α} (h:(dn++rm).Perm m) (q:rm.Perm (p::rm')):((dn++[p])++rm').Perm m:=by
 refine List.Perm.trans ?_ h;rw[zaB];exact (zgt dn q).symm
theorem standAt_mem:d∈zmv x n↔d∈x.decisions∧d.number=(n:Int)+1∧zib x d=true:=by
 simp only[zmv,zcl,zqD,zib,zK,zX]
theorem zoy {x:Lexicon} (hn:(x.decisions.map (·.number)).Nodup):∀ n,(((List.range n).flatMap (zmv x)).map (·.number)).Pairwise (fun a b:Int=>a<b)∧∀ a∈((List.range n).flatMap (zmv x)).map (·.number),a≤(n:Int)
 | 0=>by simp
 | n+1=>by
  obtain ⟨h1,h2⟩:=zoy hn n;have h3:((zmv x n).map (·.number)).Nodup:=(zdC.map _).nodup hn;have h4:∀ a∈(zmv x n).map (·.number),a=(n:Int)+1:=by
   intro a ha;obtain ⟨d,hd,rfl⟩:=zbk.1 ha;exact (standAt_mem.1 hd).2.1
  rw[zdb,zfi,zaz];simp only[zhA,List.flatMap_nil,zbL];refine ⟨zga.2 ⟨h1,?_,?_⟩,?_⟩
  ·refine List.Pairwise.imp_of_mem ?_ h3;intro a b ha hb hne;exact absurd ((h4 a ha).trans (h4 b hb).symm) hne
  ·intro a ha b hb;have:=h2 a ha;have:=h4 b hb;omega
  ·intro a ha
   rcases zcq.1 ha with ha|ha
   ·have:=h2 a ha;omega
   ·have:=h4 a ha;omega
def zwy (w:Str):Bool:=decide (w.length≤40)
def zpa (l:List Str):Bool:=decide (l.length≤15) && l.all zwy
def zmz (c:Chapter):Bool:=decide (c.lines.length≤15) && c.lines.all zpa
def zmy (t:Text):Bool:=decide (t.chapters.length≤10) && t.chapters.all zmz
def zly (r:Rule):Bool:=decide (r.cut.length≤100) && decide (r.put.length≤100)
def zlz (d:Decision):Bool:=decide (d.form.length≤100) && decide (d.to.stem.length≤100)
def zhr (x:Lexicon):Bool:=decide (x.rules.length≤20) && decide (x.decisions.length≤25) && x.rules.all zly && x.decisions.all zlz
theorem zBI {t:Text} (h:zmy t=true):t.chapters.length≤10:=by
 simp only[zmy,zK,zX] at h;exact h.1
theorem zEp {t:Text} (h:zmy t=true) (hc:t.chapters[i]?=some c):c.lines.length≤15:=by
 simp only[zmy,zK,zX,zal] at h;have:=h.2 c (zD hc);simp only[zmz,zK,zX] at this;exact this.1
theorem zEo {t:Text} (h:zmy t=true) {k: Nat} {l:List Str} (hc:t.chapters[i]?=some c) (hl:c.lines[k]?=some l):l.length≤15:=by
 simp only[zmy,zK,zX,zal] at h;have:=h.2 c (zD hc);simp only[zmz,zK,zX,zal] at this;have:=this.2 l (zD hl);simp only[zpa,zK,zX] at this;exact this.1
theorem zBH (h:zhr x=true):x.rules.length≤20∧x.decisions.length≤25:=by
 simp only[zhr,zK,zX] at h;exact h.1.1
def zke (a b:Int):Int:=if a<b then -1 else if b<a then 1 else 0
def zwa:List Int→List Int→Int
 | [],[]=>0
 | [],_::_=>-1
 | _::_,[]=>1
 | a::az,b::bs=>if zke a b≠0 then zke a b else zwa az bs
def zqP (a b:Str):Int:=Lib.compareBytes a b
def zmi (a b:Place):Int:=zwa [a.chapter,a.line,a.word] [b.chapter,b.line,b.word]
def zqa (a b:Decision):Int:=if a.kind≠b.kind then a.kind-b.kind else if a.kind=2∧a.at_≠b.at_ then zmi a.at_ b.at_ else a.number-b.number
def zij (d:Decision) (p:Place) (w:Str):Bool:=
 if d.kind=1 then decide (d.form=w) else if d.kind=2 then decide (d.form=w) && !zge p d.at_ else if d.kind=3 then decide (d.at_=p) else false
def zoi (d e:Decision):Bool:=if d.kind≠e.kind then decide (d.kind > e.kind) else decide (d.kind≠2) || !zge d.at_ e.at_
def zpN (a b:Head):Int:=if zqP a.stem b.stem≠0 then zqP a.stem b.stem else a.mark-b.mark
def sLt (a b:Str):Bool:=Op.bytesLess a b
def zgI (a b:Head):Bool:=sLt a.stem b.stem || (decide (a.stem=b.stem) && decide (a.mark<b.mark))
theorem zyY {a b:List Int} {k:Nat} {x y:Int} (ha:a[k]?=some x) (hb:b[k]?=some y):zwa (a.drop k) (b.drop k)=if zke x y≠0 then zke x y else zwa (a.drop (k+1)) (b.drop (k+1)):=by
 rw[zjS ha,zjS hb];rfl
theorem zyi {a b:List Int} (ha:a=[]) (hb:b≠[]):zwa a b = -1:=by
 subst ha;cases b with
 | nil=>exact absurd rfl hb
 | cons=>rfl
theorem zyj {a b:List Int} (hb:b=[]) (ha:a≠[]):zwa a b=1:=by
 subst hb;cases a with
 | nil=>exact absurd rfl ha
 | cons=>rfl
theorem zzr (a b:Place):zmi a b=if zke a.chapter b.chapter≠0 then zke a.chapter b.chapter else if zke a.line b.line≠0 then zke a.line b.line else zke a.word b.word:=by
 simp only[zmi,zwa];repeat' split
 all_goals simp_all
theorem zof (a b:Place):decide (zmi a b≤0) = !zge b a:=by
 rw[zzr];simp only[zke,zge]
 by_cases h1:a.chapter<b.chapter <;> by_cases h2:b.chapter<a.chapter <;> by_cases h3:a.line<b.line <;> by_cases h4:b.line<a.line <;> by_cases h5:a.word<b.word <;> by_cases h6:b.word<a.word <;> simp[h1,h2,h3,h4,h5,h6] <;> (try omega) <;> (repeat' split) <;> simp <;> omega
theorem zzq (a b:Place):decide (zmi a b > 0)=zge b a:=by
 have h:=zof a b;cases e:zge b a <;> rw[e] at h <;> simp at h ⊢ <;> omega
theorem zDV (hn:e.number<d.number):decide (zqa d e > 0)=zoi d e:=by
 unfold zqa zoi
 by_cases hk:d.kind=e.kind
 ·have hk':¬ d.kind≠e.kind:=by simp[hk]
  simp only[zam hk']
  by_cases h2:d.kind=2
  ·by_cases ha:d.at_=e.at_
   ·have q:¬ (d.kind=2∧d.at_≠e.at_):=by simp[ha]
    have:zge e.at_ e.at_=false:=by simp[zge]
    simp only[zam q,h2,ha,this];simp;omega
   ·have q:d.kind=2∧d.at_≠e.at_:=⟨h2,ha⟩;simp only[zab q,zzq];simp only[h2,ne_eq,not_true_eq_false,decide_false,zes];rw[zdR]
    rcases d with ⟨_,_,_,⟨c1,l1,w1⟩,_,_⟩;rcases e with ⟨_,_,_,⟨c2,l2,w2⟩,_,_⟩
    simp only[zge,Place.mk.injEq,not_and] at ha ⊢
    by_cases q1:c1=c2 <;> by_cases q2:l1=l2 <;> by_cases q3:w1=w2 <;> simp_all <;> (repeat' split) <;> omega
  ·have q:¬ (d.kind=2∧d.at_≠e.at_):=by simp[h2]
   simp only[zam q];simp[h2];omega
 have hk':d.kind≠e.kind:=hk;simp only[zab hk'];rw[zhT];omega
theorem zkb {m:List α→Prop} (nil:m []) (snoc:∀ l a,m l→m (l++[a])) (l:List α):m l:=by
 have h:∀ r:List α,m r.reverse:=by
  intro r
  induction r with
  | nil=>exact nil
  | cons a r ih=>rw[List.reverse_cons];exact snoc _ _ ih
 have:=h l.reverse;rwa [List.reverse_reverse] at this
def znC (b d:Decision):Decision:=if b.number=0∨zqa d b > 0 then d else b
def zcB (l:List Decision):Decision:=l.foldl znC zhV
theorem zlK (l:List Decision) (d:Decision):zcB (l++[d])=znC (zcB l) d:=by simp[zcB]
theorem zrc (l:List Decision):zcB l=zhV∨zcB l∈l:=by
 induction l using zkb with
 | nil=>exact .inl rfl
 | snoc l d ih=>
  rw[zlK,znC];split
  ·exact .inr (by simp)
  ·rcases ih with h|h
   ·exact .inl h
   ·exact .inr (by simp[h])
theorem zCP {p:Decision→Prop} (hz:p zhV) (hp:∀ y∈l,p y):p (zcB l):=by
 rcases zrc l with h|h
 ·rw[h];exact hz
 exact hp _ h
theorem zBp (hp:∀ y∈l,1≤y.number) (h:(zcB l).number=0):zcB l=zhV:=by
 rcases zrc l with h1|h1
 ·exact h1
 have:=hp _ h1;omega
theorem znY (hp:∀ y∈l,1≤y.number) (hl:l≠[]):1≤(zcB l).number∧zcB l∈l:=by
 have key:zcB l∈l:=by
  induction l using zkb with
  | nil=>exact absurd rfl hl
  | snoc l d ih=>
   rw[zlK,znC];split
   ·simp
   ·rename_i hn
    by_cases hl':l=[]
    ·subst hl';exact absurd (.inl rfl) hn
    ·have:=ih (fun y hy=>hp y (by simp[hy])) hl';simp[this]
 exact ⟨hp _ key,key⟩
def ztl (a b:Decision):Prop:=a.kind<b.kind∨(a.kind=b.kind∧((a.kind=2∧(a.at_.chapter<b.at_.chapter∨(a.at_.chapter=b.at_.chapter∧(a.at_.line<b.at_.line∨(a.at_.line=b.at_.line∧a.at_.word<b.at_.word)))))∨((a.kind=2→a.at_=b.at_)∧a.number<b.number)))
theorem firstI_lex:zqa d e > 0↔ztl e d:=by
 unfold zqa ztl
 by_cases hk:d.kind=e.kind
 ·have hk':¬ d.kind≠e.kind:=by simp[hk]
  simp only[zam hk']
  by_cases h2:d.kind=2
  ·have h3:e.kind=2:=by omega
   by_cases ha:d.at_=e.at_
   ·have q:¬ (d.kind=2∧d.at_≠e.at_):=by simp[ha]
    simp only[zam q,h3,h2,ha];simp
   ·have q:d.kind=2∧d.at_≠e.at_:=⟨h2,ha⟩;rw[zab q];simp only[h3,h2];have hg:=zzq d.at_ e.at_;have h5:zmi d.at_ e.at_ > 0↔zge e.at_ d.at_=true:=by rw[← hg];simp
    rw[h5];have ha':¬ e.at_=d.at_:=fun q=>ha q.symm;simp only[ha',Int.lt_irrefl,false_or,true_and,forall_const,false_and,zec,zge]
    by_cases q1:e.at_.chapter=d.at_.chapter <;> by_cases q2:e.at_.line=d.at_.line <;> simp_all
  ·have h3:¬ e.kind=2:=by omega
   have q:¬ (d.kind=2∧d.at_≠e.at_):=by simp[h2]
   simp only[zam q,h3];simp[hk]
 have hk':d.kind≠e.kind:=hk;simp only[zab hk'];omega
theorem zwW {a b c:Decision} (h1:ztl a b) (h2:ztl b c):ztl a c:=by
 rcases a with ⟨n1,k1,f1,⟨c1,l1,w1⟩,t1,o1⟩;rcases b with ⟨n2,k2,f2,⟨c2,l2,w2⟩,t2,o2⟩;rcases c with ⟨n3,k3,f3,⟨c3,l3,w3⟩,t3,o3⟩
 simp only[ztl,Place.mk.injEq] at *;omega
theorem zCd {a b:Decision} (h:a.number≠b.number):ztl a b∨ztl b a:=by
 rcases a with ⟨n1,k1,f1,⟨c1,l1,w1⟩,t1,o1⟩;rcases b with ⟨n2,k2,f2,⟨c2,l2,w2⟩,t2,o2⟩
 simp only[ztl,Place.mk.injEq] at *;omega
theorem zAT (a:Decision):¬ ztl a a:=by
 unfold ztl;omega
theorem zsb (hp:∀ y∈l,1≤y.number) (hn:(l.map (·.number)).Nodup):∀ y∈l,y≠zcB l→ztl y (zcB l):=by
 induction l using zkb with
 | nil=>simp
 | snoc l d ih=>
  intro y hy hne;have hn':(l.map (·.number)).Nodup:=by rw[zaz] at hn;exact (zcx.1 hn).1
  have ih:=ih (fun y hy=>hp y (by simp[hy])) hn';have hd:∀ z∈l,z.number≠d.number:=by
   intro z hz e;rw[zaz] at hn;exact (zcx.1 hn).2.2 _ (zdq hz) _ (zbk.2 ⟨d,by simp,rfl⟩) e
  rw[zlK] at hne ⊢;unfold znC at hne ⊢;split at hne
  ·rename_i hc;rw[zab hc]
   rcases zcq.1 hy with h|h
   ·by_cases hl:l=[]
    ·subst hl;cases h
    ·have hb:=znY (fun y hy=>hp y (by simp[hy])) hl;have h1:ztl (zcB l) d:=by
      rcases hc with h0|h0
      ·omega
      ·exact firstI_lex.1 h0
     by_cases e:y=zcB l
     ·rw[e];exact h1
     ·exact zwW (ih y h e) h1
   ·simp at h;exact absurd h hne
  ·rename_i hc;rw[zam hc];have hc':¬ (zcB l).number=0∧¬ ztl (zcB l) d:=⟨fun h=>hc (.inl h),fun h=>hc (.inr (firstI_lex.2 h))⟩
   rcases zcq.1 hy with h|h
   ·exact ih y h hne
   ·simp at h;subst h
    by_cases hl:l=[]
    ·subst hl;exact absurd rfl hc'.1
    ·have hb:=znY (fun y hy=>hp y (by simp[hy])) hl
     rcases zCd (hd _ hb.2) with h1|h1
     ·exact absurd h1 hc'.2
     ·exact h1
theorem zsa {xs: List Decision} (h:xs.Perm ys) (hp:∀ y∈ys,1≤y.number) (hn:(ys.map (·.number)).Nodup):zcB xs=zcB ys:=by
 by_cases hy:ys=[]
 ·subst hy;rw[h.eq_nil]
 have hx:xs≠[]:=fun e=>hy (by subst e;exact h.symm.eq_nil);have hp':∀ y∈xs,1≤y.number:=fun y hy=>hp y (h.mem_iff.1 hy);have hn':(xs.map (·.number)).Nodup:=(h.map _).nodup_iff.2 hn;have h1:=(znY hp' hx).2;have h2:=(znY hp hy).2
 by_cases e:zcB xs=zcB ys
 ·exact e
 have a:=zsb hp hn _ (h.mem_iff.1 h1) e;have b:=zsb hp' hn' _ (h.mem_iff.2 h2) (Ne.symm e);exact absurd (zwW a b) (zAT _)
theorem zBo (hp:∀ y∈l,1≤y.number) (hs:l.Pairwise fun a b=>a.number<b.number):
  l.foldl (fun b d=>if b.number=0∨zoi d b=true then d else b) zhV=zcB l:=by
 have key:∀ (l1 l2:List Decision),l=l1++l2→l1.foldl (fun b d=>if b.number=0∨zoi d b=true then d else b) zhV=zcB l1:=by
  intro l1
  induction l1 using zkb with
  | nil=>intro _ _;rfl
  | snoc l1 d ih=>
   intro l2 e;rw[zel,ih (d::l2) (by simp[e]),zlK];simp only[zgC,zhZ,znC]
   rcases zrc l1 with h|h
   ·rw[h];rfl
   ·have:(zcB l1).number<d.number:=by
     rw[e,zaB] at hs;exact (zga.1 hs).2.2 _ h _ (by simp)
    rw[← zDV this];simp only[zX]
 exact key l [] (by simp)
def zbY (t:Text) (p:Place):Str:=(znn t p).getD []
def zvg (x:Lexicon) (p:Place) (wd:Str):List Decision:=((zkq x).map (·.2)).filter fun d=>zij d p wd
def zhz (x:Lexicon) (p:Place) (wd:Str):Decision:=
 if (zcB (zvg x p wd)).number=0 then { zhV with to:=⟨((zgT x.rules 4 wd).getLast?).getD [],0⟩ } else zcB (zvg x p wd)
def OkO (o:Office):Prop:=zcZ o.text o.lex=0∧o.stands=zkq o.lex
theorem zub {t:Text} (h:zeb t p=true):∃ c ln wd,0≤p.chapter∧t.chapters[p.chapter.toNat]?=some c∧0≤p.line∧c.lines[p.line.toNat]?=some ln∧0≤p.word∧ln[p.word.toNat]?=some wd∧zbY t p=wd:=by
 unfold zeb at h;unfold zbY;unfold znn zdw at *;split at h
 ·rename_i h1;split at h
  ·rename_i h2;cases hc:t.chapters[p.chapter.toNat]? with
   | none=>simp[hc] at h
   | some c=>
    simp only[hc,Option.bind_some] at h;cases hl:c.lines[p.line.toNat]? with
    | none=>simp[hl] at h
    | some ln=>
     simp only[hl,Option.bind_some] at h;cases hw:ln[p.word.toNat]? with
     | none=>simp[hw] at h
     | some wd=>exact ⟨c,ln,wd,h2.1,rfl,h2.2,hl,h1,hw,by simp[zab h1,zab h2,hc,hl,hw]⟩
  ·simp at h
 simp at h
theorem zHX {o:Office} (h:OkO o):OkD o.lex:=zwN h.1
theorem zsh {t:Text} (h:zcZ t x=0) {q:Int×Decision} (hq:q∈zkq x):zbE t q.2=true∧1≤q.2.number∧q.2.number≤999∧1≤q.2.kind∧q.2.kind≤4:=by
 have h1:=(zoZ hq).1;have h2:zfA t x=true:=by
  unfold zcZ at h;split at h
  ·cases h
  ·split at h
   ·cases h
   ·rename_i h3;simpa using h3
 simp only[zfA,zK,zal] at h2;have h3:=h2.1.2 _ h1;have h4:=(zwN h).2 _ h1;refine ⟨h3,h4.1,h4.2.1,?_⟩;unfold zbE at h3;simp only[zK] at h3;have h5:=h3.2;split at h5
 ·omega
 split at h5
 ·omega
 split at h5
 ·omega
 split at h5
 ·omega
 cases h5
theorem zpV (h:OkD x):(((zkq x).map (·.2)).map (·.number)).Nodup:=by
 have:=zqO h (zib x);simpa [zkq,zlD,zhf,Function.comp_def] using this
theorem zqh {t:Text} (ht:zcz t=true) (hp:zeb t p=true):(zbY t p).length≤12:=by
 obtain ⟨c,ln,wd,_,hc,_,hl,_,hw,e⟩:=zub hp;rw[e];simp only[zcz,zK,zal] at ht;have h1:=ht.1.2 _ (zD hc);simp only[zeC,zK,zal] at h1;have h2:=h1.2 _ (zD hl);simp only[zmh,zK,zal] at h2;exact ztM (h2.2 _ (zD hw))
theorem zei {t:Text} (h:zcZ t x=0):zcz t=true:=by
 unfold zcZ at h;split at h
 ·cases h
 rename_i h1;simpa using h1
theorem zEc {dn:List (Int×Decision)} (h:OkD x) (hd:dn.Perm (zkq x)):zcB ((dn.map (·.2)).filter fun d=>zij d p wd)=zcB (zvg x p wd):=by
 refine zsa ((hd.map _).filter _) ?_ ?_
 ·intro y hy;obtain ⟨q,hq,rfl⟩:=zbk.1 (zcl.1 hy).1;exact (h.2 _ (zoZ hq).1).1
 exact (zdC.map _).nodup (zpV h)
theorem znQ (rs:List Rule) (n:Nat) (w:Str):zgT rs n w≠[]:=by
 cases n with
 | zero=>simp[zgT]
 | succ n=>simp only[zgT];split <;> simp
def zdt (t:Text) (k:Nat):List (List Str):=((t.chapters[k]?).map (·.lines)).getD []
def ziz (t:Text) (k n:Nat):List Str:=((zdt t k)[n]?).getD []
def mkP (k n w:Nat):Place:=⟨k,n,w⟩
def zlE (t:Text) (k n:Nat):List Place:=(List.range (ziz t k n).length).map (mkP k n)
def zkV (t:Text) (k:Nat):List Place:=(List.range (zdt t k).length).flatMap (zlE t k)
def zbJ (t:Text):List Place:=(List.range t.chapters.length).flatMap (zkV t)
theorem zgW {t:Text} {k:Nat} (h:t.chapters[k]?=some c):zdt t k=c.lines:=by simp[zdt,h]
theorem zhp {t:Text} {k: Nat} (h:t.chapters[k]?=some c) (h2:c.lines[n]?=some ln):ziz t k n=ln:=by simp[ziz,zgW h,h2]
theorem zfD {f:Nat→List α} {c:Nat} (h:∀ k,(f k).length≤c) (n:Nat):((List.range n).flatMap f).length≤c*n:=by
 induction n with
 | zero=>simp
 | succ n ih=>
  rw[zdb,zfi,zj];have:=h n;simp only[zhA,List.flatMap_nil,zbL];rw[Nat.mul_succ];omega
theorem zis {t:Text} (ht:zcz t=true) (k n:Nat):(ziz t k n).length≤10:=by
 unfold ziz zdt;simp only[zcz,zK,zal] at ht;cases hc:t.chapters[k]? with
 | none=>simp
 | some c=>
  have h1:=ht.1.2 _ (zD hc);simp only[zeC,zK,zal] at h1;simp only[zck,zdK];cases hl:c.lines[n]? with
  | none=>simp
  | some ln=>
   have h2:=h1.2 _ (zD hl);simp only[zmh,zK,inB,zX] at h2;simp only[zdK];omega
theorem ziR {t:Text} (ht:zcz t=true) (k:Nat):(zdt t k).length≤10:=by
 unfold zdt;simp only[zcz,zK,zal] at ht;cases hc:t.chapters[k]? with
 | none=>simp
 | some c=>
  have h1:=ht.1.2 _ (zD hc);simp only[zeC,zK,inB,zX] at h1;simp only[zck,zdK];omega
theorem zgY {t:Text} (ht:zcz t=true):t.chapters.length≤6:=by
 simp only[zcz,zK,inB,zX] at ht;omega
theorem zlY {t:Text} (ht:zcz t=true) (k n:Nat):(zlE t k n).length≤10:=by
 rw[zlE,zaa,zfn];exact zis ht k n
theorem zjT {t:Text} (ht:zcz t=true) (k:Nat):(zkV t k).length≤100:=by
 have h1:=zfD (zlY ht k) (zdt t k).length;have h2:=ziR ht k;rw[zkV];omega
theorem zgi {t:Text} (ht:zcz t=true):(zbJ t).length≤600:=by
 have h1:=zfD (zjT ht) t.chapters.length;have h2:=zgY ht;rw[zbJ];omega
theorem zwK {t:Text} {k w: Nat} (hc:t.chapters[k]?=some c) (hl:c.lines[n]?=some ln) (hw:w<ln.length):zeb t (mkP k n w)=true:=by
 have h0:ln[w]?=some ln[w]:=zn hw;simp[zeb,znn,zdw,mkP,hc,hl,h0]
theorem zzf {t:Text} {k w: Nat} (hc:t.chapters[k]?=some c) (hl:c.lines[n]?=some ln) (hw:ln[w]?=some s):zbY t (mkP k n w)=s:=by
 simp[zbY,znn,zdw,mkP,hc,hl,hw]
theorem zph {t:Text} {k: Nat} (hc:t.chapters[k]?=some c) (hl:c.lines[n]?=some ln) {w:Nat} (hw:w=ln.length):(List.range w).map (mkP k n)=zlE t k n:=by
 rw[zlE,zhp hc hl,hw]
theorem zpm {t:Text} {k:Nat} (hc:t.chapters[k]?=some c) (hn:n=c.lines.length):(List.range n).flatMap (zlE t k)=zkV t k:=by
 rw[zkV,zgW hc,hn]
theorem zeR (f:Nat→List α) (n:Nat):(List.range (n+1)).flatMap f=(List.range n).flatMap f++f n:=by
 rw[zdb,zfi];simp
theorem zlC {t:Text} (h:p∈zbJ t):zeb t p=true:=by
 obtain ⟨k,hk,h⟩:=zeh.1 h;obtain ⟨n,hn,h⟩:=zeh.1 h;obtain ⟨w,hw,rfl⟩:=zbk.1 h;have hk':=zbZ.1 hk;have hc:t.chapters[k]?=some t.chapters[k]:=zn hk';rw[zgW hc] at hn;have hn':=zbZ.1 hn;have hl:t.chapters[k].lines[n]?=some t.chapters[k].lines[n]:=zn hn';rw[zhp hc hl] at hw;exact zwK hc hl (zbZ.1 hw)
def zkI (t:Text) (x:Lexicon) (p:Place):Head:=(zhz x p (zbY t p)).to
def zlZ (t:Text) (x:Lexicon) (p:Place):Entry:=⟨p,zbY t p,zkI t x p⟩
def zhN (t:Text) (x:Lexicon):List Entry:=(zbJ t).map (zlZ t x)
def zeB (t:Text) (x:Lexicon):List Head:=(zbJ t).map (zkI t x)
def zxb (x:Lexicon) (wd:Str):Decision:={ zhV with to:=⟨((zgT x.rules 4 wd).getLast?).getD [],0⟩ }
def ztQ (p:Place) (wd:Str) (b d:Decision):Decision:=if zij d p wd=true∧(b.number=0∨zoi d b=true) then d else b
def zpL (x:Lexicon) (l:List Decision) (p:Place) (wd:Str):Decision:=l.foldl (ztQ p wd) (zxb x wd)
theorem zue {β: Type} (f:α→β) {l:List α} (h:(l.map f).Nodup):l.Nodup:=(List.pairwise_map.1 h).imp (fun h e=>h (by rw[e]))
theorem zwt (hx:OkD x):(zhq x).Perm ((zkq x).map (·.2)):=by
 have hs:=(zoy hx.1 999).1;have hnd:((zhq x).map (·.number)).Nodup:=hs.imp (fun h=>by omega);have h1:(zhq x).Nodup:=zue _ hnd;have h2:((zkq x).map (·.2)).Nodup:=zue _ (zpV hx);rw[List.perm_ext_iff_of_nodup h1 h2];intro d;constructor
 ·intro hd;obtain ⟨n,_,hd'⟩:=zeh.1 hd;obtain ⟨h1,_,h3⟩:=standAt_mem.1 hd';exact zbk.2 ⟨zlD d,zbk.2 ⟨d,zcl.2 ⟨(ziH x).mem_iff.2 h1,h3⟩,rfl⟩,rfl⟩
 intro hd;obtain ⟨p,hp,rfl⟩:=zbk.1 hd;obtain ⟨h1,h2,h3⟩:=zoZ hp;have h4:=hx.2 _ h1;exact zeh.2 ⟨(p.2.number-1).toNat,zbZ.2 zW,standAt_mem.2 ⟨h1,by omega,h3⟩⟩
theorem zFm (p:Place) (wd:Str) (l:List Decision) (b:Decision):l.foldl (ztQ p wd) b=(l.filter fun d=>zij d p wd).foldl (fun b d=>if b.number=0∨zoi d b=true then d else b) b:=by
 induction l generalizing b with
 | nil=>rfl
 | cons d l ih=>
  rw[zgC,ih,zbo]
  by_cases h:zij d p wd=true
  ·simp only[h,if_true,zgC,ztQ,true_and]
  ·simp only[h,if_false,ztQ,false_and,zbd]
theorem zAY {t:Text} (h:zcZ t x=0) (p:Place) (wd:Str):zpL x (zhq x) p wd=zhz x p wd:=by
 have hx:=zwN h;have hs:=(zoy hx.1 999).1;have hperm:((zhq x).filter fun d=>zij d p wd).Perm (zvg x p wd):=(zwt hx).filter _;have hp1:∀ y∈zvg x p wd,1≤y.number:=by
  intro y hy;obtain ⟨q,hq,rfl⟩:=zbk.1 (zcl.1 hy).1;exact (hx.2 _ (zoZ hq).1).1
 have hn1:((zvg x p wd).map (·.number)).Nodup:=(zdC.map _).nodup (zpV hx);have hpw:((zhq x).filter fun d=>zij d p wd).Pairwise fun a b=>a.number<b.number:=(List.pairwise_map.1 hs).sublist zdC;have hb:=zBo (fun y hy=>hp1 y (hperm.mem_iff.1 hy)) hpw;rw[zsa hperm hp1 hn1] at hb;unfold zpL;rw[zFm];cases e:(zhq x).filter fun d=>zij d p wd with
 | nil=>
  rw[e] at hb hperm;have:zvg x p wd=[]:=hperm.symm.eq_nil;simp[zhz,this,zcB,zxb,zhV]
 | cons d l=>
  rw[e] at hb hperm;have h1:zcB (zvg x p wd)∈zvg x p wd:=(znY hp1 (by intro q;rw[q] at hperm;exact absurd hperm.eq_nil (by simp))).2;have h2:=hp1 _ h1;rw[zhz,zam zW,← hb];simp[zxb,zhV]
def zIk (t:Text) (x:Lexicon) (p:Place):Decision:=if zcZ t x=0∧zeb t p=true then zhz x p (zbY t p) else zhV
theorem zrA {rs:List Rule}:∀ (n:Nat) (w:Str),w.length≤12→∀ s∈zgT rs n w,s.length≤12
 | 0,w,h,s,hs=>by simp[zgT] at hs;subst hs;exact h
 | n+1,w,h,s,hs=>by
  simp only[zgT] at hs;split at hs
  ·simp at hs;subst hs;exact h
  ·rename_i u hu
   rcases zaV.1 hs with rfl|hs
   ·exact h
   ·obtain ⟨r,_,hr⟩:=List.exists_of_findSome?_eq_some hu;exact zrA n u (zwS hr) s hs
theorem zyg {h:Head} (hv:zlo h=true):h.stem.length≤12∧0≤h.mark∧h.mark≤3:=by
 simp only[zlo,zK,inB,zX] at hv;exact ⟨ztM hv.1,hv.2.1,hv.2.2⟩
theorem zFq {t:Text} (h:zbE t d=true) (hc:zij d p wd=true):zlo d.to=true:=by
 simp only[zbE,zK] at h;have h:=h.2;unfold zij at hc
 by_cases k1:d.kind=1
 ·simp only[k1,if_true,zK] at h;exact h.1.2
 by_cases k2:d.kind=2
 ·simp[k2] at h;exact h.1.2
 by_cases k3:d.kind=3
 ·simp[k3] at h;exact h.1.2
 simp[k1,k2,k3] at hc
theorem zzg {t:Text} (hx:zcZ t x=0) (hp:zeb t p=true):(zhz x p (zbY t p)).to.stem.length≤12∧0≤(zhz x p (zbY t p)).to.mark∧(zhz x p (zbY t p)).to.mark≤3:=by
 unfold zhz;split
 ·refine ⟨?_,by simp,by simp⟩;have hw:=zqh (zei hx) hp;cases e:(zgT x.rules 4 (zbY t p)).getLast? with
  | none=>simp
  | some s=>exact zrA 4 _ hw s (zii e)
 rename_i h0
 rcases zrc (zvg x p (zbY t p)) with h|h
 ·rw[h] at h0;exact absurd rfl h0
 obtain ⟨h1,h2⟩:=zcl.1 h;obtain ⟨q,hq,e⟩:=zbk.1 h1;have h3:=(zsh hx hq).1;rw[e] at h3;exact zyg (zFq h3 h2)
end Go.Pk
