/- A PART OF THE PROOF: contracts of functions. -/
import Derived.Test.YtjkkoclmagdpoaaGreatDoorT8
set_option linter.all false
set_option maxRecDepth 4000
set_option maxHeartbeats 4000000
namespace Go.Pk
open Go Go.RowKit Go.Proofs
variable {xs:List Entry} {v s_v t_v0 x_v0 x_v1:Value} {g:FuncId} {h h0:Heap} {w w0:World} {o s_o:List (Nat×Obj)} {i:Nat} {rest:Own} {s:(List Str)} {x:Lexicon} {hd:Head}
theorem zku {caps:List Value} (S:Nat→Heap→World→Prop) (p:Nat→Bool) (hS:∀ k h w,S k h w→Sub h w∧Sl ziY h v xs) (hf:∀ k x h w vs,S k h w→xs[k]?=some x→ziY.R h vs x→∀ u,u=.agg vs.toArray→Calls Tryz.prog g (u::caps).toArray w (fun e w'=>∃ h',e=.returned (.bool (p k))∧S (k+1) h' w')) (hg:∀ a w,(callFunc g a).run Tryz.prog w=.ok (.enter g a) w) (h0:S 0 h w):
  Calls Tryz.prog 183 #[v,.func (.func g) #[] caps.toArray] w (fun e w'=>∃ h' k,e=.returned (iV (if k<xs.length then (k:Int) else -1))∧k≤xs.length∧(∀ j,j<k→p j=false)∧(k<xs.length→p k=true)∧S (if k<xs.length then k+1 else k) h' w'):=by
 refine zg 19 Tryz.func183 K<|have hb:=(hS 0 h w h0).2.le;zw<|U K<|D<|zav<|zk v K<|zG (hS 0 h w h0).2 zef K<|N K<|D<|zT ?_;refine zaI ([4,5]++zbP 8 11) (G:=Nat×Heap) (fun ⟨k,_⟩=>[(8,iV (k:Int))]) (fun ⟨k,h'⟩ w'=>S k h' w'∧k≤xs.length∧∀ j,j<k→p j=false) (fun ⟨k,_⟩=>xs.length-k) ⟨0,h⟩ ⟨rfl,trivial⟩ ⟨h0,by omega,by intros;omega⟩ ?_;rintro ⟨k,F⟩ _ I ⟨A,hk,hp⟩;obtain ⟨hsub,hsl⟩:=hS k F I A;refine zw<|zM K<|D<|zaM<|zaD K (fun B=>?_) (fun B=>?_)
 ·replace B:=znP B;refine zaS<|zT<|zw<|N K<|U K<|D<|zw<|znJ K K<|zk v K<|N K ?_;have hy:∃ y,xs[k]?=some y:=⟨_,zn zW⟩;obtain ⟨y,hy⟩:=hy;obtain ⟨b,o,vs,he,hc,hr⟩:=Sl.elem hsl hy;refine zx he zef zfP K<|zmR hsub hc K zmM zfP (ziY.len hr) K ?_;refine zcG K K (zfk (fs:=[]) (cs:=caps) K K hg K) ((hf k y F I _ A hy hr _ K).mono ?_);rintro e Q ⟨L,rfl,C⟩;refine ⟨_,K,?_⟩;refine D<|zaD K (fun H=>?_) (fun H=>?_)
  ·refine zaM ?_;refine zah<|N K<|U K<|ze ?_
   repeat (first|refine zgE ?_|refine zN ?_)
   refine zf Tryz.results183 ?_;have hlt:k<xs.length:=by omega
   exact ⟨L,k,by rw[zab hlt];rfl,hk,hp,fun _=>H,by rw[zab hlt];exact C⟩
  ·refine zbO ?_;refine zaF ?_;refine zax rfl rfl (zkU rfl rfl zW) ?_;refine N K<|D ?_;refine ⟨⟨k+1,L⟩,⟨rfl,trivial⟩,?_,⟨C,by omega,?_⟩,?_⟩
   ·exact zba
   ·intro j hj
    rcases zcO j k with P|P
    ·exact hp j P
    ·obtain rfl:j=k:=by omega
     exact H
   ·show xs.length-(k+1)<xs.length-k;omega
 ·replace B:=znh B;refine zdx<|zF<|zw<|U K<|ze<|zf Tryz.results183 ?_;have hlt:¬ k<xs.length:=by omega
  exact ⟨F,k,by rw[zam hlt];rfl,hk,hp,fun q=>absurd q hlt,by rw[zam hlt];exact A⟩
theorem zkk {caps:List Value} {own:Own} (st:St h0 w0 h w own) (hO:OSl ziY 181 h v xs o) (hi:own[i]?=some o) (hb:xs.length≤281474976710656) (q:Entry→Bool) (hg:∀ a w,(callFunc g a).run Tryz.prog w=.ok (.enter g a) w) (hf:∀ x h' w' vs,Le h h'→Sub h' w'→x∈xs→ziY.R h' vs x→∀ u,u=.agg vs.toArray→Calls Tryz.prog g (u::caps).toArray w' (zbH h' w' fun _ _ r=>r=.bool (q x))):
  Calls Tryz.prog 183 #[v,.func (.func g) #[] caps.toArray] w (fun e w'=>∃ k,e=.returned (iV (if k<xs.length then (k:Int) else -1))∧k≤xs.length∧(∀ j x,j<k→xs[j]?=some x→q x=false)∧(∀ x,xs[k]?=some x→q x=true)∧St h0 w0 h w' own):=by
 obtain ⟨hall,hx⟩:=OSl.whole st hO hi hb;refine (zku (fun k h' w'=>St (zmj w) w h' w' []∧k≤xs.length) (fun k=>((xs[k]?).map q).getD false) (fun k h' w' hk=>⟨hk.1.sub,hx.up hk.1.le⟩) ?_ hg ⟨St.start (ztm w),zfg _⟩).mono ?_
 ·rintro k x h' w' vs ⟨st',_⟩ hk hr u hu;refine (hf x h' w' vs (hall.trans st'.le) st'.sub (zD hk) hr u hu).mono ?_;rintro e w'' ⟨h'',r,rfl,s,rfl⟩;obtain ⟨hlt,_⟩:=k_List_getElem__eq_some_iff.1 hk;exact ⟨h'',by simp[hk],st'.call0 s,hlt⟩
 ·rintro e w' ⟨h',k,rfl,A,B,C,F⟩;refine ⟨k,K,A,fun j x hj hx=>?_,fun x hx=>?_,st.call0 (St.thaw F.1 st.sub)⟩
  ·have:=B j hj;simpa [hx] using this
  ·obtain ⟨hlt,_⟩:=k_List_getElem__eq_some_iff.1 hx;have:=C hlt;simpa [hx] using this
theorem zmb {xs:List Str} {caps:List Value} {own:Own} (st:St h0 w0 h w own) (hO:OSl zea 9 h v xs o) (hi:own[i]?=some o) (hb:xs.length≤281474976710656) (q:Str→Bool) (hg:∀ a w,(callFunc g a).run Tryz.prog w=.ok (.enter g a) w) (hf:∀ x h' w' vs,Le h h'→Sub h' w'→x∈xs→zea.R h' vs x→∀ u,vs=[u]→Calls Tryz.prog g (u::caps).toArray w' (zbH h' w' fun _ _ r=>r=.bool (q x))):
  Calls Tryz.prog 197 #[v,.func (.func g) #[] caps.toArray] w (fun e w'=>∃ k,e=.returned (iV (if k<xs.length then (k:Int) else -1))∧k≤xs.length∧(∀ j x,j<k→xs[j]?=some x→q x=false)∧(∀ x,xs[k]?=some x→q x=true)∧St h0 w0 h w' own):=by
 obtain ⟨hall,hx⟩:=OSl.whole st hO hi hb;refine (zjr (fun k h' w'=>St (zmj w) w h' w' []∧k≤xs.length) (fun k=>((xs[k]?).map q).getD false) (fun k h' w' hk=>⟨hk.1.sub,hx.up hk.1.le⟩) ?_ hg ⟨St.start (ztm w),zfg _⟩).mono ?_
 ·rintro k x h' w' vs ⟨st',_⟩ hk hr u hu;refine (hf x h' w' vs (hall.trans st'.le) st'.sub (zD hk) hr u hu).mono ?_;rintro e w'' ⟨h'',r,rfl,s,rfl⟩;obtain ⟨hlt,_⟩:=k_List_getElem__eq_some_iff.1 hk;exact ⟨h'',by simp[hk],st'.call0 s,hlt⟩
 ·rintro e w' ⟨h',k,rfl,A,B,C,F⟩;refine ⟨k,K,A,fun j x hj hx=>?_,fun x hx=>?_,st.call0 (St.thaw F.1 st.sub)⟩
  ·have:=B j hj;simpa [hx] using this
  ·obtain ⟨hlt,_⟩:=k_List_getElem__eq_some_iff.1 hx;have:=C hlt;simpa [hx] using this
theorem zkM {s:(List Entry)} (s_f:OSl ziY 181 h s_v s s_o) {caps:List Value} (q:Entry→Bool) (hb:s.length≤281474976710656) (hg:∀ a w,(callFunc g a).run Tryz.prog w=.ok (.enter g a) w) (hf:∀ x h' w' vs,Le h h'→Sub h' w'→x∈s→ziY.R h' vs x→∀ u,u=.agg vs.toArray→Calls Tryz.prog g (u::caps).toArray w' (zbH h' w' fun _ _ r=>r=.bool (q x))) (st0:St h0 w0 h w (s_o::rest)):Calls Tryz.prog 132 #[s_v,.func (.func g) #[] caps.toArray] w (fun e_ w'=>∃ h' s_o' v',e_=.returned v'∧Le h h'∧St h0 w0 h' w' (s_o'::rest)∧OSl ziY 181 h' v' (s.filter fun x=>!q x) s_o'):=by
 refine zg 42 Tryz.func132 K<|zw<|zdD K K<|D<|zw<|zk s_v K<|zrw K K<|zcG K K (zcT K Tryz.call183 K) ((zkk (i:=0) st0 s_f K hb q hg (fun x h1 w1 vs le_=>hf x h1 w1 vs ((Le.refl _).trans le_))).mono ?_);rintro _ w1 ⟨kq,rfl,c2,l,a8,m⟩;refine ⟨_,K,?_⟩;obtain ⟨rq,hrq⟩:∃ r:Int,r=if kq<s.length then (kq:Int) else -1:=⟨_,rfl⟩;rw[← hrq];refine U K<|D<|zav<|N K<|zgL K K K<|D<|zV K (fun c9=>?_) (fun c9=>?_)
 ·refine zw<|zk s_v K<|zH s_v K<|ze<|zN<|zf Tryz.results132<|⟨h,_,_,K,(Le.refl _),m,OSl.to s_f ?_⟩;exact (zvL (fun j x hj hx=>l j x (by by_cases q:kq<s.length;(rw[zab q] at hrq;have q2:=c9;omega);omega) hx)).symm
 refine zaS<|zaM ?_;have hk:kq<s.length:=by
  by_cases q:kq<s.length
  ·exact q
  ·rw[zam q] at hrq;exact absurd hrq c9
 rw[zab hk] at hrq;refine zah<|N K<|zo K zbj<|U K<|D<|zT ?_;refine zaI ([0,5,6,7]++zbP 16 20) (G:=Nat×Nat×List Entry×Value×List (Nat×Obj)×Heap) (fun ⟨i,j,ys,A,L,H⟩=>[(0,A),(5,iV (i:Int)),(6,iV (j:Int))]) (fun ⟨i,j,ys,A,L,H⟩ w'=>Le h H∧St h0 w0 H w' (L::rest)∧(OSl ziY 181 H A ys L)∧(DelF q s ys i j)∧(ys.length=s.length∧i≤j∧j≤s.length)) (fun ⟨i,j,ys,A,L,H⟩=>s.length-j) ⟨kq,kq+1,s,s_v,s_o,h⟩ ⟨rfl,(zan zW),(zan zW),trivial⟩ ⟨Le.refl _,m,(OSl.to s_f (by rfl)),(by exact DelF.start l a8 hk),(by exact ⟨rfl,by omega,by omega⟩)⟩ ?_;rintro ⟨i,j,ys,A,L,H⟩ _ c3 ⟨I,P,B,hD,hyl⟩;refine zav<|N K<|zk A K<|zlW B K zef K<|zM K<|D<|zV K (fun a9=>?_) (fun a9=>?_)
 ·refine zaS<|zT<|zw<|zk A K<|N K ?_;obtain ⟨y,hy⟩:∃ y_,(ys)[j]?=some y_:=zdl zW;obtain ⟨n,c4,Q,_,b0,o,hr_y,p⟩:=OSl.elem B hy;subst b0;obtain ⟨rfl,v,z,b9⟩:=hr_y;simp only[big] at v;simp only[big] at z;refine zx o zef zfP K<|zU K (zmT (P.get (k:=0) K) p K zmM zfP K)<|zhy P Tryz.zeroValue181 K K K (us:=[iV y.at_.chapter,iV y.at_.line,iV y.at_.word,zae y.word,zae y.head.stem,.int .u8 y.head.mark]) (fun _=>K) K zfP K<|fun c5 c6 c7 C b S=>D<|zw<|zrw K K<|E S.sub b zmM zfP K ?_;refine zcG K K (zfk (fs:=[]) (cs:=caps) K K hg K) ((hf y _ _ _ (I.t C) S.sub (zD (hD.get hy)) ⟨rfl,zcn,zcn,zfb⟩ _ K).mono ?_);rintro _ c8 ⟨a6,_,rfl,a7,rfl⟩;refine ⟨_,K,?_⟩;have T:=S.call0 a7;have F:=a7.le;refine zdJ K K<|D<|zaD K (fun d=>?_) (fun d=>?_)
  ·refine zw<|zk A K<|N K<|E T.sub (b.up F) zmM zfP K ?_;obtain ⟨y2,b1⟩:∃ y_,(ys)[i]?=some y_:=zdl zW;obtain ⟨b2,d0,e,_,b3,c,f,c0⟩:=OSl.elem (B.up (C.t F)) b1;obtain ⟨a0,a1⟩:n=b2∧Q=e:=by cases b3;exact ⟨rfl,rfl⟩
   subst a0;subst a1;obtain ⟨rfl,a2,a3,c1⟩:=f;simp only[big] at a2;simp only[big] at a3;refine zax rfl rfl (zcD c rfl rfl (hk:=(show _=((i:Nat):Int) by omega)) (hu:=zef) (hz:=zfP)) ?_;refine zuF (k:=0) T (B.up (C.t F)) rfl zW c rfl rfl (⟨rfl,zcn,zcn,zfb⟩) zfP ?_;intro b4 d1 _ b5 f50 a4;subst b5;refine D<|zah<|N K<|zo K zbj<|U K<|zl<|zaF<|N K<|zo K zbj<|U K<|D<|have b6:=(I.t C).t F;⟨⟨i+1,j+1,(ys.set i y),A,b4,a6⟩,⟨rfl,K,K,trivial⟩,?_,⟨b6,a4,?_,?_,?_⟩,?_⟩
   ·exact zba
   ·refine OSl.to f50 ?_;rfl
   ·exact hD.keep hy (by simpa using d)
   ·refine ⟨by first|(rw[zek];exact hyl.1)|exact hyl.1,by omega,by omega⟩
   show s.length-(j+1)<s.length-j;omega
  refine zbO<|zaF<|N K<|zo K zbj<|U K<|D<|have b7:=(I.t C).t F;⟨⟨i,j+1,ys,A,[(n,.cells Q 181)],a6⟩,⟨rfl,K,K,trivial⟩,?_,⟨b7,T,?_,?_,?_⟩,?_⟩
  ·exact zba
  ·refine OSl.to (B.up (C.t F)) ?_;rfl
  ·exact hD.skip hy (by simpa using d)
  ·refine ⟨by first|(rw[zek];exact hyl.1)|exact hyl.1,by omega,by omega⟩
  show s.length-(j+1)<s.length-j;omega
 refine zdx<|zF<|zw<|zk A K<|N K ?_;refine zax rfl rfl (zjA B rfl rfl (hk:=(show _=((i:Nat):Int) by omega)) zW zef zfP) ?_;refine znF (k:=0) (j:=i) P B rfl zW rfl zef Tryz.zeroValue181 rfl (by decide) ?_;intro d2 d3 _ b8 f57 a5;subst b8;refine D<|zw<|zk A K<|N K ?_;refine zax rfl rfl (zjE B rfl rfl (hk:=(show _=((i:Nat):Int) by omega)) zW zef zfP) ?_;refine zH (zrg A i) K<|ze<|zf Tryz.results132<|⟨H,_,_,K,I,a5,OSl.to f57 ?_⟩;exact hD.fin zW
theorem zmJ (s_f:OSl zea 9 h s_v s s_o) {caps:List Value} (q:Str→Bool) (hb:s.length≤281474976710656) (hg:∀ a w,(callFunc g a).run Tryz.prog w=.ok (.enter g a) w) (hf:∀ x h' w' vs,Le h h'→Sub h' w'→x∈s→zea.R h' vs x→∀ u,vs=[u]→Calls Tryz.prog g (u::caps).toArray w' (zbH h' w' fun _ _ r=>r=.bool (q x))) (st0:St h0 w0 h w (s_o::rest)):Calls Tryz.prog 194 #[s_v,.func (.func g) #[] caps.toArray] w (fun e_ w'=>∃ h' s_o' v',e_=.returned v'∧Le h h'∧St h0 w0 h' w' (s_o'::rest)∧OSl zea 9 h' v' (s.filter fun x=>!q x) s_o'):=by
 refine zg 42 Tryz.func194 K<|zw<|zdD K K<|D<|zw<|zk s_v K<|zrw K K<|zcG K K (zcT K Tryz.call197 K) ((zmb (i:=0) st0 s_f K hb q hg (fun x h1 w1 vs le_=>hf x h1 w1 vs ((Le.refl _).trans le_))).mono ?_);rintro _ w1 ⟨kq,rfl,b5,d,a3,e⟩;refine ⟨_,K,?_⟩;obtain ⟨rq,hrq⟩:∃ r:Int,r=if kq<s.length then (kq:Int) else -1:=⟨_,rfl⟩;rw[← hrq];refine U K<|D<|zav<|N K<|zgL K K K<|D<|zV K (fun c9=>?_) (fun c9=>?_)
 ·refine zw<|zk s_v K<|zH s_v K<|ze<|zN<|zf Tryz.results194<|⟨h,_,_,K,(Le.refl _),e,OSl.to s_f ?_⟩;exact (zvL (fun j x hj hx=>d j x (by by_cases q:kq<s.length;(rw[zab q] at hrq;have q2:=c9;omega);omega) hx)).symm
 refine zaS<|zaM ?_;have hk:kq<s.length:=by
  by_cases q:kq<s.length
  ·exact q
  ·rw[zam q] at hrq;exact absurd hrq c9
 rw[zab hk] at hrq;refine zah<|N K<|zo K zbj<|U K<|D<|zT ?_;refine zaI ([0,5,6,7]++zbP 16 20) (G:=Nat×Nat×List Str×Value×List (Nat×Obj)×Heap) (fun ⟨i,j,ys,A,L,F⟩=>[(0,A),(5,iV (i:Int)),(6,iV (j:Int))]) (fun ⟨i,j,ys,A,L,F⟩ w'=>Le h F∧St h0 w0 F w' (L::rest)∧(OSl zea 9 F A ys L)∧(DelF q s ys i j)∧(ys.length=s.length∧i≤j∧j≤s.length)) (fun ⟨i,j,ys,A,L,F⟩=>s.length-j) ⟨kq,kq+1,s,s_v,s_o,h⟩ ⟨rfl,(zan zW),(zan zW),trivial⟩ ⟨Le.refl _,e,(OSl.to s_f (by rfl)),(by exact DelF.start d a3 hk),(by exact ⟨rfl,by omega,by omega⟩)⟩ ?_;rintro ⟨i,j,ys,A,L,F⟩ _ b6 ⟨H,I,B,hD,hyl⟩;refine zav<|N K<|zk A K<|zlW B K zJ K<|zM K<|D<|zV K (fun a4=>?_) (fun a4=>?_)
 ·refine zaS<|zT<|zw<|zk A K<|N K ?_;obtain ⟨y,hy⟩:∃ y_,(ys)[j]?=some y_:=zdl zW;obtain ⟨f,b7,P,_,a5,l,hr_y,m⟩:=OSl.elem B hy;subst a5;obtain ⟨rfl,n⟩:=hr_y;simp only[big] at n;refine zx l zJ zap K<|zU K (zjv (j:=0) (I.get (k:=0) K) m K K K zaZ)<|zhW K K<|D<|zw<|zrw K K<|zfv K K ?_;refine zcG K K (zfk (fs:=[]) (cs:=caps) K K hg K) ((hf y _ _ _ H I.sub (zD (hD.get hy)) ⟨rfl,zcn⟩ _ K).mono ?_);rintro _ b8 ⟨o,_,rfl,p,rfl⟩;refine ⟨_,K,?_⟩;have Q:=I.call0 p;have C:=p.le;refine zdJ K K<|D<|zaD K (fun T=>?_) (fun T=>?_)
  ·refine zw<|zk A K<|N K<|zfv K K ?_;obtain ⟨y2,a6⟩:∃ y_,(ys)[i]?=some y_:=zdl zW;obtain ⟨a7,b9,b,_,a8,S,c,b4⟩:=OSl.elem (B.up C) a6;obtain ⟨v,z⟩:f=a7∧P=b:=by cases a8;exact ⟨rfl,rfl⟩
   subst v;subst z;obtain ⟨rfl,a0⟩:=c;simp only[big] at a0;refine zax rfl rfl (zcD S rfl rfl (hk:=(show _=((i:Nat):Int) by omega)) (hu:=zJ) (hz:=zap)) ?_;refine ztb (k:=0) Q (B.up C) rfl zW S rfl rfl (⟨rfl,zcn⟩) zap ?_;intro a9 c0 _ b0 f40 a1;subst b0;refine D<|zah<|N K<|zo K zbj<|U K<|zl<|zaF<|N K<|zo K zbj<|U K<|D<|have b1:=H.t C;⟨⟨i+1,j+1,(ys.set i y),A,a9,o⟩,⟨rfl,K,K,trivial⟩,?_,⟨b1,a1,?_,?_,?_⟩,?_⟩
   ·exact zba
   ·refine OSl.to f40 ?_;rfl
   ·exact hD.keep hy (by simpa using T)
   ·refine ⟨by first|(rw[zek];exact hyl.1)|exact hyl.1,by omega,by omega⟩
   show s.length-(j+1)<s.length-j;omega
  refine zbO<|zaF<|N K<|zo K zbj<|U K<|D<|have b2:=H.t C;⟨⟨i,j+1,ys,A,[(f,.cells P 9)],o⟩,⟨rfl,K,K,trivial⟩,?_,⟨b2,Q,?_,?_,?_⟩,?_⟩
  ·exact zba
  ·refine OSl.to (B.up C) ?_;rfl
  ·exact hD.skip hy (by simpa using T)
  ·refine ⟨by first|(rw[zek];exact hyl.1)|exact hyl.1,by omega,by omega⟩
  show s.length-(j+1)<s.length-j;omega
 refine zdx<|zF<|zw<|zk A K<|N K ?_;refine zax rfl rfl (zjA B rfl rfl (hk:=(show _=((i:Nat):Int) by omega)) zW zJ zap) ?_;refine znF (k:=0) (j:=i) I B rfl zW rfl zJ Tryz.zeroValue9 rfl (by decide) ?_;intro c1 c2 _ b3 f47 a2;subst b3;refine D<|zw<|zk A K<|N K ?_;refine zax rfl rfl (zjE B rfl rfl (hk:=(show _=((i:Nat):Int) by omega)) zW zJ zap) ?_;refine zH (zrg A i) K<|ze<|zf Tryz.results194<|⟨F,_,_,K,H,a2,OSl.to f47 ?_⟩;exact hD.fin zW
theorem zms {s:(List Head)} (s_f:OSl zhb 38 h s_v s s_o) (hb:s.length≤281474976710656) (st0:St h0 w0 h w (s_o::rest)):Calls Tryz.prog 123 #[s_v] w (fun e_ w'=>∃ h' s_o' v',e_=.returned v'∧Le h h'∧St h0 w0 h' w' (s_o'::rest)∧OSl zhb 38 h' v' (zgG s) s_o'):=by
 refine zg 61 Tryz.func123 K<|zw<|zdD K K<|D<|zav<|zk s_v K<|zlW s_f K zat K<|zM K<|D<|zV K (fun c1=>?_) (fun c1=>?_)
 ·refine zw<|zk s_v K<|zH s_v K<|ze<|zN<|zf Tryz.results123<|⟨h,_,_,K,(Le.refl _),st0,OSl.to s_f ?_⟩;exact (zxk zW).symm
 refine zaS<|zw<|U K<|D<|zT ?_;refine zaI ([2,3,4,5]++zbP 10 50) (G:=Nat×List (Nat×Obj)×Heap) (fun ⟨k,B,e⟩=>[(3,iV (k:Int))]) (fun ⟨k,B,e⟩ w'=>Le h e∧St h0 w0 e w' (B::rest)∧(OSl zhb 38 e s_v s B)∧(1≤k∧k≤s.length)∧(zgG (s.take k)=s.take k)) (fun ⟨k,B,e⟩=>s.length-k) ⟨1,s_o,h⟩ ⟨rfl,trivial⟩ ⟨Le.refl _,st0,(OSl.to s_f (by rfl)),(by exact ⟨by omega,by omega⟩),(by exact zBg zW)⟩ ?_;rintro ⟨k,B,e⟩ _ w5 ⟨l,S,A,hk,hc⟩;refine zav<|N K<|zk s_v K<|zlW A K zat K<|zM K<|D<|zV K (fun c6=>?_) (fun c6=>?_)
 ·refine zaS<|zT<|zaM<|zcY zbh zch (Cls e _) (Cls.drew S)<|zbr s_v K<|zew K K ?_;obtain ⟨y,hy⟩:∃ y_,(s)[k]?=some y_:=zdl zW;obtain ⟨b7,o8,T,_,d1,a1,hr_y,a2⟩:=OSl.elem A hy;subst d1;obtain ⟨rfl,a3,e7⟩:=hr_y;simp only[big] at a3;refine zag a1 zat zaj K<|zbf K K (fun _ hC=>(zmT (hC.block (S.get (k:=0) K)) a2 K zcm zaj K))<|zbr s_v K<|zew K K<|zoW K K zbj K ?_;obtain ⟨z,hz⟩:∃ y_,(s)[k-1]?=some y_:=zdl zW;obtain ⟨d2,g4,m,_,d3,a4,hr_z,a5⟩:=OSl.elem A hz;obtain ⟨a6,a7⟩:b7=d2∧T=m:=by cases d3;exact ⟨rfl,rfl⟩
  subst a6;subst a7;obtain ⟨rfl,a8,e8⟩:=hr_z;simp only[big] at a8;refine zbf rfl rfl (fun _ _=>(zcD a4 rfl rfl (hk:=(show _=((k-1:Nat):Int) by omega)) (hu:=zat) (hz:=zaj))) ?_;refine zbf K K (fun _ hC=>(zmT (hC.block (S.get (k:=0) K)) a5 K zcm zaj K))<|zbf K K (fun _ _=>(zjb K K zhR (Tryz.eq_Head y z)))<|zci ?_;rintro g5 ⟨n,Q⟩;have f:=S.call0 Q;refine zF<|zV K (fun o=>?_) (fun o=>?_)
  ·refine zw<|zk s_v K<|N K ?_;refine zax rfl rfl (zjA (A.up Q.le) rfl rfl (hk:=(show _=((k:Nat):Int) by omega)) zW zat zaj) ?_;refine zH (zmQ 2 s_v k) K<|D<|zav<|U K<|D<|zT ?_;refine zaI ([3,5]++zbP 29 25) (G:=Nat×Nat×List Head×List (Nat×Obj)×Heap) (fun ⟨i,C,ys,B,H⟩=>[(3,iV (i:Int)),(5,iV (C:Int))]) (fun ⟨i,C,ys,B,H⟩ w'=>Le n H∧St h0 w0 H w' (B::rest)∧(OSl zhb 38 H s_v ys B)∧(1≤C∧k+C≤s.length∧ys.length=s.length∧i+1≤k+C)∧(Comp s ys i (k+C))) (fun ⟨i,C,ys,B,H⟩=>s.length-(k+C)) ⟨k,1,s,[(b7,.cells T 38)],n⟩ ⟨rfl,rfl,trivial⟩ ⟨Le.refl _,f,(OSl.to (A.up Q.le) (by rfl)),(by exact ⟨by omega,by omega,rfl,by omega⟩),(by exact Comp.start hz hy hk.1 hc (by simpa using o))⟩ ?_;rintro ⟨i,C,ys,B,H⟩ _ g6 ⟨a,I,A,g7,hD⟩;refine zav<|N K<|zk (zmQ 2 s_v k) K<|zU K (zvF K (OSl.form A) zat)<|zM K<|D<|zV K (fun d4=>?_) (fun d4=>?_)
   ·refine zaS<|zT<|zaM<|zcY zbh zch (Cls H _) (Cls.drew I)<|zbr (zmQ 2 s_v k) K<|zew K K ?_;obtain ⟨y2,c⟩:∃ y_,(ys)[k+C]?=some y_:=zdl zW;obtain ⟨d,g8,F,_,d5,a9,P,b0⟩:=OSl.elem A c;subst d5;obtain ⟨rfl,b1,e9⟩:=P;simp only[big] at b1;refine zbf rfl rfl (fun _ _=>(zcD (zqz.drop' (k:=k) (j:=C) a9 zW (OSl.caps A)) rfl rfl (hk:=rfl) (hu:=zat) (hz:=zaj))) ?_;refine zbf K K (fun _ hC=>(zmT (hC.block (I.get (k:=0) K)) b0 K zcm zaj K))<|zbr (zmQ 2 s_v k) K<|zew K K<|zoW K K zbj K ?_;obtain ⟨z2,p⟩:∃ y_,(ys)[k+C-1]?=some y_:=zdl zW;obtain ⟨d6,g9,q,_,d7,b2,r,b3⟩:=OSl.elem A p;obtain ⟨b4,b5⟩:d=d6∧F=q:=by cases d7;exact ⟨rfl,rfl⟩
    subst b4;subst b5;obtain ⟨rfl,b6,g0⟩:=r;simp only[big] at b6;refine zbf rfl rfl (fun _ _=>(zcD (zqz.drop' (k:=k) (j:=C-1) b2 zW (OSl.caps A)) rfl rfl (hk:=(show _=((C-1:Nat):Int) by omega)) (hu:=zat) (hz:=zaj))) ?_;refine zbf K K (fun _ hC=>(zmT (hC.block (I.get (k:=0) K)) b3 K zcm zaj K))<|zbf K K (fun _ _=>(zkG K K zhR (Tryz.eq_Head y2 z2)))<|zci ?_;rintro h1 ⟨d0,L⟩;have b:=I.call0 L;refine zF<|zV K (fun u=>?_) (fun u=>?_)
    ·refine zw<|zk s_v K<|N K<|zk (zmQ 2 s_v k) K<|N K ?_;obtain ⟨d8,h3,v,_,d9,b8,P,b9⟩:=OSl.elem (A.up L.le) c;obtain ⟨c0,c2⟩:d=d8∧F=v:=by cases d9;exact ⟨rfl,rfl⟩
     subst c0;subst c2;obtain ⟨rfl,c3,g1⟩:=P;simp only[big] at c3;refine zax rfl rfl (zcD (zqz.drop' (k:=k) (j:=C) b8 zW (OSl.caps (A.up L.le))) rfl rfl (hk:=rfl) (hu:=zat) (hz:=zaj)) ?_;refine zU K (zmT (b.get (k:=0) K) b9 K zcm zaj K) ?_;obtain ⟨u2,e0⟩:∃ y_,(ys)[i]?=some y_:=zdl zW;obtain ⟨e1,h4,x,_,e2,g,a0,g2⟩:=OSl.elem (A.up L.le) e0;obtain ⟨c4,c5⟩:d=e1∧F=x:=by cases e2;exact ⟨rfl,rfl⟩
     subst c4;subst c5;obtain ⟨rfl,c7,g3⟩:=a0;simp only[big] at c7;refine zax rfl rfl (zcD g rfl rfl (hk:=(show _=((i:Nat):Int) by omega)) (hu:=zat) (hz:=zaj)) ?_;refine zuF (k:=0) b (A.up L.le) rfl zW g rfl rfl (⟨rfl,zcn,zfb⟩) zaj ?_;intro e3 h5 _ e4 f81 c8;subst e4;refine D<|zah<|N K<|zo K zbj<|U K<|zl<|zaF<|N K<|zo K zbj<|U K<|D<|⟨⟨i+1,C+1,(ys.set i y2),e3,d0⟩,⟨rfl,K,trivial⟩,?_,⟨(a.trans L.le),c8,?_,?_,?_⟩,?_⟩
     ·exact zba
     ·refine OSl.to f81 ?_;rfl
     ·refine ⟨by omega,by omega,by first|(rw[zek];omega)|omega,by omega⟩
     ·exact hD.keep c p (by simpa using u)
     show s.length-(k+(C+1))<s.length-(k+C);omega
    refine zbO<|zaF<|N K<|zo K zbj<|U K<|D<|⟨⟨i,C+1,ys,[(d,.cells F 38)],d0⟩,⟨rfl,K,trivial⟩,?_,⟨(a.trans L.le),b,?_,?_,?_⟩,?_⟩
    ·exact zba
    ·refine OSl.to (A.up L.le) ?_;rfl
    ·refine ⟨by omega,by omega,by first|(rw[zek];omega)|omega,by omega⟩
    ·exact hD.skip c p (by simpa using u)
    show s.length-(k+(C+1))<s.length-(k+C);omega
   refine zdx<|zF<|zw<|zk s_v K<|N K ?_;refine zax rfl rfl (zjA A rfl rfl (hk:=(show _=((i:Nat):Int) by omega)) zW zat zaj) ?_;refine znF (k:=0) (j:=i) I A rfl zW rfl zat Tryz.zeroValue38 rfl (by decide) ?_;intro h6 h7 _ e5 f86 c9;subst e5;refine D<|zw<|zk s_v K<|N K ?_;refine zax rfl rfl (zjE A rfl rfl (hk:=(show _=((i:Nat):Int) by omega)) zW zat zaj) ?_;refine zH (zrg s_v i) K<|ze<|zaq<|zN<|zaq<|zf Tryz.results123<|⟨H,_,_,K,((l.trans Q.le).t a),c9,OSl.to f86 ?_⟩;exact hD.fin zW
  refine zbO<|zaF<|N K<|zo K zbj<|U K<|D<|have e6:=l.trans Q.le;⟨⟨k+1,[(b7,.cells T 38)],n⟩,⟨rfl,trivial⟩,?_,⟨e6,f,?_,?_,?_⟩,?_⟩
  ·exact zba
  ·refine OSl.to (A.up Q.le) ?_;rfl
  ·exact ⟨by omega,by omega⟩
  ·exact zyX hz hy hk.1 hc (by simpa using o)
  show s.length-(k+1)<s.length-k;omega
 refine zdx<|zF<|zw<|zk s_v K<|zH s_v K<|ze<|zf Tryz.results123<|⟨e,_,_,K,l,S,OSl.to A ?_⟩;rw[zS zW] at hc;exact hc.symm
theorem znI (s_f:OSl zea 9 h s_v s s_o) (hb:s.length≤281474976710656) (st0:St h0 w0 h w (s_o::rest)):Calls Tryz.prog 135 #[s_v] w (fun e_ w'=>∃ h' s_o' v',e_=.returned v'∧Le h h'∧St h0 w0 h' w' (s_o'::rest)∧OSl zea 9 h' v' (zgG s) s_o'):=by
 refine zg 61 Tryz.func135 K<|zw<|zdD K K<|D<|zav<|zk s_v K<|zlW s_f K zJ K<|zM K<|D<|zV K (fun c1=>?_) (fun c1=>?_)
 ·refine zw<|zk s_v K<|zH s_v K<|ze<|zN<|zf Tryz.results135<|⟨h,_,_,K,(Le.refl _),st0,OSl.to s_f ?_⟩;exact (zxk zW).symm
 refine zaS<|zw<|U K<|D<|zT ?_;refine zaI ([2,3,4,5]++zbP 10 50) (G:=Nat×List (Nat×Obj)×Heap) (fun ⟨k,B,e⟩=>[(3,iV (k:Int))]) (fun ⟨k,B,e⟩ w'=>Le h e∧St h0 w0 e w' (B::rest)∧(OSl zea 9 e s_v s B)∧(1≤k∧k≤s.length)∧(zgG (s.take k)=s.take k)) (fun ⟨k,B,e⟩=>s.length-k) ⟨1,s_o,h⟩ ⟨rfl,trivial⟩ ⟨Le.refl _,st0,(OSl.to s_f (by rfl)),(by exact ⟨by omega,by omega⟩),(by exact zBg zW)⟩ ?_;rintro ⟨k,B,e⟩ _ w5 ⟨l,S,A,hk,hc⟩;refine zav<|N K<|zk s_v K<|zlW A K zJ K<|zM K<|D<|zV K (fun c6=>?_) (fun c6=>?_)
 ·refine zaS<|zT<|zaM<|zcY zbh zch (Cls e _) (Cls.drew S)<|zbr s_v K<|zew K K ?_;obtain ⟨y,hy⟩:∃ y_,(s)[k]?=some y_:=zdl zW;obtain ⟨b7,o8,T,_,d1,a1,hr_y,a2⟩:=OSl.elem A hy;subst d1;obtain ⟨rfl,a3⟩:=hr_y;simp only[big] at a3;refine zag a1 zJ zap K<|zbf K K (fun _ hC=>(zjv (j:=0) (hC.block (S.get (k:=0) K)) a2 K K K zaZ))<|zbr s_v K<|zew K K<|zoW K K zbj K ?_;obtain ⟨z,hz⟩:∃ y_,(s)[k-1]?=some y_:=zdl zW;obtain ⟨d2,e8,m,_,d3,a4,hr_z,a5⟩:=OSl.elem A hz;obtain ⟨a6,a7⟩:b7=d2∧T=m:=by cases d3;exact ⟨rfl,rfl⟩
  subst a6;subst a7;obtain ⟨rfl,a8⟩:=hr_z;simp only[big] at a8;refine zbf rfl rfl (fun _ _=>(zcD a4 rfl rfl (hk:=(show _=((k-1:Nat):Int) by omega)) (hu:=zJ) (hz:=zap))) ?_;refine zbf K K (fun _ hC=>(zjv (j:=0) (hC.block (S.get (k:=0) K)) a5 K K K zaZ))<|zBC K K K<|zci ?_;rintro e9 ⟨n,Q⟩;have f:=S.call0 Q;refine zF<|zV K (fun o=>?_) (fun o=>?_)
  ·refine zw<|zk s_v K<|N K ?_;refine zax rfl rfl (zjA (A.up Q.le) rfl rfl (hk:=(show _=((k:Nat):Int) by omega)) zW zJ zap) ?_;refine zH (zmQ 1 s_v k) K<|D<|zav<|U K<|D<|zT ?_;refine zaI ([3,5]++zbP 29 25) (G:=Nat×Nat×List Str×List (Nat×Obj)×Heap) (fun ⟨i,C,ys,B,H⟩=>[(3,iV (i:Int)),(5,iV (C:Int))]) (fun ⟨i,C,ys,B,H⟩ w'=>Le n H∧St h0 w0 H w' (B::rest)∧(OSl zea 9 H s_v ys B)∧(1≤C∧k+C≤s.length∧ys.length=s.length∧i+1≤k+C)∧(Comp s ys i (k+C))) (fun ⟨i,C,ys,B,H⟩=>s.length-(k+C)) ⟨k,1,s,[(b7,.cells T 9)],n⟩ ⟨rfl,rfl,trivial⟩ ⟨Le.refl _,f,(OSl.to (A.up Q.le) (by rfl)),(by exact ⟨by omega,by omega,rfl,by omega⟩),(by exact Comp.start hz hy hk.1 hc (by simpa using o))⟩ ?_;rintro ⟨i,C,ys,B,H⟩ _ g0 ⟨a,I,A,g1,hD⟩;refine zav<|N K<|zk (zmQ 1 s_v k) K<|zU K (zvF K (OSl.form A) zJ)<|zM K<|D<|zV K (fun d4=>?_) (fun d4=>?_)
   ·refine zaS<|zT<|zaM<|zcY zbh zch (Cls H _) (Cls.drew I)<|zbr (zmQ 1 s_v k) K<|zew K K ?_;obtain ⟨y2,c⟩:∃ y_,(ys)[k+C]?=some y_:=zdl zW;obtain ⟨d,g2,F,_,d5,a9,P,b0⟩:=OSl.elem A c;subst d5;obtain ⟨rfl,b1⟩:=P;simp only[big] at b1;refine zbf rfl rfl (fun _ _=>(zcD (zqz.drop' (k:=k) (j:=C) a9 zW (OSl.caps A)) rfl rfl (hk:=rfl) (hu:=zJ) (hz:=zap))) ?_;refine zbf K K (fun _ hC=>(zjv (j:=0) (hC.block (I.get (k:=0) K)) b0 K K K zaZ))<|zbr (zmQ 1 s_v k) K<|zew K K<|zoW K K zbj K ?_;obtain ⟨z2,p⟩:∃ y_,(ys)[k+C-1]?=some y_:=zdl zW;obtain ⟨d6,g3,q,_,d7,b2,r,b3⟩:=OSl.elem A p;obtain ⟨b4,b5⟩:d=d6∧F=q:=by cases d7;exact ⟨rfl,rfl⟩
    subst b4;subst b5;obtain ⟨rfl,b6⟩:=r;simp only[big] at b6;refine zbf rfl rfl (fun _ _=>(zcD (zqz.drop' (k:=k) (j:=C-1) b2 zW (OSl.caps A)) rfl rfl (hk:=(show _=((C-1:Nat):Int) by omega)) (hu:=zJ) (hz:=zap))) ?_;refine zbf K K (fun _ hC=>(zjv (j:=0) (hC.block (I.get (k:=0) K)) b3 K K K zaZ))<|zbf K K (fun _ _=>(zpg K K))<|zci ?_;rintro g4 ⟨d0,L⟩;have b:=I.call0 L;refine zF<|zV K (fun u=>?_) (fun u=>?_)
    ·refine zw<|zk s_v K<|N K<|zk (zmQ 1 s_v k) K<|N K ?_;obtain ⟨d8,g5,v,_,d9,b8,P,b9⟩:=OSl.elem (A.up L.le) c;obtain ⟨c0,c2⟩:d=d8∧F=v:=by cases d9;exact ⟨rfl,rfl⟩
     subst c0;subst c2;obtain ⟨rfl,c3⟩:=P;simp only[big] at c3;refine zax rfl rfl (zcD (zqz.drop' (k:=k) (j:=C) b8 zW (OSl.caps (A.up L.le))) rfl rfl (hk:=rfl) (hu:=zJ) (hz:=zap)) ?_;refine zU K (zjv (j:=0) (b.get (k:=0) K) b9 K K K zaZ) ?_;obtain ⟨u2,e0⟩:∃ y_,(ys)[i]?=some y_:=zdl zW;obtain ⟨e1,g6,x,_,e2,g,a0,e7⟩:=OSl.elem (A.up L.le) e0;obtain ⟨c4,c5⟩:d=e1∧F=x:=by cases e2;exact ⟨rfl,rfl⟩
     subst c4;subst c5;obtain ⟨rfl,c7⟩:=a0;simp only[big] at c7;refine zax rfl rfl (zcD g rfl rfl (hk:=(show _=((i:Nat):Int) by omega)) (hu:=zJ) (hz:=zap)) ?_;refine ztb (k:=0) b (A.up L.le) rfl zW g rfl rfl (⟨rfl,zcn⟩) zap ?_;intro e3 g7 _ e4 f75 c8;subst e4;refine D<|zah<|N K<|zo K zbj<|U K<|zl<|zaF<|N K<|zo K zbj<|U K<|D<|⟨⟨i+1,C+1,(ys.set i y2),e3,d0⟩,⟨rfl,K,trivial⟩,?_,⟨(a.trans L.le),c8,?_,?_,?_⟩,?_⟩
     ·exact zba
     ·refine OSl.to f75 ?_;rfl
     ·refine ⟨by omega,by omega,by first|(rw[zek];omega)|omega,by omega⟩
     ·exact hD.keep c p (by simpa using u)
     show s.length-(k+(C+1))<s.length-(k+C);omega
    refine zbO<|zaF<|N K<|zo K zbj<|U K<|D<|⟨⟨i,C+1,ys,[(d,.cells F 9)],d0⟩,⟨rfl,K,trivial⟩,?_,⟨(a.trans L.le),b,?_,?_,?_⟩,?_⟩
    ·exact zba
    ·refine OSl.to (A.up L.le) ?_;rfl
    ·refine ⟨by omega,by omega,by first|(rw[zek];omega)|omega,by omega⟩
    ·exact hD.skip c p (by simpa using u)
    show s.length-(k+(C+1))<s.length-(k+C);omega
   refine zdx<|zF<|zw<|zk s_v K<|N K ?_;refine zax rfl rfl (zjA A rfl rfl (hk:=(show _=((i:Nat):Int) by omega)) zW zJ zap) ?_;refine znF (k:=0) (j:=i) I A rfl zW rfl zJ Tryz.zeroValue9 rfl (by decide) ?_;intro g8 g9 _ e5 f80 c9;subst e5;refine D<|zw<|zk s_v K<|N K ?_;refine zax rfl rfl (zjE A rfl rfl (hk:=(show _=((i:Nat):Int) by omega)) zW zJ zap) ?_;refine zH (zrg s_v i) K<|ze<|zaq<|zN<|zaq<|zf Tryz.results135<|⟨H,_,_,K,((l.trans Q.le).t a),c9,OSl.to f80 ?_⟩;exact hD.fin zW
  refine zbO<|zaF<|N K<|zo K zbj<|U K<|D<|have e6:=l.trans Q.le;⟨⟨k+1,[(b7,.cells T 9)],n⟩,⟨rfl,trivial⟩,?_,⟨e6,f,?_,?_,?_⟩,?_⟩
  ·exact zba
  ·refine OSl.to (A.up Q.le) ?_;rfl
  ·exact ⟨by omega,by omega⟩
  ·exact zyX hz hy hk.1 hc (by simpa using o)
  show s.length-(k+1)<s.length-k;omega
 refine zdx<|zF<|zw<|zk s_v K<|zH s_v K<|ze<|zf Tryz.results135<|⟨e,_,_,K,l,S,OSl.to A ?_⟩;rw[zS zW] at hc;exact hc.symm
theorem zsF (hs:Sub h w) {l_v:Value} {l:(List Str)} (l_f:Sl zea h l_v l) (s:Str) (s_le:s.length≤281474976710656) (hl:l.length≤400000):Calls Tryz.prog 125 #[l_v,zae s] w (zbH h w (fun h' _ res_=>∃ u0,res_=u0∧Sl zea h' u0 (zqn sLt l s))):=by
 refine zg 45 Tryz.func125 K<|have r7:=zcu hs;have l_f_b:=l_f.le;zw<|zdD K K<|D<|zw<|U K<|D<|zaM<|zT ?_;refine zaI (zbP 5 15) (G:=Nat×Heap) (fun ⟨k,u⟩=>[(5,iV (k:Int))]) (fun ⟨k,u⟩ w'=>Le h u∧St h w u w' []∧(k≤l.length)∧(∀ j Q,j<k→l[j]?=some Q→sLt Q s=true)) (fun ⟨k,u⟩=>l.length-k) ⟨0,h⟩ ⟨rfl,trivial⟩ ⟨Le.refl _,r7,zbB,(by intro j _ hj;omega)⟩ ?_;rintro ⟨k,u⟩ _ w4 ⟨A,B,hk,hb⟩;refine zav<|N K<|zk l_v K<|zG (l_f.up A) zJ K<|zM K<|zp K<|zaK (d:=10) K (fun g5=>?_) (fun g5=>?_)
 ·refine X K<|zk l_v K<|X K<|N K<|X K ?_;obtain ⟨y,hy⟩:∃ y_,(l)[k]?=some y_:=zdl zW;obtain ⟨b6,o7,_,p5,p6,hr_y⟩:=Sl.elem (l_f.up A) hy;obtain ⟨rfl,k0⟩:=hr_y;simp only[big] at k0;refine zx p5 zJ zap K<|X K<|Y 0 B.sub p6 zaZ K<|X K<|zfv K K<|X K<|zU K (zEB K K)<|zd K<|D<|zaD K (fun p7=>?_) (fun p7=>?_)
  ·refine zgg<|zT<|zah<|N K<|zo K zbj<|U K<|zl<|zhQ<|zF<|⟨⟨k+1,u⟩,⟨rfl,trivial⟩,?_,⟨A,B,?_,?_⟩,?_⟩
   ·exact zba
   ·first|omega|(simp;omega)
   ·intro j Q hj S
    rcases zcO j k with q|q
    ·exact hb j Q q S
    ·obtain rfl:j=k:=by omega
     rw[hy] at S;cases S;simpa [sLt] using p7
   show l.length-(k+1)<l.length-k;omega
  refine zdx<|zF<|zaM<|zaM ?_;have C:∀ Q,(l)[k]?=some Q→sLt Q s=false:=by
   intro Q S
   first
    | (exfalso;have:=(k_List_getElem__eq_some_iff.1 S).1;omega)
    | (rw[hy] at S;cases S;first|assumption|(simp_all[sLt];done)|(simp_all;done))
  refine zah<|N K<|zk l_v K<|zG (l_f.up A) zJ K<|zM K<|zp K<|zaK (d:=24) K (fun r8=>?_) (fun r8=>?_)
  ·refine X K<|zk l_v K<|X K<|N K<|X K<|zx p5 zJ zap K<|X K<|Y 0 B.sub p6 zaZ K<|X K<|zfv K K<|X K<|zmw K K K<|zd K<|D<|zV K (fun r9=>?_) (fun r9=>?_)
   ·refine zw<|zk l_v K<|zH l_v K<|ze<|zN<|zf zme<|⟨u,_,K,B.done,?_⟩;refine ⟨_,K,Sl.to (l_f.up A) ?_⟩
    first|exact (zjR hb C (by simp_all)).symm|exact (zgk hb C (by simp_all)).symm|(rw[zgk hb C (by first|simp_all|(intro q;have:=(k_List_getElem__eq_some_iff.1 q).1;omega))];simp)
   refine zaS ?_;have f14:=Sl.take l_f (k:=k) zW;have f15:=Sl.drop l_f (k:=k) zW;refine ziZ (dsts:=(zbP 33 12++[4])) B zbh<|zbq (.res (fun _ res_=>∃ p,res_=.slice p 0 0) (fun _ _ _ _ f=>f)) ?_ ?_
   ·intro T wD F hL H hO;have k1:=St.start H;exact ziX k1 K ⟨_,zap⟩ zJ<|fun z5 z6 f19 k2=>zl ⟨_,_,K,k2,_,K,f19⟩
   refine zL (zbw l_v K)<|zL (zho K) ?_;refine zL (ziK (l_f.up A) rfl rfl (hk:=rfl) zW zJ zap) ?_;refine zcf<|zL (zyI K)<|zbq (.res (fun h' res_=>Sl zea h' res_ ([s])) (fun _ _ _ hl f=>f.up hl)) ?_ ?_
   ·intro T wD F hL H hO _ _;have k3:=St.start H;exact zA zea [s] [zae s] k3 (Enc.cons (L:=zea) (vs:=[zae s]) (x:=s) (h:=T) (⟨rfl,zcn⟩) Enc.nil) K zJ Tryz.info9 zch<|fun z7 z8 z9 s6 f24 k4=>zl ⟨_,_,K,k4,_,K,f24⟩
   refine zcf<|zL (zbw l_v K)<|zL (zho K) ?_;refine zL (zit (l_f.up A) rfl rfl (hk:=rfl) zW zJ zap) ?_;refine zcf<|zcf<|zdy<|fun v A0 _ k5 k6 j4 a _ _=>?_;have k7:=k6.snoc;have f34:=OSl.nil zea 9 v;have f35:=OSl.nil0 zea 9 v a;have p8:=A.t k5;refine zbe (k:=0) (nb:=16) k7 f35 rfl (f14.up p8) rfl rfl rfl zJ Tryz.info9 rfl rfl rfl (by decide) rfl zgn zgn ?_;intro A1 A2 A3 _ s0 f40 k8;subst s0;refine zl ⟨_,K,_,_,Le.refl _,k8,?_⟩;intro s7 A4 _ z k9 gv6_0x43 gf6_0x43;refine zbe (k:=0) (nb:=16) k9 (f40.up z) rfl gf6_0x43 rfl rfl rfl zJ Tryz.info9 rfl rfl rfl (by decide) rfl zgn zgn ?_;intro A5 A6 A7 _ s1 f52 l0;subst s1;refine zl ⟨_,K,_,_,Le.refl _,l0,?_⟩;intro s8 A8 _ a0 l1 _ _;have s2:=(p8.t z).t a0;refine zbe (k:=0) (nb:=16) l1 (f52.up a0) rfl (f15.up s2) rfl rfl rfl zJ Tryz.info9 rfl rfl rfl (by decide) rfl zgn zgn ?_;intro s3 A9 B0 _ s4 f63 l2;subst s4;refine zl ⟨_,K,_,_,Le.refl _,l2,?_⟩;intro s9 B1 _ l3 l4 j5 j6 _ _ _ _ _ _ _ _ gv6_0x66 gf6_0x66 _ _ _ _ _ _;refine zH s3 K<|zl ⟨_,K,_,_,Le.refl _,l4,?_⟩;intro t0 B2 _ l5 l6 j7 j8 _ _ _ _ _ _ _ _ gv6_0x75 gf6_0x75 _ _ _ _ _ _;refine zbT.fin K<|zF<|zky<|zf zme ?_;obtain ⟨s5,t1,f78,l7⟩:=OSl.freeze (k:=0) l6 (f63.up (l3.t l5)) rfl zgn;refine ⟨s5,_,K,l7.done,?_⟩;refine ⟨_,K,Sl.to f78 ?_⟩
   first|exact (zjR hb C (by simp_all)).symm|exact (zgk hb C (by simp_all)).symm|(rw[zgk hb C (by first|simp_all|(intro q;have:=(k_List_getElem__eq_some_iff.1 q).1;omega))];simp)
  refine zao 6 K<|zb K<|D<|zaD K (fun p9=>?_) (fun p9=>?_)
  ·cases p9
  refine zaS ?_;have f81:=Sl.take l_f (k:=k) zW;have f82:=Sl.drop l_f (k:=k) zW;refine ziZ (dsts:=(zbP 33 12++[4])) B zbh<|zbq (.res (fun _ res_=>∃ p,res_=.slice p 0 0) (fun _ _ _ _ f=>f)) ?_ ?_
  ·intro T wD F hL H hO;have l8:=St.start H;exact ziX l8 K ⟨_,zap⟩ zJ<|fun B3 B4 f86 l9=>zl ⟨_,_,K,l9,_,K,f86⟩
  refine zL (zbw l_v K)<|zL (zho K) ?_;refine zL (ziK (l_f.up A) rfl rfl (hk:=rfl) zW zJ zap) ?_;refine zcf<|zL (zyI K)<|zbq (.res (fun h' res_=>Sl zea h' res_ ([s])) (fun _ _ _ hl f=>f.up hl)) ?_ ?_
  ·intro T wD F hL H hO _ _;have m0:=St.start H;exact zA zea [s] [zae s] m0 (Enc.cons (L:=zea) (vs:=[zae s]) (x:=s) (h:=T) (⟨rfl,zcn⟩) Enc.nil) K zJ Tryz.info9 zch<|fun B5 B6 B7 t2 f91 m1=>zl ⟨_,_,K,m1,_,K,f91⟩
  refine zcf<|zL (zbw l_v K)<|zL (zho K) ?_;refine zL (zit (l_f.up A) rfl rfl (hk:=rfl) zW zJ zap) ?_;refine zcf<|zcf<|zdy<|fun a1 B8 _ m2 m3 j9 b _ _=>?_;have a7:=m3.snoc;have f101:=OSl.nil zea 9 a1;have f102:=OSl.nil0 zea 9 a1 b;have a2:=A.t m2;refine zbe (k:=0) (nb:=16) a7 f102 rfl (f81.up a2) rfl rfl rfl zJ Tryz.info9 rfl rfl rfl (by decide) rfl zgn zgn ?_;intro t3 t4 t5 _ m4 f107 a8;subst m4;refine zl ⟨_,K,_,_,Le.refl _,a8,?_⟩;intro q0 t6 _ c a9 gv6_0x110 gf6_0x110;refine zbe (k:=0) (nb:=16) a9 (f107.up c) rfl gf6_0x110 rfl rfl rfl zJ Tryz.info9 rfl rfl rfl (by decide) rfl zgn zgn ?_;intro t7 t8 t9 _ m5 f119 b0;subst m5;refine zl ⟨_,K,_,_,Le.refl _,b0,?_⟩;intro q1 v0 _ e b1 _ _;have m6:=(a2.t c).t e;refine zbe (k:=0) (nb:=16) b1 (f119.up e) rfl (f82.up m6) rfl rfl rfl zJ Tryz.info9 rfl rfl rfl (by decide) rfl zgn zgn ?_;intro m7 v1 v2 _ m8 f130 b2;subst m8;refine zl ⟨_,K,_,_,Le.refl _,b2,?_⟩;intro q2 v3 _ b3 b4 g7 g8 _ _ _ _ _ _ _ _ gv6_0x133 gf6_0x133 _ _ _ _ _ _;refine zH m7 K<|zl ⟨_,K,_,_,Le.refl _,b4,?_⟩;intro q3 v4 _ b5 b7 g9 h3 _ _ _ _ _ _ _ _ gv6_0x142 gf6_0x142 _ _ _ _ _ _;refine zbT.fin K<|zF<|zky<|zf zme ?_;obtain ⟨m9,q4,f145,b8⟩:=OSl.freeze (k:=0) b7 (f130.up (b3.t b5)) rfl zgn;refine ⟨m9,_,K,b8.done,?_⟩;refine ⟨_,K,Sl.to f145 ?_⟩
  first|exact (zjR hb C (by simp_all)).symm|exact (zgk hb C (by simp_all)).symm|(rw[zgk hb C (by first|simp_all|(intro q;have:=(k_List_getElem__eq_some_iff.1 q).1;omega))];simp)
 refine zao 6 K<|zb K<|D<|zaD K (fun a3=>?_) (fun a3=>?_)
 ·cases a3
 refine zdx<|zF<|zaM<|zaM ?_;have C:∀ Q,(l)[k]?=some Q→sLt Q s=false:=by
  intro Q S
  first
   | (exfalso;have:=(k_List_getElem__eq_some_iff.1 S).1;omega)
   | (rw[hy] at S;cases S;first|assumption|(simp_all[sLt];done)|(simp_all;done))
 refine zah<|N K<|zk l_v K<|zG (l_f.up A) zJ K<|zM K<|zp K<|zaK (d:=24) K (fun o0=>?_) (fun o0=>?_)
 ·refine X K<|zk l_v K<|X K<|N K<|X K ?_;obtain ⟨y,hy⟩:∃ y_,(l)[k]?=some y_:=zdl zW;obtain ⟨v5,v6,_,b9,c0,hr_y⟩:=Sl.elem (l_f.up A) hy;obtain ⟨rfl,c1⟩:=hr_y;simp only[big] at c1;refine zx b9 zJ zap K<|X K<|Y 0 B.sub c0 zaZ K<|X K<|zfv K K<|X K<|zmw K K K<|zd K<|D<|zV K (fun o1=>?_) (fun o1=>?_)
  ·refine zw<|zk l_v K<|zH l_v K<|ze<|zN<|zf zme<|⟨u,_,K,B.done,?_⟩;refine ⟨_,K,Sl.to (l_f.up A) ?_⟩
   first|exact (zjR hb C (by simp_all)).symm|exact (zgk hb C (by simp_all)).symm|(rw[zgk hb C (by first|simp_all|(intro q;have:=(k_List_getElem__eq_some_iff.1 q).1;omega))];simp)
  refine zaS ?_;have f155:=Sl.take l_f (k:=k) zW;have f156:=Sl.drop l_f (k:=k) zW;refine ziZ (dsts:=(zbP 33 12++[4])) B zbh<|zbq (.res (fun _ res_=>∃ p,res_=.slice p 0 0) (fun _ _ _ _ f=>f)) ?_ ?_
  ·intro T wD F hL H hO;have c2:=St.start H;exact ziX c2 K ⟨_,zap⟩ zJ<|fun v7 v8 f160 c3=>zl ⟨_,_,K,c3,_,K,f160⟩
  refine zL (zbw l_v K)<|zL (zho K) ?_;refine zL (ziK (l_f.up A) rfl rfl (hk:=rfl) zW zJ zap) ?_;refine zcf<|zL (zyI K)<|zbq (.res (fun h' res_=>Sl zea h' res_ ([s])) (fun _ _ _ hl f=>f.up hl)) ?_ ?_
  ·intro T wD F hL H hO _ _;have c4:=St.start H;exact zA zea [s] [zae s] c4 (Enc.cons (L:=zea) (vs:=[zae s]) (x:=s) (h:=T) (⟨rfl,zcn⟩) Enc.nil) K zJ Tryz.info9 zch<|fun v9 w0 w1 q5 f165 c5=>zl ⟨_,_,K,c5,_,K,f165⟩
  refine zcf<|zL (zbw l_v K)<|zL (zho K) ?_;refine zL (zit (l_f.up A) rfl rfl (hk:=rfl) zW zJ zap) ?_;refine zcf<|zcf<|zdy<|fun g w2 _ c6 c7 h4 I _ _=>?_;have c8:=c7.snoc;have f175:=OSl.nil zea 9 g;have f176:=OSl.nil0 zea 9 g I;have a4:=A.t c6;refine zbe (k:=0) (nb:=16) c8 f176 rfl (f155.up a4) rfl rfl rfl zJ Tryz.info9 rfl rfl rfl (by decide) rfl zgn zgn ?_;intro w3 w5 w6 _ o2 f181 c9;subst o2;refine zl ⟨_,K,_,_,Le.refl _,c9,?_⟩;intro q6 w7 _ i d0 gv6_0x184 gf6_0x184;refine zbe (k:=0) (nb:=16) d0 (f181.up i) rfl gf6_0x184 rfl rfl rfl zJ Tryz.info9 rfl rfl rfl (by decide) rfl zgn zgn ?_;intro w8 w9 x0 _ o3 f193 d1;subst o3;refine zl ⟨_,K,_,_,Le.refl _,d1,?_⟩;intro q7 x1 _ m d2 _ _;have o4:=(a4.t i).t m;refine zbe (k:=0) (nb:=16) d2 (f193.up m) rfl (f156.up o4) rfl rfl rfl zJ Tryz.info9 rfl rfl rfl (by decide) rfl zgn zgn ?_;intro o5 x2 x3 _ o6 f204 d3;subst o6;refine zl ⟨_,K,_,_,Le.refl _,d3,?_⟩;intro q8 x4 _ d4 d5 h5 h6 _ _ _ _ _ _ _ _ gv6_0x207 gf6_0x207 _ _ _ _ _ _;refine zH o5 K<|zl ⟨_,K,_,_,Le.refl _,d5,?_⟩;intro q9 x5 _ d6 d7 h7 h8 _ _ _ _ _ _ _ _ gv6_0x216 gf6_0x216 _ _ _ _ _ _;refine zbT.fin K<|zF<|zky<|zf zme ?_;obtain ⟨o8,r0,f219,d8⟩:=OSl.freeze (k:=0) d7 (f204.up (d4.t d6)) rfl zgn;refine ⟨o8,_,K,d8.done,?_⟩;refine ⟨_,K,Sl.to f219 ?_⟩
  first|exact (zjR hb C (by simp_all)).symm|exact (zgk hb C (by simp_all)).symm|(rw[zgk hb C (by first|simp_all|(intro q;have:=(k_List_getElem__eq_some_iff.1 q).1;omega))];simp)
 refine zao 6 K<|zb K<|D<|zaD K (fun a5=>?_) (fun a5=>?_)
 ·cases a5
 refine zaS ?_;have f222:=Sl.take l_f (k:=k) zW;have f223:=Sl.drop l_f (k:=k) zW;refine ziZ (dsts:=(zbP 33 12++[4])) B zbh<|zbq (.res (fun _ res_=>∃ p,res_=.slice p 0 0) (fun _ _ _ _ f=>f)) ?_ ?_
 ·intro T wD F hL H hO;have d9:=St.start H;exact ziX d9 K ⟨_,zap⟩ zJ<|fun x6 x7 f227 e0=>zl ⟨_,_,K,e0,_,K,f227⟩
 refine zL (zbw l_v K)<|zL (zho K) ?_;refine zL (ziK (l_f.up A) rfl rfl (hk:=rfl) zW zJ zap) ?_;refine zcf<|zL (zyI K)<|zbq (.res (fun h' res_=>Sl zea h' res_ ([s])) (fun _ _ _ hl f=>f.up hl)) ?_ ?_
 ·intro T wD F hL H hO _ _;have e1:=St.start H;exact zA zea [s] [zae s] e1 (Enc.cons (L:=zea) (vs:=[zae s]) (x:=s) (h:=T) (⟨rfl,zcn⟩) Enc.nil) K zJ Tryz.info9 zch<|fun x8 x9 y1 r1 f232 e2=>zl ⟨_,_,K,e2,_,K,f232⟩
 refine zcf<|zL (zbw l_v K)<|zL (zho K) ?_;refine zL (zit (l_f.up A) rfl rfl (hk:=rfl) zW zJ zap) ?_;refine zcf<|zcf<|zdy<|fun n y2 _ e3 e4 h9 P _ _=>?_;have e5:=e4.snoc;have f242:=OSl.nil zea 9 n;have f243:=OSl.nil0 zea 9 n P;have a6:=A.t e3;refine zbe (k:=0) (nb:=16) e5 f243 rfl (f222.up a6) rfl rfl rfl zJ Tryz.info9 rfl rfl rfl (by decide) rfl zgn zgn ?_;intro y3 y4 y5 _ o9 f248 e6;subst o9;refine zl ⟨_,K,_,_,Le.refl _,e6,?_⟩;intro r2 y6 _ o e7 gv6_0x251 gf6_0x251;refine zbe (k:=0) (nb:=16) e7 (f248.up o) rfl gf6_0x251 rfl rfl rfl zJ Tryz.info9 rfl rfl rfl (by decide) rfl zgn zgn ?_;intro y7 y8 y9 _ p0 f260 e8;subst p0;refine zl ⟨_,K,_,_,Le.refl _,e8,?_⟩;intro r3 z0 _ r e9 _ _;have p1:=(a6.t o).t r;refine zbe (k:=0) (nb:=16) e9 (f260.up r) rfl (f223.up p1) rfl rfl rfl zJ Tryz.info9 rfl rfl rfl (by decide) rfl zgn zgn ?_;intro p2 z1 z2 _ p3 f271 g0;subst p3;refine zl ⟨_,K,_,_,Le.refl _,g0,?_⟩;intro r4 z3 _ g1 g2 j0 j1 _ _ _ _ _ _ _ _ gv6_0x274 gf6_0x274 _ _ _ _ _ _;refine zH p2 K<|zl ⟨_,K,_,_,Le.refl _,g2,?_⟩;intro r5 z4 _ g3 g4 j2 j3 _ _ _ _ _ _ _ _ gv6_0x283 gf6_0x283 _ _ _ _ _ _;refine zbT.fin K<|zF<|zky<|zf zme ?_;obtain ⟨p4,r6,f286,g6⟩:=OSl.freeze (k:=0) g4 (f271.up (g1.t g3)) rfl zgn;refine ⟨p4,_,K,g6.done,?_⟩;refine ⟨_,K,Sl.to f286 ?_⟩
 first|exact (zjR hb C (by simp_all)).symm|exact (zgk hb C (by simp_all)).symm|(rw[zgk hb C (by first|simp_all|(intro q;have:=(k_List_getElem__eq_some_iff.1 q).1;omega))];simp)
theorem zoG (hs:Sub h w) {t:Text} (t_f0:Sl zaN h t_v0 t.chapters) (x_f0:Sl zeE h x_v0 x.rules) (x_f1:Sl zaG h x_v1 x.decisions) (hd_l1:hd.stem.length≤281474976710656) (hd_l2:0≤hd.mark∧hd.mark≤255):Calls Tryz.prog 48 #[.agg #[t_v0],.agg #[x_v0,x_v1],.agg #[zae hd.stem,.int .u8 hd.mark]] w (zbH h w (fun h' _ res_=>∃ u0,res_=.tuple #[u0,iV (ziD t x hd)]∧Sl zdO h' u0 (zki t x hd))):=by
 refine zg 50 Tryz.func48 K<|have d2:=zcu hs;have c1:=t_f0.le;have c2:=x_f0.le;have c3:=x_f1.le;zw<|J [t_v0] d2 K<|fun b1 w2 h3 d3 a1 d4=>J [x_v0,x_v1] d4 K<|fun b7 w8 h9 l r a4=>J [zae hd.stem,.int .u8 hd.mark] a4 K<|fun g3 g4 g5 H s S=>zdD K K<|U K<|D<|zav<|E S.sub (a1.up (l.t H)) zaX zac K<|E S.sub (r.up H) zeK zcL K<|have P:=(d3.t l).t H;zi S K Tryz.call53 (zml S.sub (t:=t) (t_f0.up P) (x:=x) (x_f0.up P) (x_f1.up P))<|fun g6 g7 d5 A T d6=>?_;subst d6;refine U K<|D<|zw<|N K<|zar K<|D<|zV K (fun c4=>?_) (fun c4=>?_)
 ·refine zw<|N K<|zdD K K<|U K<|ze<|zN<|zbu Tryz.results48<|⟨d5,_,K,T.done,?_⟩;refine ⟨_,zfS K (zan ?_),Sl.to (Sl.nil _ _) ?_⟩
  all_goals simp_all[zki,ziD]
 refine zaS<|zw<|E T.sub (s.up A) zcm zaj K<|zi T K Tryz.call87 (zkN T.sub (hd:=hd) zcn zfb)<|fun g8 g9 d7 B u d8=>?_;subst d8;refine zdJ K K<|D<|zaD K (fun c5=>?_) (fun c5=>?_)
 ·refine zw<|zdD K K<|U K<|ze<|zN<|zbu Tryz.results48<|⟨d7,_,K,u.done,?_⟩;refine ⟨_,zfS K (zan ?_),Sl.to (Sl.nil _ _) ?_⟩
  all_goals simp_all[zki,ziD]
 refine zgg<|zw<|zdD K K<|D<|zaM ?_;have m:zcZ t x=0:=by simpa using c4
 have c6:zlo hd=true:=by simpa using c5
 have c7:=((l.t H).t A).t B;refine ziZ (dsts:=[22,23,24,25,26,10,11]) u zbh<|zas (fun hD wD c d e hO=>(zaQ (d.sub e) (a1.up c7) K zaX zac K))<|zbq (.res (fun h' res_=>Sl zdO h' res_ ((zbJ t))) (fun _ _ _ hl f=>f.up hl)) ?_ ?_
 ·intro hD wD c d e hO _ _;have v:=St.start e;refine zau v rfl rfl rfl Tryz.call88 rfl (zlp v.sub (t:=t) (t_f0.up (((P.t A).t B).trans d)) (by exact zei m)) ?_;intro h0 h1 h2 e9 a5 d9;obtain ⟨h4,e0,f43⟩:=d9;rw[← e0] at f43;have d0:=f43.le;exact zl ⟨_,_,K,a5,_,K,f43⟩
 refine zas (fun hD wD c d e hO=>(zaQ (d.sub e) (a1.up c7) K zaX zac K))<|zas (fun hD wD c d e hO=>(zaQ (d.sub e) (r.up ((H.t A).t B)) K zeK zcL K))<|zbq (.res (fun h' res_=>Sl zhb h' res_ ((zeB t x))) (fun _ _ _ hl f=>f.up hl)) ?_ ?_
 ·intro hD wD c d e hO _ _ _ _ gv1_0 gf1_0;have y:=St.start e;refine zau y rfl rfl rfl Tryz.call89 rfl (zpO y.sub (t:=t) (t_f0.up (((P.t A).t B).trans d)) (x:=x) (x_f0.up (((P.t A).t B).trans d)) (x_f1.up (((P.t A).t B).trans d)) (by exact m)) ?_;intro h5 h6 h7 g0 a6 e1;obtain ⟨h8,e2,f53⟩:=e1;rw[← e2] at f53;have d1:=f53.le;exact zl ⟨_,_,K,a6,_,K,f53⟩
 refine zbq (.res (fun h' res_=>Sl zdO h' res_ (((zbJ t)))) (fun _ _ _ hl f=>f.up hl)) ?_ ?_
 ·intro hD wD c d e hO gv4_0 gf4_0 _ _ gv1_0 gf1_0;have a7:=St.start e;exact zH gv1_0 K<|zl ⟨_,_,K,a7,_,K,gf1_0⟩
 refine zbq (.res (fun h' res_=>Sl zhb h' res_ (((zeB t x)))) (fun _ _ _ hl f=>f.up hl)) ?_ ?_
 ·intro hD wD c d e hO _ _ gv1_0 gf1_0 _ _ _ _ gv4_0 gf4_0 gv5_0 gf5_0;have a8:=St.start e;exact zH gv4_0 K<|zl ⟨_,_,K,a8,_,K,gf4_0⟩
 refine zdy<|fun n j0 _ a9 b0 _ _ gv1_0x61 gf1_0x61 _ _ _ _ gv4_0x61 gf4_0x61 gv5_0x61 gf5_0x61 gv6_0x61 gf6_0x61=>zbT.fin K ?_;have hpl:=zgi (zei m);have hhl:(zeB t x).length=(zbJ t).length:=by rw[zeB,zaa]
 refine zF<|zav<|U K<|D<|zT ?_;have b2:=b0.snoc;have f66:=OSl.nil zdO 68 n;refine zaI ([9,12]++zbP 27 19) (G:=Nat×Value×List (Nat×Obj)×Heap) (fun ⟨i,C,g,I⟩=>[(9,C),(12,iV (i:Int))]) (fun ⟨i,C,g,I⟩ w'=>Le n I∧St h w I w' [g]∧(OSl zdO 68 I C (((zbJ t).take i).filter fun p=>decide (zkI t x p=hd)) g)∧(i≤(zbJ t).length)) (fun ⟨i,C,g,I⟩=>(zbJ t).length-i) ⟨0,(.slice none 0 0),[],n⟩ ⟨rfl,rfl,trivial⟩ ⟨Le.refl _,b2,(OSl.to f66 (by rfl)),zbB⟩ ?_;rintro ⟨i,C,g,I⟩ _ j1 ⟨F,a,b,hi⟩;refine zav<|N K<|zk gv6_0x61 K<|zG (gf6_0x61.up F) zat K<|zM K<|D<|zV K (fun e3=>?_) (fun e3=>?_)
 ·refine zaS<|zT<|zaM<|zcY zbh zch (Cls I _) (Cls.drew a)<|zbr gv6_0x61 K<|zew K K ?_;obtain ⟨hh,hhh⟩:∃ y_,((((zeB t x))))[i]?=some y_:=zdl zW;obtain ⟨j2,j3,_,b3,b4,hr_hh⟩:=Sl.elem (gf6_0x61.up F) hhh;obtain ⟨rfl,b5,g1⟩:=hr_hh;simp only[big] at b5;refine zag b3 zat zaj K<|zdp b4 zcm zaj K<|have e4:=((A.t B).t a9).t F;zdp (s.up e4) zcm zaj K<|zbf K K (fun _ _=>(zjb K K zhR (Tryz.eq_Head hh hd)))<|zci ?_;rintro j4 ⟨c8,j⟩;have o:=a.call0 j;refine zF<|zV K (fun a2=>?_) (fun a2=>?_)
  ·have Q:(zeB t x)[i]?=((zbJ t)[i]?).map (zkI t x):=by rw[zeB,zcy]
   refine zah<|zk C K<|zk gv5_0x61 K<|N K ?_;obtain ⟨p,hp⟩:∃ y_,((((zbJ t))))[i]?=some y_:=zdl zW;obtain ⟨j5,j6,_,b6,b8,hr_p⟩:=Sl.elem (gf5_0x61.up (F.trans j.le)) hp;subst hr_p;refine zx b6 zbp zR K<|E o.sub b8 zaE zR K<|zA zdO [p] [iV p.chapter,iV p.line,iV p.word] o (Enc.cons (L:=zdO) (vs:=[iV p.chapter,iV p.line,iV p.word]) (x:=p) (h:=c8) K Enc.nil) K zbp Tryz.info68 zch<|fun j7 j8 e5 z f87 b9=>?_;refine zbe (k:=0) (nb:=24) b9 (b.up (j.le.t z)) rfl f87 rfl rfl rfl zbp Tryz.info68 rfl rfl rfl (by decide) rfl (by have q:=zak (fun p=>decide (zkI t x p=hd)) ((zbJ t).take i);rw[zt] at q;first|omega|(simp only[zj,zy,zC];omega)) (by have q:=zak (fun p=>decide (zkI t x p=hd)) ((zbJ t).take i);rw[zt] at q;first|omega|(simp only[zj,zy,zC];omega)) ?_;intro c9 e6 j9 _ e7 f95 c0;subst e7;refine zH c9 K<|zl<|zaF<|N K<|zo K zbj<|U K<|D<|⟨⟨i+1,c9,e6,e5⟩,⟨rfl,K,trivial⟩,?_,⟨((F.trans j.le).t z),c0,?_,?_⟩,?_⟩
   ·exact zba
   ·refine OSl.to f95 ?_;rw[hp,hhh] at Q;rw[zbg hp,zbc];simp only[zck,zeS] at Q;rw[zbo,zab (by rw[← Q];simpa using a2)];rfl
   ·first|omega|(simp;omega)
   show (zbJ t).length-(i+1)<(zbJ t).length-i;omega
  refine zbO<|zaF<|N K<|zo K zbj<|U K<|D<|⟨⟨i+1,C,g,c8⟩,⟨rfl,K,trivial⟩,?_,⟨(F.trans j.le),o,?_,?_⟩,?_⟩
  ·exact zba
  ·refine OSl.to (b.up j.le) ?_;have hp:(zbJ t)[i]?=some (zbJ t)[i]:=zn zW;have Q:(zeB t x)[i]?=((zbJ t)[i]?).map (zkI t x):=by rw[zeB,zcy]
   rw[hp,hhh] at Q;rw[zbg hp,zbc];simp only[zck,zeS] at Q;rw[zbo,zam (by rw[← Q];simpa using a2)];simp
  ·first|omega|(simp;omega)
  show (zbJ t).length-(i+1)<(zbJ t).length-i;omega
 refine zdx<|zF<|zav<|zk C K<|zlW b K zbp K<|zgL K K K<|D<|zV K (fun a3=>?_) (fun a3=>?_)
 ·refine zw<|zdD K K<|U K<|ze<|zN<|zbu Tryz.results48 ?_;have hfu:((zbJ t).take i).filter (fun p=>decide (zkI t x p=hd))=zds t x hd:=by rw[zS zW];rfl
  refine ⟨I,_,K,a.done,?_⟩;refine ⟨_,zfS K (zan ?_),Sl.to (Sl.nil _ _) ?_⟩
  all_goals (have q1:=a3;rw[hfu] at q1;have q2:zds t x hd=[]:=zee zW)
  all_goals simp_all[zki,ziD]
 refine zgg<|zw<|zk C K<|zH C K<|U K<|ze<|zbu Tryz.results48 ?_;obtain ⟨e8,g2,f100,a0⟩:=OSl.freeze (k:=0) a b rfl (by have q:=zak (fun p=>decide (zkI t x p=hd)) ((zbJ t).take i);rw[zt] at q;first|omega|(simp only[zj,zy,zC];omega));have hfu:((zbJ t).take i).filter (fun p=>decide (zkI t x p=hd))=zds t x hd:=by rw[zS zW];rfl
 refine ⟨e8,_,K,a0.done,?_⟩;refine ⟨_,zfS K (zan ?_),Sl.to f100 ?_⟩
 all_goals (have q1:=a3;rw[hfu] at q1;have q2:¬ zds t x hd=[]:=by intro q;rw[q] at q1;simp at q1)
 ·simp[ziD,m,c6,q2]
 rw[hfu];simp[zki,ziD,m,c6,q2]
theorem zsI (hs:Sub h w) {t:Text} (t_f0:Sl zaN h t_v0 t.chapters) (x_f0:Sl zeE h x_v0 x.rules) (x_f1:Sl zaG h x_v1 x.decisions) (hd_l1:hd.stem.length≤281474976710656) (hd_l2:0≤hd.mark∧hd.mark≤255):Calls Tryz.prog 78 #[.agg #[t_v0],.agg #[x_v0,x_v1],.agg #[zae hd.stem,.int .u8 hd.mark]] w (zbH h w (fun h' _ res_=>∃ u0,res_=.tuple #[u0,iV (ziD t x hd)]∧Sl zea h' u0 (zrL t x hd))):=by
 refine zg 37 Tryz.func78 K<|have b2:=zcu hs;have a6:=t_f0.le;have a7:=x_f0.le;have a8:=x_f1.le;zw<|J [t_v0] b2 K<|fun b1 w2 h3 b3 n b4=>J [x_v0,x_v1] b4 K<|fun b7 w8 h9 I o q=>J [zae hd.stem,.int .u8 hd.mark] q K<|fun c6 c7 c8 H r B=>zdD K K<|U K<|D<|zw<|E B.sub (n.up (I.t H)) zaX zac K<|E B.sub (o.up H) zeK zcL K<|E B.sub r zcm zaj K<|have P:=(b3.t I).t H;zi B K Tryz.call48 (zoG B.sub (t:=t) (t_f0.up P) (x:=x) (x_f0.up P) (x_f1.up P) (hd:=hd) zcn zfb)<|fun c9 d0 Q a b b5=>?_;obtain ⟨S,rfl,f27⟩:=b5;have a9:=f27.le;refine zeZ K K<|zbl S K<|zB K<|zH S K<|U K<|D<|zav<|N K<|zar K<|D<|zV K (fun s=>?_) (fun s=>?_)
 ·refine zw<|N K<|zdD K K<|U K<|ze<|zN<|zbu Tryz.results78<|⟨Q,_,K,b.done,?_⟩;refine ⟨_,zfS K (zan ?_),Sl.to (Sl.nil _ _) ?_⟩
  all_goals simp_all[zrL]
 refine zaS ?_;have T:ziD t x hd=0:=by simpa using s
 have u:zcZ t x=0:=zry T;have hur:zki t x hd=zds t x hd:=by rw[zki,zab T]
 have hul:(zki t x hd).length≤600:=by rw[hur];exact zfl (zak _ _) (zgi (zei u))
 refine zah<|zdD K K<|D<|zav<|U K<|D<|zT ?_;refine zaI ([10,11]++zbP 22 14) (G:=Nat×Value×Heap) (fun ⟨i,A,F⟩=>[(10,A),(11,iV (i:Int))]) (fun ⟨i,A,F⟩ w'=>Le Q F∧St h w F w' []∧(Sl zea F A ((ziA sLt (((zki t x hd).take i).map (zbY t)))))∧(i≤(zki t x hd).length)) (fun ⟨i,A,F⟩=>(zki t x hd).length-i) ⟨0,(.slice none 0 0),Q⟩ ⟨rfl,rfl,trivial⟩ ⟨Le.refl _,b,(Sl.to (Sl.nil zea Q) (by rfl)),zbB⟩ ?_;rintro ⟨i,A,F⟩ _ d1 ⟨C,c,L,hi⟩;refine zav<|N K<|zk S K<|zG (f27.up C) zbp K<|zM K<|D<|zV K (fun b6=>?_) (fun b6=>?_)
 ·refine zaS<|zT ?_;have b8:=((I.t H).t a).t C;obtain ⟨p,hp⟩:∃ y_,((zki t x hd))[i]?=some y_:=zdl zW;obtain ⟨d2,d3,_,v,y,hr_p⟩:=Sl.elem (f27.up C) hp;subst hr_p;have z:zeb t p=true:=by rw[hur] at hp;exact zlC (zcl.1 (zD hp)).1
  have c2:=zqh (zei u) z;have hsl:=zom ztS (((zki t x hd).take i).map (zbY t));rw[zaa,zt] at hsl;refine zgR (er:=([],[10],[0],[],0)) (dsts:=(zbP 28 8++[10])) c zbh<|zL (zbw A K)<|zas (fun hD wD j l m hO=>(zaQ (l.sub m) (n.up b8) K zaX zac K))<|zL (zbw S K)<|zL (zho K)<|zL (zdW v zbp zR K)<|zas (fun hD wD j l m hO _ _=>(zaQ (l.sub m) y K zaE zR K))<|zbq (.det (zae (zbY t p))) ?_ ?_
  ·intro hD wD j l m hO _ _ _ _;have d:=St.start m;refine zau d rfl rfl rfl Tryz.call79 rfl (ziT d.sub (t:=t) (t_f0.up (((P.t a).t C).trans l)) (p:=p) (by exact z)) ?_;intro d4 d5 d6 c3 a0 b9;subst b9;exact zl ⟨_,_,K,a0,(),K,trivial⟩
  refine zbq (.res (fun h' res_=>Sl zea h' res_ ((zqn sLt ((ziA sLt (((zki t x hd).take i).map (zbY t)))) ((zbY t p))))) (fun _ _ _ hl f=>f.up hl)) ?_ ?_
  ·intro hD wD j l m hO _ _ _ _;have e:=St.start m;refine zau e rfl rfl rfl Tryz.call125 rfl (zsF e.sub (L.up l) _ zcn zW) ?_;intro d7 d8 d9 c4 a1 c0;obtain ⟨e0,c1,f54⟩:=c0;rw[← c1] at f54;have b0:=f54.le;exact zl ⟨_,_,K,a1,_,K,f54⟩
  refine zcf<|zdy<|fun c5 e1 _ a2 a3 _ _ _ _ _ _ _ _ _ _ _ _ _ _ gv7_0x56 gf7_0x56=>zH gv7_0x56 K<|zl ⟨_,K,_,_,Le.refl _,a3,?_⟩;intro a4 e2 _ g a5 _ _ _ _ _ _ _ _ _ _ _ _ _ _ gv7_0x65 gf7_0x65;refine zbT.fin K<|zaF<|N K<|zo K zbj<|U K<|D<|⟨⟨i+1,gv7_0x56,a4⟩,⟨rfl,K,trivial⟩,?_,⟨((C.t a2).t g),a5,?_,?_⟩,?_⟩
  ·exact zba
  ·refine Sl.to (gf7_0x56.up g) ?_;rw[zbg hp,zaz];exact (zle _ _).symm
  ·first|omega|(simp;omega)
  show (zki t x hd).length-(i+1)<(zki t x hd).length-i;omega
 refine zdx<|zF<|zw<|zk A K<|zH A K<|U K<|ze<|zbu Tryz.results78<|⟨F,_,K,c.done,?_⟩;refine ⟨_,zfS K (zan ?_),Sl.to L ?_⟩
 ·exact T.symm
 rw[zS zW,zrL,zab T,hur]
theorem zsG (hs:Sub h w) {t:Text} (t_f0:Sl zaN h t_v0 t.chapters) (x_f0:Sl zeE h x_v0 x.rules) (x_f1:Sl zaG h x_v1 x.decisions):Calls Tryz.prog 77 #[.agg #[t_v0],.agg #[x_v0,x_v1]] w (zbH h w (fun h' _ res_=>∃ u0,res_=.tuple #[u0,iV (zcZ t x)]∧Sl zhb h' u0 (zqN t x))):=by
 refine zg 74 Tryz.func77 K<|have z4:=zcu hs;have w0:=t_f0.le;have w1:=x_f0.le;have w3:=x_f1.le;zw<|J [t_v0] z4 K<|fun b1 w2 h3 z5 w4 z6=>J [x_v0,x_v1] z6 K<|fun b7 w8 h9 d1 d7 a6=>zdD K K<|U K<|D<|zav<|E a6.sub (w4.up d1) zaX zac K<|E a6.sub d7 zeK zcL K<|have q6:=z5.t d1;zi a6 K Tryz.call53 (zml a6.sub (t:=t) (t_f0.up q6) (x:=x) (x_f0.up q6) (x_f1.up q6))<|fun I1 I2 z7 d2 l z8=>?_;subst z8;refine U K<|D<|zw<|N K<|zar K<|D<|zV K (fun w5=>?_) (fun w5=>?_)
 ·refine zw<|N K<|zdD K K<|U K<|ze<|zN<|zbu Tryz.results77<|⟨z7,_,K,l.done,?_⟩;refine ⟨_,zfS K (zan ?_),Sl.to (Sl.nil _ _) ?_⟩
  all_goals simp_all[zqN]
 refine zgg<|zw<|zdD K K<|D<|zaM ?_;have q7:zcZ t x=0:=by simpa using w5
 refine zah<|E l.sub (w4.up (d1.t d2)) zaX zac K<|E l.sub (d7.up d2) zeK zcL K ?_;have q9:=q6.t d2;refine zau l rfl rfl rfl Tryz.call89 rfl (zpO l.sub (t:=t) (t_f0.up q9) (x:=x) (x_f0.up q9) (x_f1.up q9) (by exact q7)) ?_;intro c I3 r0 A5 r1 z9;obtain ⟨I4,A0,f29⟩:=z9;rw[← A0] at f29;have x1:=f29.le;refine zH c K<|zl ?_;have hhl:(zeB t x).length≤600:=by rw[zeB,zaa];exact zgi (zei q7)
 refine zF<|zav<|U K<|D<|zT ?_;refine zaI ([7,9,10]++zbP 20 53) (G:=Nat×Value×Heap) (fun ⟨i,C,e⟩=>[(7,C),(9,iV (i:Int))]) (fun ⟨i,C,e⟩ w'=>Le r0 e∧St h w e w' []∧(Sl zhb e C ((ziA zgI ((zeB t x).take i))))∧(i≤(zeB t x).length)) (fun ⟨i,C,e⟩=>(zeB t x).length-i) ⟨0,(.slice none 0 0),r0⟩ ⟨rfl,rfl,trivial⟩ ⟨Le.refl _,r1,(Sl.to (Sl.nil zhb r0) (by rfl)),zbB⟩ ?_;rintro ⟨i,C,e⟩ _ I5 ⟨I,d8,B,hi⟩;refine zav<|N K<|zk c K<|zG (f29.up I) zat K<|zM K<|D<|zV K (fun A1=>?_) (fun A1=>?_)
 ·refine zaS<|zT<|zaM ?_;have hsl:=zom znx ((zeB t x).take i);rw[zt] at hsl;obtain ⟨hd,hhd⟩:∃ y,(zeB t x)[i]?=some y:=⟨_,zn zW⟩;refine zah<|U K<|D<|zaM<|zT ?_;refine zaI ([10]++zbP 26 17) (G:=Nat×Heap) (fun ⟨k,d5⟩=>[(10,iV (k:Int))]) (fun ⟨k,d5⟩ w'=>Le e d5∧St h w d5 w' []∧(k≤(ziA zgI ((zeB t x).take i)).length)∧(∀ j y0,j<k→(ziA zgI ((zeB t x).take i))[j]?=some y0→zgI y0 hd=true)) (fun ⟨k,d5⟩=>(ziA zgI ((zeB t x).take i)).length-k) ⟨0,e⟩ ⟨rfl,trivial⟩ ⟨Le.refl _,d8,zbB,(by intro j _ hj;omega)⟩ ?_;rintro ⟨k,d5⟩ _ I6 ⟨A,d3,hk,hb⟩;refine zaM<|zaM<|zcY zbh zch (Cls d5 _) (Cls.drew d3)<|zew K K<|zbr C K<|ztO (B.up A) K zat K<|zGK K K K<|zjM K K<|ziW (d:=30) K (fun A2=>?_) (fun A2=>?_)
  ·refine zc K<|zbr C K<|zc K<|zew K K<|zc K ?_;obtain ⟨y,hy⟩:∃ y_,((ziA zgI ((zeB t x).take i)))[k]?=some y_:=zdl zW;obtain ⟨I7,I8,_,d9,e0,hr_y⟩:=Sl.elem (B.up A) hy;obtain ⟨rfl,r2,A6⟩:=hr_y;simp only[big] at r2;refine zag d9 zat zaj K<|zc K<|zdp e0 zcm zaj K<|zc K<|zbr c K<|zc K<|zew K K<|zc K ?_;obtain ⟨I9,J0,_,a7,a8,hr_hd⟩:=Sl.elem (f29.up (I.t A)) hhd;obtain ⟨rfl,r3,A7⟩:=hr_hd;simp only[big] at r3;refine zag a7 zat zaj K<|zc K<|zdp a8 zcm zaj K<|zc K<|zeI K K (fun _=>zcT K Tryz.call124 K) (fun _ hC=>zbH.quiet hC (ztA hC.sub (a:=y) zcn zfb (b:=hd) zcn zfb))<|zbm K<|zci ?_;rintro J1 ⟨w6,H⟩;have a9:=d3.call0 H;refine zF<|zaD K (fun w7=>?_) (fun w7=>?_)
   ·refine zgg<|zT<|zah<|N K<|zo K zbj<|U K<|zl<|zhQ<|zF<|⟨⟨k+1,w6⟩,⟨rfl,trivial⟩,?_,⟨(A.trans H.le),a9,?_,?_⟩,?_⟩
    ·exact zba
    ·first|omega|(simp;omega)
    ·intro j y0 hj h0
     rcases zcO j k with q|q
     ·exact hb j y0 q h0
     ·obtain rfl:j=k:=by omega
      rw[hy] at h0;cases h0;simpa using w7
    show (ziA zgI ((zeB t x).take i)).length-(k+1)<(ziA zgI ((zeB t x).take i)).length-k;omega
   refine zdx<|zF<|zaM ?_;have g:∀ y0,(ziA zgI ((zeB t x).take i))[k]?=some y0→zgI y0 hd=false:=by
    intro y0 h0
    first
     | (exfalso;have:=(k_List_getElem__eq_some_iff.1 h0).1;omega)
     | (rw[hy] at h0;cases h0;first|assumption|(simp_all[sLt];done)|(simp_all;done))
   refine zcY zbh zch (Cls w6 _) (Cls.drew a9)<|zew K K<|zbr C K<|ztO (B.up (A.trans H.le)) K zat K<|zwn K K K<|zjM K K<|ziW (d:=47) K (fun A3=>?_) (fun A3=>?_)
   ·refine zgK 9 K<|zbm K<|zci ?_;rintro J2 ⟨J3,d6⟩;have r4:=a9.call0 d6;refine zF<|zaD K (fun w9=>?_) (fun w9=>?_)
    ·have f64:=Sl.take B (k:=k) zW;have f65:=Sl.drop B (k:=k) zW;refine zgR (er:=([],[7],[1,11],[],0)) (dsts:=(zbP 58 15++[7])) r4 zbh<|zbq (.res (fun _ res_=>∃ p,res_=.slice p 0 0) (fun _ _ _ _ f=>f)) ?_ ?_
     ·intro n wD S o T hO;have r5:=St.start T;exact ziX r5 K ⟨_,zaj⟩ zat<|fun J4 J5 f69 r6=>zl ⟨_,_,K,r6,_,K,f69⟩
     refine zL (zbw C K)<|zL (zho K) ?_;refine zL (ziK (B.up ((A.trans H.le).trans d6.le)) rfl rfl (hk:=rfl) zW zat zaj) ?_;refine zcf<|zL (zbw c K)<|zL (zho K)<|zL (zdW a7 zat zaj K)<|zas (fun n wD S o T hO _ _=>(zaQ (o.sub T) (a8.up (H.le.trans d6.le)) K zcm zaj K))<|zbq (.res (fun h' res_=>Sl zhb h' res_ ([hd])) (fun _ _ _ hl f=>f.up hl)) ?_ ?_
     ·intro n wD S o T hO _ _;have r7:=St.start T;exact zA zhb [hd] [zae hd.stem,.int .u8 hd.mark] r7 (Enc.cons (L:=zhb) (vs:=[zae hd.stem,.int .u8 hd.mark]) (x:=hd) (h:=n) (⟨rfl,zcn,zfb⟩) Enc.nil) K zat Tryz.info38 zch<|fun J6 J7 J8 A8 f74 r8=>zl ⟨_,_,K,r8,_,K,f74⟩
     refine zcf<|zL (zbw C K)<|zL (zho K) ?_;refine zL (zit (B.up ((A.trans H.le).trans d6.le)) rfl rfl (hk:=rfl) zW zat zaj) ?_;refine zcf<|zcf<|zdy<|fun e1 J9 _ e2 r9 q8 b0 _ _=>?_;have s0:=r9.snoc;have f84:=OSl.nil zhb 38 e1;have f85:=OSl.nil0 zhb 38 e1 b0;have x0:=((A.trans H.le).trans d6.le).t e2;refine zbe (k:=0) (nb:=24) s0 f85 rfl (f64.up x0) rfl rfl rfl zat Tryz.info38 rfl rfl rfl (by decide) rfl zgn zgn ?_;intro K0 K1 K2 _ A4 f90 s1;subst A4;refine zl ⟨_,K,_,_,Le.refl _,s1,?_⟩;intro A9 K3 _ d4 s2 gv9_0x93 gf9_0x93;refine zbe (k:=0) (nb:=24) s2 (f90.up d4) rfl gf9_0x93 rfl rfl rfl zat Tryz.info38 rfl rfl rfl (by decide) rfl zgn zgn ?_;intro K4 K5 B0 _ s3 f102 g3;subst s3;refine zl ⟨_,K,_,_,Le.refl _,g3,?_⟩;intro x2 B1 _ r g4 _ _;refine zbe (k:=0) (nb:=24) g4 (f102.up r) rfl (f65.up ((x0.t d4).t r)) rfl rfl rfl zat Tryz.info38 rfl rfl rfl (by decide) rfl zgn zgn ?_;intro e3 B2 B3 _ s4 f113 g5;subst s4;refine zl ⟨_,K,_,_,Le.refl _,g5,?_⟩;intro x3 B4 _ b2 g6 o7 o8 _ _ _ _ _ _ _ _ _ _ _ _ _ _ gv9_0x115 gf9_0x115 _ _ _ _ _ _;refine zH e3 K<|zl ⟨_,K,_,_,Le.refl _,g6,?_⟩;intro x4 B5 _ b3 g7 o9 p0 _ _ _ _ _ _ _ _ _ _ _ _ _ _ gv9_0x124 gf9_0x124 _ _ _ _ _ _;refine zbT.fin K<|zaF<|N K<|zo K zbj<|U K<|D ?_;obtain ⟨s5,g8,f127,g9⟩:=OSl.freeze (k:=0) g7 (f113.up (b2.t b3)) rfl zgn;have s6:=((((((((I.t A).trans H.le).trans d6.le).t e2).t d4).t r).t b2).t b3).t g8;refine ⟨⟨i+1,e3,s5⟩,⟨rfl,K,trivial⟩,?_,⟨s6,g9.take 0,?_,?_⟩,?_⟩
     ·exact zba
     ·refine Sl.to f127 ?_;rw[zbg hhd,zle]
      first|exact (zjR hb g (by simp_all)).symm|exact (zgk hb g (by first|(simp_all;done)|(intro q;have:=(k_List_getElem__eq_some_iff.1 q).1;omega))).symm|(rw[zgk hb g (by first|(simp_all;done)|(intro q;have:=(k_List_getElem__eq_some_iff.1 q).1;omega))];simp)
     ·first|omega|(simp;omega)
     show (zeB t x).length-(i+1)<(zeB t x).length-i;omega
    cases w9
   refine zc K<|zbr C K<|zc K<|zew K K<|zc K<|zag d9 zat zaj K<|zc K<|zdp (e0.up H.le) zcm zaj K<|zc K<|zbr c K<|zc K<|zew K K<|zc K<|zag a7 zat zaj K<|zc K<|zdp (a8.up H.le) zcm zaj K<|zc K<|zbf K K (fun _ _=>(zkG K K zhR (Tryz.eq_Head y hd)))<|zbU K<|zci ?_;rintro B6 ⟨s7,P⟩;have b4:=a9.call0 P;refine zF<|zV K (fun s8=>?_) (fun s8=>?_)
   ·have f135:=Sl.take B (k:=k) zW;have f136:=Sl.drop B (k:=k) zW;refine zgR (er:=([],[7],[1,11],[],0)) (dsts:=(zbP 58 15++[7])) b4 zbh<|zbq (.res (fun _ res_=>∃ p,res_=.slice p 0 0) (fun _ _ _ _ f=>f)) ?_ ?_
    ·intro n wD S o T hO;have h1:=St.start T;exact ziX h1 K ⟨_,zaj⟩ zat<|fun B7 B8 f140 h4=>zl ⟨_,_,K,h4,_,K,f140⟩
    refine zL (zbw C K)<|zL (zho K) ?_;refine zL (ziK (B.up ((A.trans H.le).trans P.le)) rfl rfl (hk:=rfl) zW zat zaj) ?_;refine zcf<|zL (zbw c K)<|zL (zho K)<|zL (zdW a7 zat zaj K)<|zas (fun n wD S o T hO _ _=>(zaQ (o.sub T) (a8.up (H.le.trans P.le)) K zcm zaj K))<|zbq (.res (fun h' res_=>Sl zhb h' res_ ([hd])) (fun _ _ _ hl f=>f.up hl)) ?_ ?_
    ·intro n wD S o T hO _ _;have h5:=St.start T;exact zA zhb [hd] [zae hd.stem,.int .u8 hd.mark] h5 (Enc.cons (L:=zhb) (vs:=[zae hd.stem,.int .u8 hd.mark]) (x:=hd) (h:=n) (⟨rfl,zcn,zfb⟩) Enc.nil) K zat Tryz.info38 zch<|fun B9 C0 C1 x5 f145 h6=>zl ⟨_,_,K,h6,_,K,f145⟩
    refine zcf<|zL (zbw C K)<|zL (zho K) ?_;refine zL (zit (B.up ((A.trans H.le).trans P.le)) rfl rfl (hk:=rfl) zW zat zaj) ?_;refine zcf<|zcf<|zdy<|fun b5 C2 _ b6 h7 p1 a3 _ _=>?_;have h8:=h7.snoc;have f155:=OSl.nil zhb 38 b5;have f156:=OSl.nil0 zhb 38 b5 a3;have e4:=((A.trans H.le).trans P.le).t b6;refine zbe (k:=0) (nb:=24) h8 f156 rfl (f135.up e4) rfl rfl rfl zat Tryz.info38 rfl rfl rfl (by decide) rfl zgn zgn ?_;intro C3 C4 C5 _ s9 f161 j0;subst s9;refine zl ⟨_,K,_,_,Le.refl _,j0,?_⟩;intro x6 C6 _ s j1 gv9_0x164 gf9_0x164;refine zbe (k:=0) (nb:=24) j1 (f161.up s) rfl gf9_0x164 rfl rfl rfl zat Tryz.info38 rfl rfl rfl (by decide) rfl zgn zgn ?_;intro C7 C8 C9 _ t0 f173 j2;subst t0;refine zl ⟨_,K,_,_,Le.refl _,j2,?_⟩;intro x7 D0 _ u j3 _ _;refine zbe (k:=0) (nb:=24) j3 (f173.up u) rfl (f136.up ((e4.t s).t u)) rfl rfl rfl zat Tryz.info38 rfl rfl rfl (by decide) rfl zgn zgn ?_;intro e5 D1 D2 _ t1 f184 j4;subst t1;refine zl ⟨_,K,_,_,Le.refl _,j4,?_⟩;intro x8 D3 _ b8 j5 p2 p3 _ _ _ _ _ _ _ _ _ _ _ _ _ _ gv9_0x186 gf9_0x186 _ _ _ _ _ _;refine zH e5 K<|zl ⟨_,K,_,_,Le.refl _,j5,?_⟩;intro x9 D4 _ b9 j6 p4 p5 _ _ _ _ _ _ _ _ _ _ _ _ _ _ gv9_0x195 gf9_0x195 _ _ _ _ _ _;refine zbT.fin K<|zaF<|N K<|zo K zbj<|U K<|D ?_;obtain ⟨t2,j7,f198,j8⟩:=OSl.freeze (k:=0) j6 (f184.up (b8.t b9)) rfl zgn;have t3:=((((((((I.t A).trans H.le).trans P.le).t b6).t s).t u).t b8).t b9).t j7;refine ⟨⟨i+1,e5,t2⟩,⟨rfl,K,trivial⟩,?_,⟨t3,j8.take 0,?_,?_⟩,?_⟩
    ·exact zba
    ·refine Sl.to f198 ?_;rw[zbg hhd,zle]
     first|exact (zjR hb g (by simp_all)).symm|exact (zgk hb g (by first|(simp_all;done)|(intro q;have:=(k_List_getElem__eq_some_iff.1 q).1;omega))).symm|(rw[zgk hb g (by first|(simp_all;done)|(intro q;have:=(k_List_getElem__eq_some_iff.1 q).1;omega))];simp)
    ·first|omega|(simp;omega)
    show (zeB t x).length-(i+1)<(zeB t x).length-i;omega
   refine zbO<|zaF<|N K<|zo K zbj<|U K<|D<|have t4:=((I.t A).trans H.le).trans P.le;⟨⟨i+1,C,s7⟩,⟨rfl,K,trivial⟩,?_,⟨t4,b4,?_,?_⟩,?_⟩
   ·exact zba
   ·refine Sl.to (B.up ((A.trans H.le).trans P.le)) ?_;rw[zbg hhd,zle]
    first|exact (zjR hb g (by simp_all)).symm|exact (zgk hb g (by first|(simp_all;done)|(intro q;have:=(k_List_getElem__eq_some_iff.1 q).1;omega))).symm|(rw[zgk hb g (by first|(simp_all;done)|(intro q;have:=(k_List_getElem__eq_some_iff.1 q).1;omega))];simp)
   ·first|omega|(simp;omega)
   show (zeB t x).length-(i+1)<(zeB t x).length-i;omega
  refine zgK 9 K<|zbU K<|zci ?_;rintro D5 ⟨t5,F⟩;have v:=d3.call0 F;refine zF<|zaD K (fun e6=>?_) (fun e6=>?_)
  ·cases e6
  refine zdx<|zF<|zaM ?_;have g:∀ y0,(ziA zgI ((zeB t x).take i))[k]?=some y0→zgI y0 hd=false:=by
   intro y0 h0
   first
    | (exfalso;have:=(k_List_getElem__eq_some_iff.1 h0).1;omega)
    | (rw[hy] at h0;cases h0;first|assumption|(simp_all[sLt];done)|(simp_all;done))
  refine zcY zbh zch (Cls t5 _) (Cls.drew v)<|zew K K<|zbr C K<|ztO (B.up (A.trans F.le)) K zat K<|zwn K K K<|zjM K K<|ziW (d:=47) K (fun t6=>?_) (fun t6=>?_)
  ·refine zgK 9 K<|zbm K<|zci ?_;rintro D6 ⟨D7,m⟩;have j9:=v.call0 m;refine zF<|zaD K (fun e7=>?_) (fun e7=>?_)
   ·have f213:=Sl.take B (k:=k) zW;have e8:=((I.t A).trans F.le).trans m.le;obtain ⟨D8,D9,_,k0,k1,hr_hd⟩:=Sl.elem (f29.up e8) hhd;obtain ⟨rfl,k2,y1⟩:=hr_hd;simp only[big] at k2;have f221:=Sl.drop B (k:=k) zW;refine zgR (er:=([],[7],[1,11],[],0)) (dsts:=(zbP 58 15++[7])) j9 zbh<|zbq (.res (fun _ res_=>∃ p,res_=.slice p 0 0) (fun _ _ _ _ f=>f)) ?_ ?_
    ·intro n wD S o T hO;have k3:=St.start T;exact ziX k3 K ⟨_,zaj⟩ zat<|fun E0 E1 f225 k4=>zl ⟨_,_,K,k4,_,K,f225⟩
    refine zL (zbw C K)<|zL (zho K) ?_;refine zL (ziK (B.up ((A.trans F.le).trans m.le)) rfl rfl (hk:=rfl) zW zat zaj) ?_;refine zcf<|zL (zbw c K)<|zL (zho K)<|zL (zdW k0 zat zaj K)<|zas (fun n wD S o T hO _ _=>(zaQ (o.sub T) k1 K zcm zaj K))<|zbq (.res (fun h' res_=>Sl zhb h' res_ ([hd])) (fun _ _ _ hl f=>f.up hl)) ?_ ?_
    ·intro n wD S o T hO _ _;have k5:=St.start T;exact zA zhb [hd] [zae hd.stem,.int .u8 hd.mark] k5 (Enc.cons (L:=zhb) (vs:=[zae hd.stem,.int .u8 hd.mark]) (x:=hd) (h:=n) (⟨rfl,zcn,zfb⟩) Enc.nil) K zat Tryz.info38 zch<|fun E2 E3 E4 y2 f230 k6=>zl ⟨_,_,K,k6,_,K,f230⟩
    refine zcf<|zL (zbw C K)<|zL (zho K) ?_;refine zL (zit (B.up ((A.trans F.le).trans m.le)) rfl rfl (hk:=rfl) zW zat zaj) ?_;refine zcf<|zcf<|zdy<|fun c0 E5 _ c1 k7 p6 a4 _ _=>?_;have k8:=k7.snoc;have f240:=OSl.nil zhb 38 c0;have f241:=OSl.nil0 zhb 38 c0 a4;have e9:=((A.trans F.le).trans m.le).t c1;refine zbe (k:=0) (nb:=24) k8 f241 rfl (f213.up e9) rfl rfl rfl zat Tryz.info38 rfl rfl rfl (by decide) rfl zgn zgn ?_;intro E6 E7 E8 _ t7 f246 k9;subst t7;refine zl ⟨_,K,_,_,Le.refl _,k9,?_⟩;intro y3 E9 _ z l0 gv9_0x249 gf9_0x249;refine zbe (k:=0) (nb:=24) l0 (f246.up z) rfl gf9_0x249 rfl rfl rfl zat Tryz.info38 rfl rfl rfl (by decide) rfl zgn zgn ?_;intro F0 F1 F2 _ t8 f258 l1;subst t8;refine zl ⟨_,K,_,_,Le.refl _,l1,?_⟩;intro y4 F3 _ a0 l2 _ _;refine zbe (k:=0) (nb:=24) l2 (f258.up a0) rfl (f221.up ((e9.t z).t a0)) rfl rfl rfl zat Tryz.info38 rfl rfl rfl (by decide) rfl zgn zgn ?_;intro g0 F4 F5 _ t9 f269 l3;subst t9;refine zl ⟨_,K,_,_,Le.refl _,l3,?_⟩;intro y5 F6 _ c2 l4 p7 p8 _ _ _ _ _ _ _ _ _ _ _ _ _ _ gv9_0x271 gf9_0x271 _ _ _ _ _ _;refine zH g0 K<|zl ⟨_,K,_,_,Le.refl _,l4,?_⟩;intro y6 F7 _ c3 l5 p9 q0 _ _ _ _ _ _ _ _ _ _ _ _ _ _ gv9_0x280 gf9_0x280 _ _ _ _ _ _;refine zbT.fin K<|zaF<|N K<|zo K zbj<|U K<|D ?_;obtain ⟨v0,l6,f283,l7⟩:=OSl.freeze (k:=0) l5 (f269.up (c2.t c3)) rfl zgn;have v1:=(((((e8.t c1).t z).t a0).t c2).t c3).t l6;refine ⟨⟨i+1,g0,v0⟩,⟨rfl,K,trivial⟩,?_,⟨v1,l7.take 0,?_,?_⟩,?_⟩
    ·exact zba
    ·refine Sl.to f283 ?_;rw[zbg hhd,zle]
     first|exact (zjR hb g (by simp_all)).symm|exact (zgk hb g (by first|(simp_all;done)|(intro q;have:=(k_List_getElem__eq_some_iff.1 q).1;omega))).symm|(rw[zgk hb g (by first|(simp_all;done)|(intro q;have:=(k_List_getElem__eq_some_iff.1 q).1;omega))];simp)
    ·first|omega|(simp;omega)
    show (zeB t x).length-(i+1)<(zeB t x).length-i;omega
   cases e7
  refine zc K<|zbr C K<|zc K<|zew K K<|zc K ?_;obtain ⟨y,hy⟩:∃ y_,((ziA zgI ((zeB t x).take i)))[k]?=some y_:=zdl zW;obtain ⟨F8,F9,_,l8,l9,hr_y⟩:=Sl.elem (B.up (A.trans F.le)) hy;obtain ⟨rfl,m0,y7⟩:=hr_y;simp only[big] at m0;refine zag l8 zat zaj K<|zc K<|zdp l9 zcm zaj K<|zc K<|zbr c K<|zc K<|zew K K<|zc K ?_;obtain ⟨G0,G1,_,c4,c5,hr_hd⟩:=Sl.elem (f29.up ((I.t A).trans F.le)) hhd;obtain ⟨rfl,m1,y8⟩:=hr_hd;simp only[big] at m1;refine zag c4 zat zaj K<|zc K<|zdp c5 zcm zaj K<|zc K<|zbf K K (fun _ _=>(zkG K K zhR (Tryz.eq_Head y hd)))<|zbU K<|zci ?_;rintro G2 ⟨v2,Q⟩;have c6:=v.call0 Q;refine zF<|zV K (fun v3=>?_) (fun v3=>?_)
  ·have f303:=Sl.take B (k:=k) zW;have f304:=Sl.drop B (k:=k) zW;refine zgR (er:=([],[7],[1,11],[],0)) (dsts:=(zbP 58 15++[7])) c6 zbh<|zbq (.res (fun _ res_=>∃ p,res_=.slice p 0 0) (fun _ _ _ _ f=>f)) ?_ ?_
   ·intro n wD S o T hO;have m2:=St.start T;exact ziX m2 K ⟨_,zaj⟩ zat<|fun G3 G4 f308 m3=>zl ⟨_,_,K,m3,_,K,f308⟩
   refine zL (zbw C K)<|zL (zho K) ?_;refine zL (ziK (B.up ((A.trans F.le).trans Q.le)) rfl rfl (hk:=rfl) zW zat zaj) ?_;refine zcf<|zL (zbw c K)<|zL (zho K)<|zL (zdW c4 zat zaj K)<|zas (fun n wD S o T hO _ _=>(zaQ (o.sub T) (c5.up Q.le) K zcm zaj K))<|zbq (.res (fun h' res_=>Sl zhb h' res_ ([hd])) (fun _ _ _ hl f=>f.up hl)) ?_ ?_
   ·intro n wD S o T hO _ _;have m4:=St.start T;exact zA zhb [hd] [zae hd.stem,.int .u8 hd.mark] m4 (Enc.cons (L:=zhb) (vs:=[zae hd.stem,.int .u8 hd.mark]) (x:=hd) (h:=n) (⟨rfl,zcn,zfb⟩) Enc.nil) K zat Tryz.info38 zch<|fun G5 G6 G7 y9 f313 m5=>zl ⟨_,_,K,m5,_,K,f313⟩
   refine zcf<|zL (zbw C K)<|zL (zho K) ?_;refine zL (zit (B.up ((A.trans F.le).trans Q.le)) rfl rfl (hk:=rfl) zW zat zaj) ?_;refine zcf<|zcf<|zdy<|fun c7 G8 _ c8 m6 q1 a5 _ _=>?_;have m7:=m6.snoc;have f323:=OSl.nil zhb 38 c7;have f324:=OSl.nil0 zhb 38 c7 a5;have g1:=((A.trans F.le).trans Q.le).t c8;refine zbe (k:=0) (nb:=24) m7 f324 rfl (f303.up g1) rfl rfl rfl zat Tryz.info38 rfl rfl rfl (by decide) rfl zgn zgn ?_;intro G9 H0 H1 _ v4 f329 m8;subst v4;refine zl ⟨_,K,_,_,Le.refl _,m8,?_⟩;intro z0 H2 _ a1 m9 gv9_0x332 gf9_0x332;refine zbe (k:=0) (nb:=24) m9 (f329.up a1) rfl gf9_0x332 rfl rfl rfl zat Tryz.info38 rfl rfl rfl (by decide) rfl zgn zgn ?_;intro H3 H4 H5 _ v5 f341 o0;subst v5;refine zl ⟨_,K,_,_,Le.refl _,o0,?_⟩;intro z1 H6 _ a2 o1 _ _;refine zbe (k:=0) (nb:=24) o1 (f341.up a2) rfl (f304.up ((g1.t a1).t a2)) rfl rfl rfl zat Tryz.info38 rfl rfl rfl (by decide) rfl zgn zgn ?_;intro g2 H7 H8 _ v6 f352 o2;subst v6;refine zl ⟨_,K,_,_,Le.refl _,o2,?_⟩;intro z2 H9 _ c9 o3 q2 q3 _ _ _ _ _ _ _ _ _ _ _ _ _ _ gv9_0x354 gf9_0x354 _ _ _ _ _ _;refine zH g2 K<|zl ⟨_,K,_,_,Le.refl _,o3,?_⟩;intro z3 I0 _ d0 o4 q4 q5 _ _ _ _ _ _ _ _ _ _ _ _ _ _ gv9_0x363 gf9_0x363 _ _ _ _ _ _;refine zbT.fin K<|zaF<|N K<|zo K zbj<|U K<|D ?_;obtain ⟨v7,o5,f366,o6⟩:=OSl.freeze (k:=0) o4 (f352.up (c9.t d0)) rfl zgn;have v8:=((((((((I.t A).trans F.le).trans Q.le).t c8).t a1).t a2).t c9).t d0).t o5;refine ⟨⟨i+1,g2,v7⟩,⟨rfl,K,trivial⟩,?_,⟨v8,o6.take 0,?_,?_⟩,?_⟩
   ·exact zba
   ·refine Sl.to f366 ?_;rw[zbg hhd,zle]
    first|exact (zjR hb g (by simp_all)).symm|exact (zgk hb g (by first|(simp_all;done)|(intro q;have:=(k_List_getElem__eq_some_iff.1 q).1;omega))).symm|(rw[zgk hb g (by first|(simp_all;done)|(intro q;have:=(k_List_getElem__eq_some_iff.1 q).1;omega))];simp)
   ·first|omega|(simp;omega)
   show (zeB t x).length-(i+1)<(zeB t x).length-i;omega
  refine zbO<|zaF<|N K<|zo K zbj<|U K<|D<|have v9:=((I.t A).trans F.le).trans Q.le;⟨⟨i+1,C,v2⟩,⟨rfl,K,trivial⟩,?_,⟨v9,c6,?_,?_⟩,?_⟩
  ·exact zba
  ·refine Sl.to (B.up ((A.trans F.le).trans Q.le)) ?_;rw[zbg hhd,zle]
   first|exact (zjR hb g (by simp_all)).symm|exact (zgk hb g (by first|(simp_all;done)|(intro q;have:=(k_List_getElem__eq_some_iff.1 q).1;omega))).symm|(rw[zgk hb g (by first|(simp_all;done)|(intro q;have:=(k_List_getElem__eq_some_iff.1 q).1;omega))];simp)
  ·first|omega|(simp;omega)
  show (zeB t x).length-(i+1)<(zeB t x).length-i;omega
 refine zdx<|zF<|zw<|zk C K<|zH C K<|U K<|ze<|zbu Tryz.results77<|⟨e,_,K,d8.done,?_⟩;refine ⟨_,zfS K (zan ?_),Sl.to B ?_⟩
 ·exact q7.symm
 rw[zS zW];simp[zqN,q7]
theorem zur (hs:Sub h w) (a:Str) (a_le:a.length≤281474976710656) (b:Str) (b_le:b.length≤281474976710656):Calls Tryz.prog 122 #[zae a,zae b] w (zbH h w (fun _ _ res_=>res_=iV (zqP a b))):=by
 refine (Tryz.strings_Compare ⟨a.toArray⟩ ⟨b.toArray⟩ w).mono ?_;rintro e w' ⟨rfl,rfl⟩;exact ⟨h,_,K,St.start hs,K⟩
theorem zxu (hs:Sub h w) {a:Head} (a_l1:a.stem.length≤281474976710656) (a_l2:0≤a.mark∧a.mark≤255) {b:Head} (b_l1:b.stem.length≤281474976710656) (b_l2:0≤b.mark∧b.mark≤255):Calls Tryz.prog 121 #[.agg #[zae a.stem,.int .u8 a.mark],.agg #[zae b.stem,.int .u8 b.mark]] w (zbH h w (fun _ _ res_=>res_=iV (zpN a b))):=by
 refine zg 21 Tryz.func121 K<|have P:=zcu hs;zw<|J [zae a.stem,.int .u8 a.mark] P K<|fun f g i c I Q=>J [zae b.stem,.int .u8 b.mark] Q K<|fun j l m C F A=>U K<|D<|zav<|Z zeD K zap<|Y 0 A.sub (I.up C) zaZ K<|Z zeD K zap<|Y 0 A.sub F zaZ K<|zi A K Tryz.call122 (zur A.sub _ zcn _ zcn)<|fun d e L H B S=>?_;obtain rfl:=S;have hcb:=zxl a.stem b.stem;refine U K<|D<|zw<|N K<|zar K<|D<|zV K (fun T=>?_) (fun T=>?_)
 ·refine zw<|N K<|U K<|ze<|zN<|zf Tryz.results121<|⟨L,_,K,B.done,?_⟩;refine zan ?_;simp_all[zpN]
 refine zgg<|zw<|Z zeD K zcg<|Y 1 B.sub (I.up (C.t H)) zda K ?_;refine zax rfl rfl (zkH rfl rfl zcW (IntWalk.i64_in _ zW)) ?_;refine Z zeD K zcg<|Y 1 B.sub (F.up H) zda K ?_;refine zax rfl rfl (zkH rfl rfl zcW (IntWalk.i64_in _ zW)) ?_;refine zja K K zbj K<|U K<|ze<|zf Tryz.results121<|⟨L,_,K,B.done,?_⟩;refine zan ?_;simp_all[zpN]
theorem zpx (hs:Sub h w) {o_b:Nat} {o:Office} {o_v0:Value} (o_f0:Sl zeE h o_v0 o.lex.rules) {o_v1:Value} (o_f1:Sl zaG h o_v1 o.lex.decisions) {o_v2:Value} (o_f2:Sl zaN h o_v2 o.text.chapters) {o_v3:Value} (o_f3:FML (fun n:Int=>iV n) (fun x:Decision=>[iV x.number,.int .u8 x.kind,zae x.form,iV x.at_.chapter,iV x.at_.line,iV x.at_.word,zae x.to.stem,.int .u8 x.to.mark,iV x.of_]) zaG h o.stands o_v3) (o_c:zaL h o_b 0 [o_v0,o_v1,o_v2,o_v3]) (K1:zaL h 1 0 Tryz.glob1) (ho:OkO o):Calls Tryz.prog 119 #[.pointer (some ⟨o_b,0,none⟩)] w (fun e_ w'=>∃ h' res_ o_,e_=.returned res_∧Le h h'∧St h w h' w' [o_]∧OSl ziY 181 h' res_ (zhN o.text o.lex) o_):=by
 refine zg 55 Tryz.func119 K<|have c9:=zcu hs;have c5:=o_f0.le;have c6:=o_f1.le;have c8:=o_f2.le;have ht:=zei ho.1;have hchl:=zgY ht;zw<|zdD K K<|D<|zw<|zdD K K<|D<|zav<|zno K K<|zU K (zdH K)<|Z ziv K zac<|Z zaY K zbW<|Y 2 c9.sub o_c zcJ K<|zG o_f2 zaJ K<|N K<|D<|zT ?_;have d4:=c9.snoc;have f5:=OSl.nil ziY 181 h;refine zaI (zbP 3 7++zbP 16 38) (G:=Nat×Value×List (Nat×Obj)×Heap) (fun ⟨i,A,B,v⟩=>[(3,A),(16,iV (i:Int))]) (fun ⟨i,A,B,v⟩ w'=>Le h v∧St h w v w' [B]∧(OSl ziY 181 v A (((List.range i).flatMap (zkV o.text)).map (zlZ o.text o.lex)) B)∧(i≤o.text.chapters.length)) (fun ⟨i,A,B,v⟩=>o.text.chapters.length-i) ⟨0,(.slice none 0 0),[],h⟩ ⟨rfl,rfl,trivial⟩ ⟨Le.refl _,d4,(OSl.to f5 (by rfl)),zbB⟩ ?_;rintro ⟨i,A,B,v⟩ _ w6 ⟨Q,y,P,hi⟩;refine zw<|zM K<|D<|zaM<|zV K (fun c7=>?_) (fun c7=>?_)
 ·refine zaS<|zT<|zw<|N K ?_;obtain ⟨c,hc⟩:∃ y_,(o.text.chapters)[i]?=some y_:=zdl zW;obtain ⟨b8,o9,_,a1,a2,hr_c⟩:=Sl.elem (o_f2.up Q) hc;obtain ⟨e6,rfl,f13⟩:=hr_c;have d2:=f13.le;refine zx a1 zaJ zbA K<|E y.sub a2 zjl zbA K<|zaf y zgN K K<|fun e7 e8 a3=>U K<|zaU 1 a3 K (zbI K (zbI f13.one zgB)) zbA<|fun e9 a4=>?_;obtain ⟨d0,C,a5,g⟩:=a4.freeze (k:=1) rfl;have a6:=zaL.of a5;refine zl ?_;have q5:=ziR ht i;rw[zgW hc] at q5;refine zF<|zw<|Z zaP K zcj<|Y 1 g.sub a6 zdd K<|zG (f13.up C) zaW K<|N K<|D<|zT ?_;refine zaI ([3,6,7,8,9]++zbP 24 29) (G:=Nat×Value×List (Nat×Obj)×Heap) (fun ⟨n,A,B,S⟩=>[(3,A),(24,iV (n:Int))]) (fun ⟨n,A,B,S⟩ w'=>Le d0 S∧St h w S w' [B,[]]∧(OSl ziY 181 S A (((List.range i).flatMap (zkV o.text)++(List.range n).flatMap (zlE o.text i)).map (zlZ o.text o.lex)) B)∧(n≤c.lines.length)) (fun ⟨n,A,B,S⟩=>c.lines.length-n) ⟨0,A,B,d0⟩ ⟨rfl,rfl,trivial⟩ ⟨Le.refl _,g,(OSl.to (P.up C) (by simp)),zbB⟩ ?_;rintro ⟨n,A,B,S⟩ _ g0 ⟨F,b,P,hn⟩;refine zw<|zM K<|D<|zaM<|zV K (fun d5=>?_) (fun d5=>?_)
  ·refine zaS<|zT<|zw<|N K ?_;obtain ⟨ln,hln⟩:∃ y_,(c.lines)[n]?=some y_:=zdl zW;obtain ⟨g1,g2,_,a7,a8,hr_ln⟩:=Sl.elem (f13.up (C.t F)) hln;obtain ⟨z,rfl,f34⟩:=hr_ln;have d3:=f34.le;refine zx a7 zaW zeY K<|Y 0 b.sub a8 zfK K<|U K<|zH z K<|zl ?_;have q4:=zis ht i n;rw[zhp hc hln] at q4;refine zF<|zw<|zk z K<|zG f34 zJ K<|N K<|D<|zT ?_;refine zaI ([3,8,9]++zbP 31 21) (G:=Nat×Value×List (Nat×Obj)×Heap) (fun ⟨m,A,B,T⟩=>[(3,A),(31,iV (m:Int))]) (fun ⟨m,A,B,T⟩ w'=>Le S T∧St h w T w' [B,[]]∧(OSl ziY 181 T A (((List.range i).flatMap (zkV o.text)++(List.range n).flatMap (zlE o.text i)++(List.range m).map (mkP i n)).map (zlZ o.text o.lex)) B)∧(m≤ln.length)) (fun ⟨m,A,B,T⟩=>ln.length-m) ⟨0,A,B,S⟩ ⟨rfl,rfl,trivial⟩ ⟨Le.refl _,b,(OSl.to P (by simp)),zbB⟩ ?_;rintro ⟨m,A,B,T⟩ _ g3 ⟨H,j,P,hm⟩;refine zw<|zM K<|D<|zaM<|zV K (fun d6=>?_) (fun d6=>?_)
   ·refine zaS<|zT<|zw<|N K<|U K<|D<|zw<|N K<|N K<|N K<|zU K (zdT (cs:=[iV (i:Int),iV (n:Int),iV (m:Int)]) zch)<|zaf j zjx K K<|fun g4 g5 a9=>zq 2 a9 K zR<|fun g6 b0=>?_;obtain ⟨g7,I,b1,b2⟩:=b0.freeze (k:=2) rfl;have l:=zaL.of b1;refine D ?_;have a0:=zwK (w:=m) hc hln zW;have hhd:=zzg ho.1 a0;simp only[mkP] at a0 hhd;obtain ⟨wd,hwd⟩:∃ y_,(ln)[m]?=some y_:=zdl zW;obtain ⟨g8,g9,_,b3,b4,hr_wd⟩:=Sl.elem (f34.up (H.t I)) hwd;obtain ⟨rfl,b5⟩:=hr_wd;simp only[big] at b5;refine zgR (er:=([],[3],[0],[],0)) (dsts:=(zbP 38 13++[3])) b2 zbh<|zL (zbw A K)<|zas (fun hD wD d a e hO=>(zaQ (a.sub e) l K zaE zR K))<|zL (zbw z K)<|zL (zho K)<|zL (zdW b3 zJ zap K)<|zas (fun hD wD d a e hO _ _=>(zm 0 (a.sub e) b4 zaZ K))<|zL (zks K)<|zas (fun hD wD d a e hO=>(zaQ (a.sub e) l K zaE zR K))<|zbq (.det (.agg (List.toArray [iV ((zhz (o).lex ((Place.mk (i:Int) (n:Int) (m:Int))) (zbY (o).text ((Place.mk (i:Int) (n:Int) (m:Int))))).number),.int .u8 ((zhz (o).lex ((Place.mk (i:Int) (n:Int) (m:Int))) (zbY (o).text ((Place.mk (i:Int) (n:Int) (m:Int))))).kind),zae ((zhz (o).lex ((Place.mk (i:Int) (n:Int) (m:Int))) (zbY (o).text ((Place.mk (i:Int) (n:Int) (m:Int))))).form),iV ((zhz (o).lex ((Place.mk (i:Int) (n:Int) (m:Int))) (zbY (o).text ((Place.mk (i:Int) (n:Int) (m:Int))))).at_.chapter),iV ((zhz (o).lex ((Place.mk (i:Int) (n:Int) (m:Int))) (zbY (o).text ((Place.mk (i:Int) (n:Int) (m:Int))))).at_.line),iV ((zhz (o).lex ((Place.mk (i:Int) (n:Int) (m:Int))) (zbY (o).text ((Place.mk (i:Int) (n:Int) (m:Int))))).at_.word),zae ((zhz (o).lex ((Place.mk (i:Int) (n:Int) (m:Int))) (zbY (o).text ((Place.mk (i:Int) (n:Int) (m:Int))))).to.stem),.int .u8 ((zhz (o).lex ((Place.mk (i:Int) (n:Int) (m:Int))) (zbY (o).text ((Place.mk (i:Int) (n:Int) (m:Int))))).to.mark),iV ((zhz (o).lex ((Place.mk (i:Int) (n:Int) (m:Int))) (zbY (o).text ((Place.mk (i:Int) (n:Int) (m:Int))))).of_)]))) ?_ ?_
    ·intro hD wD d a e hO _ _ _ _;have q:=St.start e;refine zau q rfl rfl rfl Tryz.call169 rfl (zpn q.sub (o:=o) (o_f0.up (((((Q.t C).t F).t H).t I).trans a)) (o_f1.up (((((Q.t C).t F).t H).t I).trans a)) (o_f2.up (((((Q.t C).t F).t H).t I).trans a)) (o_f3.up (((((Q.t C).t F).t H).t I).trans a)) (o_c.up (((((Q.t C).t F).t H).t I).trans a)) (p:=(Place.mk (i:Int) (n:Int) (m:Int))) (K1.up (((((Q.t C).t F).t H).t I).trans a)) (by exact ho) (by exact a0)) ?_;intro h0 h2 h3 e2 b6 d7;subst d7;exact zl ⟨_,_,K,b6,(),K,trivial⟩
    refine zL (zAG (us:=[zae ((zhz (o).lex ((Place.mk (i:Int) (n:Int) (m:Int))) (zbY (o).text ((Place.mk (i:Int) (n:Int) (m:Int))))).to.stem),.int .u8 ((zhz (o).lex ((Place.mk (i:Int) (n:Int) (m:Int))) (zbY (o).text ((Place.mk (i:Int) (n:Int) (m:Int))))).to.mark)]) K zQ K zcm zaj K K)<|zL (zdT (cs:=[iV (i:Int),iV (n:Int),iV (m:Int),zae wd,zae ((zhz (o).lex ((Place.mk (i:Int) (n:Int) (m:Int))) (zbY (o).text ((Place.mk (i:Int) (n:Int) (m:Int))))).to.stem),.int .u8 ((zhz (o).lex ((Place.mk (i:Int) (n:Int) (m:Int))) (zbY (o).text ((Place.mk (i:Int) (n:Int) (m:Int))))).to.mark)]) zch)<|zbq (.res (fun h' res_=>Sl ziY h' res_ ([(Entry.mk ((Place.mk (i:Int) (n:Int) (m:Int))) wd ((zhz (o).lex ((Place.mk (i:Int) (n:Int) (m:Int))) (zbY (o).text ((Place.mk (i:Int) (n:Int) (m:Int))))).to))])) (fun _ _ _ hl f=>f.up hl)) ?_ ?_
    ·intro hD wD d a e hO _ _;have b7:=St.start e;exact zA ziY [(Entry.mk ((Place.mk (i:Int) (n:Int) (m:Int))) wd ((zhz (o).lex ((Place.mk (i:Int) (n:Int) (m:Int))) (zbY (o).text ((Place.mk (i:Int) (n:Int) (m:Int))))).to))] [iV (i:Int),iV (n:Int),iV (m:Int),zae wd,zae ((zhz (o).lex ((Place.mk (i:Int) (n:Int) (m:Int))) (zbY (o).text ((Place.mk (i:Int) (n:Int) (m:Int))))).to.stem),.int .u8 ((zhz (o).lex ((Place.mk (i:Int) (n:Int) (m:Int))) (zbY (o).text ((Place.mk (i:Int) (n:Int) (m:Int))))).to.mark)] b7 (Enc.cons (L:=ziY) (vs:=[iV (i:Int),iV (n:Int),iV (m:Int),zae wd,zae ((zhz (o).lex ((Place.mk (i:Int) (n:Int) (m:Int))) (zbY (o).text ((Place.mk (i:Int) (n:Int) (m:Int))))).to.stem),.int .u8 ((zhz (o).lex ((Place.mk (i:Int) (n:Int) (m:Int))) (zbY (o).text ((Place.mk (i:Int) (n:Int) (m:Int))))).to.mark)]) (x:=(Entry.mk ((Place.mk (i:Int) (n:Int) (m:Int))) wd ((zhz (o).lex ((Place.mk (i:Int) (n:Int) (m:Int))) (zbY (o).text ((Place.mk (i:Int) (n:Int) (m:Int))))).to))) (h:=hD) (⟨rfl,zcn,zcn,zfb⟩) Enc.nil) K zef Tryz.info181 zch<|fun h4 h5 h6 e3 f65 b9=>zl ⟨_,_,K,b9,_,K,f65⟩
    refine zcf<|zcf<|zdy<|fun e4 h7 _ r c0 _ _ gv11_0x69 gf11_0x69 _ _=>?_;refine zbe (k:=0) (nb:=64) c0 (P.up (I.t r)) rfl gf11_0x69 rfl rfl rfl zef Tryz.info181 rfl rfl rfl (by decide) rfl (by have q1:=zfD (zjT ht) i;have q2:=zfD (zlY ht i) n;have q3:=zgY ht;have q4:=zis ht i n;have q5:=ziR ht i;rw[zgW hc] at q5;rw[zhp hc hln] at q4;simp only[zj,zaa,zfn,zy,zC];omega) (by have q1:=zfD (zjT ht) i;have q2:=zfD (zlY ht i) n;have q3:=zgY ht;have q4:=zis ht i n;have q5:=ziR ht i;rw[zgW hc] at q5;rw[zhp hc hln] at q4;simp only[zj,zaa,zfn,zy,zC];omega) ?_;intro d1 d8 h8 _ d9 f78 c1;subst d9;refine zl ⟨_,K,_,_,Le.refl _,c1,?_⟩;intro e5 h9 _ s c2 _ _ _ _ _ _ _ _ _ _ _ _ _ _ _ _ _ _ _ _ _ _ gv11_0x80 gf11_0x80;refine zH d1 K<|zl ⟨_,K,_,_,Le.refl _,c2,?_⟩;intro c3 j0 _ u c4 _ _ _ _ _ _ _ _ _ _ _ _ _ _ _ _ _ _ _ _ _ _ gv11_0x89 gf11_0x89;refine zbT.fin K<|zaF<|zo K zbj<|N K<|D<|have e0:=(((H.t I).t r).t s).t u;⟨⟨m+1,d1,d8,c3⟩,⟨rfl,K,trivial⟩,?_,⟨e0,c4.take 2,?_,?_⟩,?_⟩
    ·exact zba
    ·refine OSl.to (f78.up (s.t u)) ?_;have hww:=zzf hc hln hwd;simp only[mkP] at hww;rw[zdb];simp only[zaz,zaB,zbQ,zfm,zlZ,zkI,mkP,hww]
    ·first|omega|(simp;omega)
    show ln.length-(m+1)<ln.length-m;omega
   refine zdx<|zaF<|zo K zbj<|N K<|D<|⟨⟨n+1,A,B,T⟩,⟨rfl,K,trivial⟩,?_,⟨(F.t H),j,?_,?_⟩,?_⟩
   ·exact zba
   ·refine OSl.to P ?_;rw[zeR,← zph hc hln (w:=m) zW,zaB]
   ·first|omega|(simp;omega)
   show c.lines.length-(n+1)<c.lines.length-n;omega
  refine zdx<|zaF<|zo K zbj<|N K<|D<|have e1:=(Q.t C).t F;⟨⟨i+1,A,B,S⟩,⟨rfl,K,trivial⟩,?_,⟨e1,b.take 1,?_,?_⟩,?_⟩
  ·exact zba
  ·refine OSl.to P ?_;rw[zeR,← zpm hc (n:=n) zW]
  ·first|omega|(simp;omega)
  show o.text.chapters.length-(i+1)<o.text.chapters.length-i;omega
 refine zdx<|zF<|zw<|zk A K<|zH A K<|ze<|zf Tryz.results119<|⟨v,_,_,K,Q,y,OSl.to P ?_⟩;rw[show i=o.text.chapters.length by omega];rfl
theorem zus (hs:Sub h w) {t:Text} (t_f0:Sl zaN h t_v0 t.chapters) (x_f0:Sl zeE h x_v0 x.rules) (x_f1:Sl zaG h x_v1 x.decisions) (hd_l1:hd.stem.length≤281474976710656) (hd_l2:0≤hd.mark∧hd.mark≤255) (K1:zaL h 1 0 Tryz.glob1):Calls Tryz.prog 83 #[.agg #[t_v0],.agg #[x_v0,x_v1],.agg #[zae hd.stem,.int .u8 hd.mark]] w (zbH h w (fun h' _ res_=>∃ u0,res_=.tuple #[u0,iV (ziD t x hd)]∧Sl ziY h' u0 (zig t x hd))):=by
 refine zg 31 Tryz.func83 K<|have a5:=zcu hs;have z:=t_f0.le;have a0:=x_f0.le;have a1:=x_f1.le;zw<|J [t_v0] a5 K<|fun b1 w2 h3 a6 a7 a8=>J [x_v0,x_v1] a8 K<|fun b7 w8 h9 a f i=>J [zae hd.stem,.int .u8 hd.mark] i K<|fun a9 c2 c3 H b C=>zdD K K<|U K<|D<|zw<|E C.sub (a7.up (a.t H)) zaX zac K<|E C.sub (f.up H) zeK zcL K<|have I:=(a6.t a).t H;zi C K Tryz.call118 (zvN C.sub (t:=t) (t_f0.up I) (x:=x) (x_f0.up I) (x_f1.up I) (K1.up I))<|fun c4 c5 j L B S=>?_
 rcases zbN (decide (zcZ (t) (x)=0)) with P|P
 ·simp only[P,if_true,if_false,zbd,reduceIte] at S;obtain ⟨c6,rfl,f28⟩:=S;obtain ⟨c7,b9,rfl,l,m⟩:=f28;obtain ⟨c8,c9,d0,d1,rfl,f34,f36,f38,n⟩:=m;have a2:=f34.le;have a3:=f36.le;have a4:=f38.le;refine zeZ K K<|zcv K<|zB K<|zlx K K<|U K<|D<|zav<|N K<|zar K<|D<|zV K (fun p=>?_) (fun p=>?_)
  ·refine zw<|N K<|zdD K K<|U K<|ze<|zN<|zbu Tryz.results83<|⟨j,_,K,B.done,?_⟩;refine ⟨_,zfS K (zan ?_),Sl.to (Sl.nil _ _) ?_⟩
   all_goals simp_all[zig,ziD]
  refine zaS<|zw<|E B.sub (b.up L) zcm zaj K<|zi B K Tryz.call131 (zoR B.sub (hd:=hd) zcn zfb)<|fun d2 d3 b0 A Q b2=>?_;subst b2;refine zdJ K K<|D<|zaD K (fun r=>?_) (fun r=>?_)
  ·refine zw<|zdD K K<|U K<|ze<|zN<|zbu Tryz.results83<|⟨b0,_,K,Q.done,?_⟩;refine ⟨_,zfS K (zan ?_),Sl.to (Sl.nil _ _) ?_⟩
   all_goals simp_all[zig,ziD]
  refine zaS ?_;have F:zcZ t x=0:=by simpa using p
  have d:zlo hd=true:=by simpa using r
  refine zah<|zno K K ?_;have b3:=(I.t L).t A;refine zcG rfl rfl (zcT rfl Tryz.call119 rfl) ((zpx Q.sub (o:=(Office.mk x t (zkq x))) (f34.up A) (f36.up A) (f38.up A) (n.up A) (l.up A) (K1.up b3) (by exact ⟨F,rfl⟩)).mono ?_);rintro _ d4 ⟨d5,d6,d7,rfl,s,b4,f56⟩;refine ⟨_,K,?_⟩;have u:=Q.call b4;have f58:=OSl.to f56 (show _=(zhN t x) from rfl);refine zgm K K K ?_;have con:=zkM (rest:=[]) f58 (g:=133) (caps:=[.pointer (some ⟨a9,0,none⟩)]) (fun x_=>decide ((x_).head≠(hd))) (by have:=zrP (zei F) x;omega) Tryz.call133 (fun x_ h_ w_ vs_ le_ hs_ hx_ hr_ u_ hu_=>by obtain ⟨rfl,f0_,f1_,f2_⟩:=hr_;cases hu_;simp only[big] at *;exact zxs hs_ (y:=x_) f0_ f1_ f2_ (hd:=hd) (by assumption) (by assumption) ((b.up ((L.t A).t s)).up le_)) u;refine zcG K K (zcT K Tryz.call132 K) (con.mono ?_);rintro _ d8 ⟨b5,d9,T,rfl,c0,c,f65⟩;refine ⟨_,K,?_⟩;clear con;refine zH T K<|zl ?_;have huf:=zqC t x hd;have hel:=zrP (zei F) x;have hfl:=zak (fun y:Entry=>!decide (y.head≠hd)) (zhN t x);have hul:((zhN t x).filter fun y=>!decide (y.head≠hd)).length=(zds t x hd).length:=by rw[huf,zaa]
  refine zF<|zav<|zk T K<|zlW f65 K zef K<|zgL K K K<|D<|zV K (fun e=>?_) (fun e=>?_)
  ·refine zw<|zdD K K<|U K<|ze<|zN<|zbu Tryz.results83<|⟨b5,_,K,c.done,?_⟩;refine ⟨_,zfS K (zan ?_),Sl.to (Sl.nil _ _) ?_⟩
   all_goals (have q1:=e)
   all_goals (have q2:zds t x hd=[]:=zee zW)
   all_goals simp[zig,ziD,F,d,q2]
  refine zgg<|zw<|zk T K<|zH T K<|U K<|ze<|zbu Tryz.results83 ?_;obtain ⟨b6,c1,f69,v⟩:=OSl.freeze (k:=0) c f65 rfl zW;refine ⟨b6,_,K,v.done,?_⟩;refine ⟨_,zfS K (zan ?_),Sl.to f69 ?_⟩
  all_goals (have q1:=e)
  all_goals (have q2:¬ zds t x hd=[]:=by intro q;rw[q] at hul;simp only[zC] at hul;omega)
  ·simp[ziD,F,d,q2]
  simp only[zig,ziD,F,d,q2,if_true,if_false]
 simp only[P,if_true,if_false,zbd,reduceIte] at S;obtain ⟨e0,rfl,f72⟩:=S;subst f72;refine zeZ K K<|zdm K<|zB K<|zfj K K<|U K<|D<|zav<|N K<|zar K<|D<|zV K (fun b8=>?_) (fun b8=>?_)
 ·refine zw<|N K<|zdD K K<|U K<|ze<|zN<|zbu Tryz.results83<|⟨j,_,K,B.done,?_⟩;refine ⟨_,zfS K (zan ?_),Sl.to (Sl.nil _ _) ?_⟩
  all_goals simp_all[zig,ziD]
 exfalso;simp_all
theorem zzI (hs:Sub h w) {t:Text} (t_f0:Sl zaN h t_v0 t.chapters) (x_f0:Sl zeE h x_v0 x.rules) (x_f1:Sl zaG h x_v1 x.decisions) (hd_l1:hd.stem.length≤281474976710656) (hd_l2:0≤hd.mark∧hd.mark≤255) (K1:zaL h 1 0 Tryz.glob1):Calls Tryz.prog 46 #[.agg #[t_v0],.agg #[x_v0,x_v1],.agg #[zae hd.stem,.int .u8 hd.mark]] w (zbH h w (fun h' _ res_=>∃ u0,res_=.tuple #[u0,iV (ziD t x hd)]∧Sl zdO h' u0 (zki t x hd))):=by
 refine zg 36 Tryz.func46 K<|have b0:=zcu hs;have a5:=t_f0.le;have a6:=x_f0.le;have a7:=x_f1.le;zw<|J [t_v0] b0 K<|fun b1 w2 h3 b2 b3 b4=>J [x_v0,x_v1] b4 K<|fun b7 w8 h9 a j l=>J [zae hd.stem,.int .u8 hd.mark] l K<|fun c7 c8 c9 H m B=>zdD K K<|U K<|D<|zw<|E B.sub (b3.up (a.t H)) zaX zac K<|E B.sub (j.up H) zeK zcL K<|E B.sub m zcm zaj K<|have Q:=(b2.t a).t H;zi B K Tryz.call83 (zus B.sub (t:=t) (t_f0.up Q) (x:=x) (x_f0.up Q) (x_f1.up Q) (hd:=hd) zcn zfb (K1.up Q))<|fun d0 d1 S c4 b b5=>?_;obtain ⟨g,rfl,f27⟩:=b5;have a9:=f27.le;refine zeZ K K<|zbl g K<|zB K<|zH g K<|U K<|D<|zav<|N K<|zar K<|D<|zV K (fun n=>?_) (fun n=>?_)
 ·refine zw<|N K<|zdD K K<|U K<|ze<|zN<|zbu Tryz.results46<|⟨S,_,K,b.done,?_⟩;refine ⟨_,zfS K (zan ?_),Sl.to (Sl.nil _ _) ?_⟩
  all_goals simp_all[zki]
 refine zaS ?_;have T:ziD t x hd=0:=by simpa using n
 have b6:zcZ t x=0:=zry T;have hue:zig t x hd=(zds t x hd).map (zlZ t x):=by rw[zig,zab T,zqC]
 have hul:(zig t x hd).length≤600:=by rw[hue,zaa];exact zfl (zak _ _) (zgi (zei b6))
 refine zah<|zdD K K<|D<|zav<|zk g K<|zG f27 zef K<|N K<|D<|zT ?_;have o:=b.snoc;have f33:=OSl.nil zdO 68 S;refine zaI ([10,12]++zbP 25 10) (G:=Nat×Value×List (Nat×Obj)×Heap) (fun ⟨i,A,C,F⟩=>[(10,A),(25,iV (i:Int))]) (fun ⟨i,A,C,F⟩ w'=>Le S F∧St h w F w' [C]∧(OSl zdO 68 F A (((zig t x hd).take i).map (·.at_)) C)∧(i≤(zig t x hd).length)) (fun ⟨i,A,C,F⟩=>(zig t x hd).length-i) ⟨0,(.slice none 0 0),[],S⟩ ⟨rfl,rfl,trivial⟩ ⟨Le.refl _,o,(OSl.to f33 (by rfl)),zbB⟩ ?_;rintro ⟨i,A,C,F⟩ _ d2 ⟨c,I,P,hi⟩;refine zw<|zM K<|D<|zaM<|zV K (fun b8=>?_) (fun b8=>?_)
 ·refine zaS<|zT<|zw ?_;obtain ⟨y,hy⟩:∃ y_,((zig t x hd))[i]?=some y_:=zdl zW;obtain ⟨d3,d4,_,p,r,hr_y⟩:=Sl.elem (f27.up c) hy;obtain ⟨rfl,s,u,c5⟩:=hr_y;simp only[big] at s;simp only[big] at u;refine zx p zef zfP K<|E I.sub r zmM zfP K<|zaf I Tryz.zeroValue181 K K<|fun d5 d6 v=>zq 1 v K zfP<|fun d7 z=>?_;obtain ⟨b9,d,a0,e⟩:=z.freeze (k:=1) rfl;have a1:=zaL.of a0;refine D<|zah<|zk A K<|Z Tryz.underlying181 K zR<|zr 0 [iV y.at_.chapter,iV y.at_.line,iV y.at_.word] e.sub a1 zaE zR K<|zA zdO [y.at_] [iV y.at_.chapter,iV y.at_.line,iV y.at_.word] e (Enc.cons (L:=zdO) (vs:=[iV y.at_.chapter,iV y.at_.line,iV y.at_.word]) (x:=y.at_) (h:=b9) K Enc.nil) K zbp Tryz.info68 zch<|fun d8 d9 c0 f f55 a2=>?_;refine zbe (k:=0) (nb:=24) a2 (P.up (d.t f)) rfl f55 rfl rfl rfl zbp Tryz.info68 rfl rfl rfl (by decide) rfl (by have q:=zfh i (zig t x hd);simp only[zaa,zj,zy,zC];omega) (by have q:=zfh i (zig t x hd);simp only[zaa,zj,zy,zC];omega) ?_;intro a8 c1 e0 _ c2 f63 a3;subst c2;refine zH a8 K<|zl<|zaF<|zo K zbj<|N K<|D<|⟨⟨i+1,a8,c1,c0⟩,⟨rfl,K,trivial⟩,?_,⟨((c.t d).t f),a3.take 1,?_,?_⟩,?_⟩
  ·exact zba
  ·refine OSl.to f63 ?_;rw[zbg hy,zaz];rfl
  ·first|omega|(simp;omega)
  show (zig t x hd).length-(i+1)<(zig t x hd).length-i;omega
 refine zdx<|zF<|zw<|zk A K<|zH A K<|U K<|ze<|zbu Tryz.results46 ?_;obtain ⟨c3,c6,f67,a4⟩:=OSl.freeze (k:=0) I P rfl (by have q:=zfh i (zig t x hd);simp only[zaa,zj,zy,zC];omega);refine ⟨c3,_,K,a4.done,?_⟩;refine ⟨_,zfS K (zan ?_),Sl.to f67 ?_⟩
 ·exact T.symm
 rw[zS zW,hue,zhf,zki,zab T];exact List.map_id' _
theorem zzK (hs:Sub h w) {t:Text} (t_f0:Sl zaN h t_v0 t.chapters) (x_f0:Sl zeE h x_v0 x.rules) (x_f1:Sl zaG h x_v1 x.decisions) (hd_l1:hd.stem.length≤281474976710656) (hd_l2:0≤hd.mark∧hd.mark≤255) (K1:zaL h 1 0 Tryz.glob1):Calls Tryz.prog 84 #[.agg #[t_v0],.agg #[x_v0,x_v1],.agg #[zae hd.stem,.int .u8 hd.mark]] w (zbH h w (fun h' _ res_=>∃ u0,res_=.tuple #[u0,iV (ziD t x hd)]∧Sl zea h' u0 (zrL t x hd))):=by
 refine zg 39 Tryz.func84 K<|have c1:=zcu hs;have b5:=t_f0.le;have b6:=x_f0.le;have b8:=x_f1.le;zw<|J [t_v0] c1 K<|fun b1 w2 h3 c2 c3 c4=>J [x_v0,x_v1] c4 K<|fun b7 w8 h9 d r s=>J [zae hd.stem,.int .u8 hd.mark] s K<|fun d8 d9 e0 H u B=>zdD K K<|U K<|D<|zw<|E B.sub (c3.up (d.t H)) zaX zac K<|E B.sub (r.up H) zeK zcL K<|E B.sub u zcm zaj K<|have Q:=(c2.t d).t H;zi B K Tryz.call83 (zus B.sub (t:=t) (t_f0.up Q) (x:=x) (x_f0.up Q) (x_f1.up Q) (hd:=hd) zcn zfb (K1.up Q))<|fun e1 e2 S d4 e c5=>?_;obtain ⟨o,rfl,f27⟩:=c5;have c0:=f27.le;refine zeZ K K<|zbl o K<|zB K<|zH o K<|U K<|D<|zav<|N K<|zar K<|D<|zV K (fun v=>?_) (fun v=>?_)
 ·refine zw<|N K<|zdD K K<|U K<|ze<|zN<|zbu Tryz.results84<|⟨S,_,K,e.done,?_⟩;refine ⟨_,zfS K (zan ?_),Sl.to (Sl.nil _ _) ?_⟩
  all_goals simp_all[zrL]
 refine zaS ?_;have c:ziD t x hd=0:=by simpa using v
 have z:zcZ t x=0:=zry c;have hue:zig t x hd=(zds t x hd).map (zlZ t x):=by rw[zig,zab c,zqC]
 have hul:(zig t x hd).length≤600:=by rw[hue,zaa];exact zfl (zak _ _) (zgi (zei z))
 refine zah<|zdD K K<|D<|zav<|zk o K<|zG f27 zef K<|N K<|D<|zT ?_;have a0:=e.snoc;have f33:=OSl.nil zea 9 S;refine zaI ([10,12]++zbP 25 10) (G:=Nat×Value×List (Nat×Obj)×Heap) (fun ⟨i,A,C,F⟩=>[(10,A),(25,iV (i:Int))]) (fun ⟨i,A,C,F⟩ w'=>Le S F∧St h w F w' [C]∧(OSl zea 9 F A (((zig t x hd).take i).map (·.word)) C)∧(i≤(zig t x hd).length)) (fun ⟨i,A,C,F⟩=>(zig t x hd).length-i) ⟨0,(.slice none 0 0),[],S⟩ ⟨rfl,rfl,trivial⟩ ⟨Le.refl _,a0,(OSl.to f33 (by rfl)),zbB⟩ ?_;rintro ⟨i,A,C,F⟩ _ e3 ⟨g,I,P,hi⟩;refine zw<|zM K<|D<|zaM<|zV K (fun c6=>?_) (fun c6=>?_)
 ·refine zaS<|zT<|zw ?_;obtain ⟨y,hy⟩:∃ y_,((zig t x hd))[i]?=some y_:=zdl zW;obtain ⟨e4,e5,_,a1,a2,hr_y⟩:=Sl.elem (f27.up g) hy;obtain ⟨rfl,a3,a4,d5⟩:=hr_y;simp only[big] at a3;simp only[big] at a4;refine zx a1 zef zfP K<|E I.sub a2 zmM zfP K<|zaf I Tryz.zeroValue181 K K<|fun e6 e7 a5=>zq 1 a5 K zfP<|fun e8 a6=>?_;obtain ⟨c7,j,a7,m⟩:=a6.freeze (k:=1) rfl;have a8:=zaL.of a7;refine D<|zah<|zk A K<|Z Tryz.underlying181 K zap<|Y 3 m.sub a8 zaZ K<|zA zea [y.word] [zae y.word] m (Enc.cons (L:=zea) (vs:=[zae y.word]) (x:=(y.word)) (h:=c7) (⟨rfl,zcn⟩) Enc.nil) K zJ Tryz.info9 zch<|fun e9 g0 c8 n f55 a9=>?_;refine zbe (k:=0) (nb:=16) a9 (P.up (j.t n)) rfl f55 rfl rfl rfl zJ Tryz.info9 rfl rfl rfl (by decide) rfl (by have q:=zfh i (zig t x hd);simp only[zaa,zj,zy,zC];omega) (by have q:=zfh i (zig t x hd);simp only[zaa,zj,zy,zC];omega) ?_;intro b9 c9 g1 _ d0 f63 b0;subst d0;refine zH b9 K<|zl<|zaF<|zo K zbj<|N K<|D<|⟨⟨i+1,b9,c9,c8⟩,⟨rfl,K,trivial⟩,?_,⟨((g.t j).t n),b0.take 1,?_,?_⟩,?_⟩
  ·exact zba
  ·refine OSl.to f63 ?_;rw[zbg hy,zaz];rfl
  ·first|omega|(simp;omega)
  show (zig t x hd).length-(i+1)<(zig t x hd).length-i;omega
 refine zdx<|zF<|zw<|zk A K ?_;have con:=zHM (L:=zea) (T:=9) (f:=134) zae (by rintro _ _ _ ⟨rfl,_⟩;rfl) rfl (fun l=>l.mergeSort fun a b=>decide (a≤b)) (fun l=>List.mergeSort_perm _ _) (fun blk off cap zs w hH hb hs=>Tryz.slices_Sort_string blk off cap zs w hH hb hs) (fun p cap w=>Tryz.slices_Sort_string_none p cap w) (i:=0) I P rfl (by simp only[List.length_mergeSort,zaa,zt];omega);refine zcG K K (zcT K Tryz.call134 K) (con.mono ?_);rintro _ g2 ⟨rfl,g3,_,d1,f68,b2⟩;subst d1;refine ⟨_,K,?_⟩;clear con;refine D<|zw<|zk A K ?_;have con:=znI (rest:=[]) f68 (by simp only[List.length_mergeSort,zaa,zt];omega) b2;refine zcG K K (zcT K Tryz.call135 K) (con.mono ?_);rintro _ g4 ⟨g5,g6,d2,rfl,d6,b3,f76⟩;refine ⟨_,K,?_⟩;clear con;have f77:=OSl.to f76 (show _=(ziA sLt ((zds t x hd).map (zbY t))) from by rw[zS zW,hue,zhf];exact zBJ _);refine zH d2 K<|U K<|ze<|zbu Tryz.results84 ?_;obtain ⟨d3,d7,f80,b4⟩:=OSl.freeze (k:=0) b3 f77 rfl (by have q:=zom ztS ((zds t x hd).map (zbY t));have q2:(zds t x hd).length≤600:=zfl (zak _ _) (zgi (zei z));rw[zaa] at q;omega);refine ⟨d3,_,K,b4.done,?_⟩;refine ⟨_,zfS K (zan ?_),Sl.to f80 ?_⟩
 ·exact c.symm
 rw[zrL,zab c]
theorem zzJ (hs:Sub h w) {t:Text} (t_f0:Sl zaN h t_v0 t.chapters) (x_f0:Sl zeE h x_v0 x.rules) (x_f1:Sl zaG h x_v1 x.decisions) (K1:zaL h 1 0 Tryz.glob1):Calls Tryz.prog 76 #[.agg #[t_v0],.agg #[x_v0,x_v1]] w (zbH h w (fun h' _ res_=>∃ u0,res_=.tuple #[u0,iV (zcZ t x)]∧Sl zhb h' u0 (zqN t x))):=by
 refine zg 37 Tryz.func76 K<|have c8:=zcu hs;have b8:=t_f0.le;have b9:=x_f0.le;have c0:=x_f1.le;zw<|J [t_v0] c8 K<|fun b1 w2 h3 c9 d0 d1=>J [x_v0,x_v1] d1 K<|fun b7 w8 h9 e p B=>zdD K K<|U K<|D<|zw<|E B.sub (d0.up e) zaX zac K<|E B.sub p zeK zcL K<|have I:=c9.t e;zi B K Tryz.call118 (zvN B.sub (t:=t) (t_f0.up I) (x:=x) (x_f0.up I) (x_f1.up I) (K1.up I))<|fun e9 g0 r s C d=>?_
 rcases zbN (decide (zcZ (t) (x)=0)) with P|P
 ·simp only[P,if_true,if_false,zbd,reduceIte] at d;obtain ⟨g1,rfl,f22⟩:=d;obtain ⟨g2,e3,rfl,u,v⟩:=f22;obtain ⟨g3,g4,g5,g6,rfl,f28,f30,f32,z⟩:=v;have c3:=f28.le;have c4:=f30.le;have c5:=f32.le;refine zeZ K K<|zcv K<|zB K<|zlx K K<|U K<|D<|zav<|N K<|zar K<|D<|zV K (fun c1=>?_) (fun c1=>?_)
  ·refine zw<|N K<|zdD K K<|U K<|ze<|zN<|zbu Tryz.results76<|⟨r,_,K,C.done,?_⟩;refine ⟨_,zfS K (zan ?_),Sl.to (Sl.nil _ _) ?_⟩
   all_goals simp_all[zqN]
  refine zaS ?_;have Q:zcZ t x=0:=by simpa using c1
  have hel:=zrP (zei Q) x;refine zah<|zdD K K<|D<|zav<|zno K K ?_;have d2:=I.t s;refine zau C rfl rfl rfl Tryz.call119 rfl (zro C.sub (o:=(Office.mk x t (zkq x))) f28 f30 f32 z u (K1.up d2) (by exact ⟨Q,rfl⟩)) ?_;intro g7 g8 n e4 a0 d3;obtain ⟨g9,d4,f44⟩:=d3;rw[← d4] at f44;have c6:=f44.le;have f46:=Sl.to f44 (show _=(zhN t x) from rfl);have c7:=f46.le;refine zG f46 zef K<|N K<|D<|zT ?_;have a1:=a0.snoc;have f51:=OSl.nil zhb 38 n;refine zaI ([8,10]++zbP 23 10) (G:=Nat×Value×List (Nat×Obj)×Heap) (fun ⟨i,A,S,H⟩=>[(8,A),(23,iV (i:Int))]) (fun ⟨i,A,S,H⟩ w'=>Le n H∧St h w H w' [S]∧(OSl zhb 38 H A (((zhN t x).take i).map (·.head)) S)∧(i≤(zhN t x).length)) (fun ⟨i,A,S,H⟩=>(zhN t x).length-i) ⟨0,(.slice none 0 0),[],n⟩ ⟨rfl,rfl,trivial⟩ ⟨Le.refl _,a1,(OSl.to f51 (by rfl)),zbB⟩ ?_;rintro ⟨i,A,S,H⟩ _ h0 ⟨f,c,F,hi⟩;refine zw<|zM K<|D<|zaM<|zV K (fun d5=>?_) (fun d5=>?_)
  ·refine zaS<|zT<|zw ?_;obtain ⟨y,hy⟩:∃ y_,(zhN t x)[i]?=some y_:=zdl zW;obtain ⟨h1,h2,_,a2,a3,hr_y⟩:=Sl.elem (f46.up f) hy;obtain ⟨rfl,a4,a5,e5⟩:=hr_y;simp only[big] at a4;simp only[big] at a5;refine zx a2 zef zfP K<|E c.sub a3 zmM zfP K<|zaf c Tryz.zeroValue181 K K<|fun h4 h5 a6=>zq 1 a6 K zfP<|fun h6 a7=>?_;obtain ⟨d6,j,a8,l⟩:=a7.freeze (k:=1) rfl;have a9:=zaL.of a8;refine D<|zah<|zk A K<|Z Tryz.underlying181 K zaj<|zr 4 [zae y.head.stem,.int .u8 y.head.mark] l.sub a9 zcm zaj K<|zA zhb [y.head] [zae y.head.stem,.int .u8 y.head.mark] l (Enc.cons (L:=zhb) (vs:=[zae y.head.stem,.int .u8 y.head.mark]) (x:=y.head) (h:=d6) (⟨rfl,zcn,zfb⟩) Enc.nil) K zat Tryz.info38 zch<|fun h7 h8 d7 m f73 b0=>?_;refine zbe (k:=0) (nb:=24) b0 (F.up (j.t m)) rfl f73 rfl rfl rfl zat Tryz.info38 rfl rfl rfl (by decide) rfl (by have q:=zfh i (zhN t x);simp only[zaa,zj,zy,zC];omega) (by have q:=zfh i (zhN t x);simp only[zaa,zj,zy,zC];omega) ?_;intro c2 d8 j0 _ d9 f81 b2;subst d9;refine zH c2 K<|zl<|zaF<|zo K zbj<|N K<|D<|⟨⟨i+1,c2,d8,d7⟩,⟨rfl,K,trivial⟩,?_,⟨((f.t j).t m),b2.take 1,?_,?_⟩,?_⟩
   ·exact zba
   ·refine OSl.to f81 ?_;rw[zbg hy,zaz];rfl
   ·first|omega|(simp;omega)
   show (zhN t x).length-(i+1)<(zhN t x).length-i;omega
  refine zdx<|zF<|zaM ?_;have hhl:((zhN t x).take i).map (·.head)=zeB t x:=by rw[zS zW,zhN,zhf];rfl
  refine zah<|zk A K ?_;have con:=zAp (L:=zhb) (T:=38) Tryz.sort_api_Head zcm zaj (by decide) (fun x:Head=>[zae x.stem,.int .u8 x.mark]) (by rintro _ _ _ ⟨rfl,_⟩;rfl) zpN zEl (g:=121) (caps:=[]) (i:=0) c F rfl (by first|(have q9:=hp_ys.length_eq;simp only[zaa,zt] at *;omega)|(simp only[zaa,zt];omega)) Tryz.call121 ?_
  rotate_left
  ·intro a_ ha_ b_ hb_ w_ hs_;obtain ⟨_,rfl,p0,p1⟩:=OSl.memR F ha_;obtain ⟨_,rfl,q0,q1⟩:=OSl.memR F hb_;simp only[big] at *;exact zxu hs_ (a:=a_) p0 p1 (b:=b_) q0 q1
  refine zcG K K (zcT K Tryz.call120 K) (con.mono ?_);rintro _ j1 ⟨rfl,ys,j2,_,e0,hp_ys,hw_ys,f86,b3⟩;subst e0;refine ⟨_,K,?_⟩;clear con;refine D<|zw<|zk A K ?_;have con:=zms (rest:=[]) f86 (by first|(have q9:=hp_ys.length_eq;simp only[zaa,zt] at *;omega)|(simp only[zaa,zt];omega)) b3;refine zcG K K (zcT K Tryz.call123 K) (con.mono ?_);rintro _ j3 ⟨j4,j5,e1,rfl,e6,b4,f94⟩;refine ⟨_,K,?_⟩;clear con;have f95:=OSl.to f94 (show _=(ziA zgI (zeB t x)) from zsV znx (hhl▸hp_ys) (hw_ys.imp fun h=>by rw[← zxm];simpa using h));refine zH e1 K<|U K<|ze<|zbu Tryz.results76 ?_;obtain ⟨e2,e7,f98,b5⟩:=OSl.freeze (k:=0) b4 f95 rfl (by have q:=zom znx (zeB t x);have q2:=zgi (zei Q);rw[zeB,zaa] at q;simp only[zeB] at *;omega);refine ⟨e2,_,K,b5.done,?_⟩;refine ⟨_,zfS K (zan ?_),Sl.to f98 ?_⟩
  ·exact Q.symm
  simp[zqN,Q]
 simp only[P,if_true,if_false,zbd,reduceIte] at d;obtain ⟨e8,rfl,f101⟩:=d;subst f101;refine zeZ K K<|zdm K<|zB K<|zfj K K<|U K<|D<|zav<|N K<|zar K<|D<|zV K (fun b6=>?_) (fun b6=>?_)
 ·refine zw<|N K<|zdD K K<|U K<|ze<|zN<|zbu Tryz.results76<|⟨r,_,K,C.done,?_⟩;refine ⟨_,zfS K (zan ?_),Sl.to (Sl.nil _ _) ?_⟩
  all_goals simp_all[zqN]
 exfalso;simp_all
end Go.Pk

namespace Go.Pk
open Go Go.RowKit Go.Proofs
end Go.Pk
