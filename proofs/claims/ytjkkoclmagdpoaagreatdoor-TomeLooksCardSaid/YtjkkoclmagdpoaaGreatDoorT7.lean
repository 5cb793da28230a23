/- A PART OF THE PROOF: contracts of functions. -/
import Derived.Test.YtjkkoclmagdpoaaGreatDoorT5
set_option linter.all false
set_option maxRecDepth 4000
set_option maxHeartbeats 4000000
namespace Go.Pk
open Go Go.RowKit Go.Proofs
variable {h:Heap} {w:World} {r:Rule} {hd:Head} {t_v0 x_v0 x_v1 v all__v a_v0 b_v0:Value} {p:Place} {d:Decision} {x:Lexicon} {xs:List Int} {g:FuncId} {lo_b hi_b t_b:Nat} {lo hi:Int} {all_:(List Int)} {s:Str}
theorem zen (hs:Sub h w) (n:Int) (lo:Int) (hi:Int):Calls Tryz.prog 117 #[iV n,iV lo,iV hi] w (zbH h w (fun _ _ res_=>res_=.bool (inB n lo hi))):=by
 refine zg 15 Tryz.func117 K<|have A:=zcu hs;zw<|za K<|D<|zw<|N K<|N K<|zoC K K K<|zp K<|zaK (d:=10) K (fun B=>?_) (fun B=>?_)
 ·refine X K<|N K<|X K<|N K<|X K<|zU K (zpI K K)<|zd K<|za K<|ze<|zf Tryz.results117<|⟨h,_,K,A.done,?_⟩;refine zP ?_;simp[inB, *]
 refine zao 3 K<|zb K<|za K<|ze<|zf Tryz.results117<|⟨h,_,K,A.done,?_⟩;refine zP ?_;simp[inB, *]
theorem ziS (hs:Sub h w) (n:Int) (lo:Int) (hi:Int):Calls Tryz.prog 138 #[iV n,iV lo,iV hi] w (zbH h w (fun _ _ res_=>res_=.bool (inB n lo hi))):=by
 refine zg 15 Tryz.func138 K<|have A:=zcu hs;zw<|za K<|D<|zw<|N K<|N K<|zoC K K K<|zp K<|zaK (d:=10) K (fun B=>?_) (fun B=>?_)
 ·refine X K<|N K<|X K<|N K<|X K<|zU K (zpI K K)<|zd K<|za K<|ze<|zf Tryz.results138<|⟨h,_,K,A.done,?_⟩;refine zP ?_;simp[inB, *]
 refine zao 3 K<|zb K<|za K<|ze<|zf Tryz.results138<|⟨h,_,K,A.done,?_⟩;refine zP ?_;simp[inB, *]
theorem ziI (hs:Sub h w) (s:Str) (s_le:s.length≤281474976710656):Calls Tryz.prog 137 #[zae s] w (zbH h w (fun _ _ res_=>res_=.bool (zgA s))):=by
 refine zg 23 Tryz.func137 K<|have H:=zcu hs;zw<|za K<|D<|zav<|U K<|D<|zT ?_;refine zaI (zbP 2 18) (G:=Nat×Heap) (fun ⟨k,B⟩=>[(3,iV (k:Int))]) (fun ⟨k,B⟩ w'=>Le h B∧St h w B w' []∧(k≤s.length)∧((s.take k).all isL=true)) (fun ⟨k,B⟩=>s.length-k) ⟨0,h⟩ ⟨rfl,trivial⟩ ⟨Le.refl _,H,zbB,zbB⟩ ?_;rintro ⟨k,B⟩ _ f ⟨I,A,hk,ht⟩;refine zav<|N K<|zfv K K<|zfV K zcc K<|zM K<|D<|zV K (fun T=>?_) (fun T=>?_)
 ·refine zaS<|zT<|zw<|zfv K K<|N K ?_;obtain ⟨g,C⟩:∃ y_,(s)[k]?=some y_:=zdl zW;refine zU K (zpJ K K (hk:=K) (hb:=C) (hu:=zcc))<|zM K<|zp K<|zaK (d:=14) K (fun a=>?_) (fun a=>?_)
  ·refine zao 4 K<|zd K<|D<|zaD K (fun Q=>?_) (fun Q=>?_)
   ·refine zw<|za K<|ze<|zaq<|zN<|zaq<|zf Tryz.results137<|⟨B,_,K,A.done,?_⟩;refine zP ?_;have hn:=zeG (p:=isL) (by assumption) (by simp[isL];omega);simp[zgA,zgM,hn]
   cases Q
  refine X K<|zfv K K<|X K<|N K<|X K<|zU K (zpJ K K (hk:=K) (hb:=C) (hu:=zcc))<|X K<|zhn K K K<|zb K<|D<|zV K (fun b=>?_) (fun b=>?_)
  ·refine zw<|za K<|ze<|zaq<|zN<|zaq<|zf Tryz.results137<|⟨B,_,K,A.done,?_⟩;refine zP ?_;have hn:=zeG (p:=isL) (by assumption) (by simp[isL];omega);simp[zgA,zgM,hn]
  refine zbO<|zaF<|N K<|zo K zbj<|U K<|D<|⟨⟨k+1,B⟩,⟨rfl,trivial⟩,?_,⟨I,A,?_,?_⟩,?_⟩
  ·exact zba
  ·first|omega|(simp;omega)
  ·exact zeW ht (by assumption) (by simp[isL, *];omega)
  show s.length-(k+1)<s.length-k;omega
 refine zdx<|zF<|zw<|zfv K K<|zfV K zcc K<|zi A K zjC (zen A.sub _ _ _)<|fun c e L S F P=>?_;obtain rfl:=P;refine za K<|ze<|zf Tryz.results137<|⟨L,_,K,F.done,?_⟩;refine zP ?_;have hn:=zdY ht zW;simp[zgA,zgM,hn]
theorem znN (hs:Sub h w) (s:Str) (s_le:s.length≤281474976710656) (lo:Int):Calls Tryz.prog 204 #[zae s,iV lo] w (zbH h w (fun _ _ res_=>res_=.bool (zgM s lo))):=by
 refine zg 26 Tryz.func204 K<|have H:=zcu hs;zw<|za K<|D<|zav<|U K<|D<|zT ?_;refine zaI (zbP 4 18) (G:=Nat×Heap) (fun ⟨k,B⟩=>[(5,iV (k:Int))]) (fun ⟨k,B⟩ w'=>Le h B∧St h w B w' []∧(k≤s.length)∧((s.take k).all isL=true)) (fun ⟨k,B⟩=>s.length-k) ⟨0,h⟩ ⟨rfl,trivial⟩ ⟨Le.refl _,H,zbB,zbB⟩ ?_;rintro ⟨k,B⟩ _ f ⟨I,A,hk,ht⟩;refine zav<|N K<|zfv K K<|zfV K zcc K<|zM K<|D<|zV K (fun T=>?_) (fun T=>?_)
 ·refine zaS<|zT<|zw<|zfv K K<|N K ?_;obtain ⟨g,C⟩:∃ y_,(s)[k]?=some y_:=zdl zW;refine zU K (zpJ K K (hk:=K) (hb:=C) (hu:=zcc))<|zM K<|zp K<|zaK (d:=16) K (fun a=>?_) (fun a=>?_)
  ·refine zao 4 K<|zd K<|D<|zaD K (fun Q=>?_) (fun Q=>?_)
   ·refine zw<|za K<|ze<|zaq<|zN<|zaq<|zf Tryz.results204<|⟨B,_,K,A.done,?_⟩;refine zP ?_;have hn:=zeG (p:=isL) (by assumption) (by simp[isL];omega);simp[zgA,zgM,hn]
   cases Q
  refine X K<|zfv K K<|X K<|N K<|X K<|zU K (zpJ K K (hk:=K) (hb:=C) (hu:=zcc))<|X K<|zhn K K K<|zb K<|D<|zV K (fun b=>?_) (fun b=>?_)
  ·refine zw<|za K<|ze<|zaq<|zN<|zaq<|zf Tryz.results204<|⟨B,_,K,A.done,?_⟩;refine zP ?_;have hn:=zeG (p:=isL) (by assumption) (by simp[isL];omega);simp[zgA,zgM,hn]
  refine zbO<|zaF<|N K<|zo K zbj<|U K<|D<|⟨⟨k+1,B⟩,⟨rfl,trivial⟩,?_,⟨I,A,?_,?_⟩,?_⟩
  ·exact zba
  ·first|omega|(simp;omega)
  ·exact zeW ht (by assumption) (by simp[isL, *];omega)
  show s.length-(k+1)<s.length-k;omega
 refine zdx<|zF<|zw<|zfv K K<|zfV K zcc K<|N K<|zi A K Tryz.call138 (ziS A.sub _ _ _)<|fun c e L S F P=>?_;obtain rfl:=P;refine za K<|ze<|zf Tryz.results204<|⟨L,_,K,F.done,?_⟩;refine zP ?_;have hn:=zdY ht zW;simp[zgA,zgM,hn]
theorem zty (hs:Sub h w) (r_l1:r.cut.length≤281474976710656) (r_l2:r.put.length≤281474976710656):Calls Tryz.prog 161 #[.agg #[zae r.cut,zae r.put,iV r.least]] w (zbH h w (fun _ _ res_=>res_=.bool (zmp r))):=by
 refine zg 23 Tryz.func161 K<|have Q:=zcu hs;zw<|J [zae r.cut,zae r.put,iV r.least] Q K<|fun p q s i F I=>za K<|D<|zw<|Z zdG K zap<|Y 0 I.sub F zaZ K<|zi I K Tryz.call204 (znN I.sub _ zcn _)<|fun u v j B C S=>?_;obtain rfl:=S;refine zp K<|zbX (d:=6) K (fun T=>?_) (fun T=>?_)
 ·refine X K<|Z zdG K zap<|X K<|Y 1 C.sub (F.up B) zaZ K<|X K<|zi C K Tryz.call204 (znN C.sub _ zcn _)<|fun l m L H A a=>?_;subst a;refine zd K<|zp K<|zbX (d:=11) K (fun b=>?_) (fun b=>?_)
  ·refine X K<|Z zdG K zap<|X K<|Y 0 A.sub (F.up (B.t H)) zaZ K<|X K<|Z zdG K zap<|X K<|Y 1 A.sub (F.up (B.t H)) zaZ K<|X K<|zU K (zpg K K)<|zd K<|zp K<|zaK (d:=18) K (fun c=>?_) (fun c=>?_)
   ·refine X K<|Z zdG K zI<|X K<|Y 2 A.sub (F.up (B.t H)) zO K<|X K<|zi A K Tryz.call138 (ziS A.sub _ _ _)<|fun n o e g P f=>?_;subst f;refine zd K<|za K<|ze<|zf Tryz.results161<|⟨e,_,K,P.done,?_⟩;refine zP ?_;simp_all[zmp]
   refine zao 3 K<|zb K<|za K<|ze<|zf Tryz.results161<|⟨L,_,K,A.done,?_⟩;refine zP ?_;simp_all[zmp]
  refine zao 5 K<|zb K<|zp K<|zao 3 K<|zb K<|za K<|ze<|zf Tryz.results161<|⟨L,_,K,A.done,?_⟩;refine zP ?_;simp_all[zmp]
 refine zao 3 K<|zb K<|zp K<|zao 5 K<|zb K<|zp K<|zao 3 K<|zb K<|za K<|ze<|zf Tryz.results161<|⟨j,_,K,C.done,?_⟩;refine zP ?_;simp_all[zmp]
theorem zkN (hs:Sub h w) (hd_l1:hd.stem.length≤281474976710656) (hd_l2:0≤hd.mark∧hd.mark≤255):Calls Tryz.prog 87 #[.agg #[zae hd.stem,.int .u8 hd.mark]] w (zbH h w (fun _ _ res_=>res_=.bool (zlo hd))):=by
 refine zg 12 Tryz.func87 K<|have I:=zcu hs;zw<|J [zae hd.stem,.int .u8 hd.mark] I K<|fun f g i a C B=>za K<|D<|zw<|Z zeD K zap<|Y 0 B.sub C zaZ K<|zi B K Tryz.call137 (ziI B.sub _ zcn)<|fun j l b F A L=>?_;obtain rfl:=L;refine zp K<|zbX (d:=6) K (fun P=>?_) (fun P=>?_)
 ·refine X K<|Z zeD K zcg<|X K<|Y 1 A.sub (C.up F) zda K<|X K ?_;refine zax rfl rfl (zkH rfl rfl zcW (IntWalk.i64_in _ zW)) ?_;refine X K<|zi A K Tryz.call138 (ziS A.sub _ _ _)<|fun c e Q T H S=>?_;obtain rfl:=S;refine zd K<|za K<|ze<|zf Tryz.results87<|⟨Q,_,K,H.done,?_⟩;refine zP ?_;simp_all[zlo]
 refine zao 4 K<|zb K<|za K<|ze<|zf Tryz.results87<|⟨b,_,K,A.done,?_⟩;refine zP ?_;simp_all[zlo]
theorem zlJ (hs:Sub h w) {a:Place} {b:Place}:Calls Tryz.prog 165 #[.agg #[iV a.chapter,iV a.line,iV a.word],.agg #[iV b.chapter,iV b.line,iV b.word]] w (zbH h w (fun _ _ res_=>res_=.bool (zge a b))):=by
 refine zg 30 Tryz.func165 K<|have H:=zcu hs;zw<|J [iV a.chapter,iV a.line,iV a.word] H K<|fun T c d S F I=>J [iV b.chapter,iV b.line,iV b.word] I K<|fun e f L B C A=>za K<|D<|zav<|Z zaC K zI<|Y 0 A.sub (F.up B) zO K<|Z zaC K zI<|Y 0 A.sub C zO K<|zar K<|D<|zV K (fun P=>?_) (fun P=>?_)
 ·refine zw<|Z zaC K zI<|Y 0 A.sub (F.up B) zO K<|Z zaC K zI<|Y 0 A.sub C zO K<|zM K<|za K<|ze<|zN<|zf Tryz.results165<|⟨L,_,K,A.done,?_⟩;refine zP ?_;simp_all[zge]
 refine zaS<|zw<|Z zaC K zI<|Y 1 A.sub (F.up B) zO K<|Z zaC K zI<|Y 1 A.sub C zO K<|zar K<|D<|zV K (fun Q=>?_) (fun Q=>?_)
 ·refine zw<|Z zaC K zI<|Y 1 A.sub (F.up B) zO K<|Z zaC K zI<|Y 1 A.sub C zO K<|zM K<|za K<|ze<|zN<|zf Tryz.results165<|⟨L,_,K,A.done,?_⟩;refine zP ?_;simp_all[zge]
 refine zgg<|zw<|Z zaC K zI<|Y 2 A.sub (F.up B) zO K<|Z zaC K zI<|Y 2 A.sub C zO K<|zM K<|za K<|ze<|zf Tryz.results165<|⟨L,_,K,A.done,?_⟩;refine zP ?_;simp_all[zge]
theorem zpr (hs:Sub h w) {t:Text} (t_f0:Sl zaN h t_v0 t.chapters):Calls Tryz.prog 109 #[.agg #[t_v0]] w (zbH h w (fun _ _ res_=>res_=.bool (zcz t))):=by
 refine zg 85 Tryz.func109 K<|have d8:=zcu hs;have c9:=t_f0.le;zw<|J [t_v0] d8 K<|fun b1 w2 h3 d0 a8 b0=>za K<|D<|zav<|Z zaY K zbW<|Y 0 b0.sub a8 zcJ K<|zG (t_f0.up d0) zaJ K<|zi b0 K zjC (zen b0.sub _ _ _)<|fun r7 w8 h9 b a1 d9=>?_;subst d9;refine zdJ K K<|D<|zaD K (fun e0=>?_) (fun e0=>?_)
 ·refine zw<|za K<|ze<|zN<|zf zkP<|⟨h9,_,K,a1.done,?_⟩;refine zP ?_;simp_all[zcz]
 refine zaS<|zw<|U K<|D<|zT ?_;refine zaI (zbP 2 6++zbP 13 72) (G:=Nat×Heap) (fun ⟨i,l⟩=>[(3,iV (i:Int))]) (fun ⟨i,l⟩ w'=>Le h9 l∧St h w l w' []∧(i≤t.chapters.length)∧((t.chapters.take i).all zeC=true)∧(((t.chapters.take i).map (·.id)).Nodup)) (fun ⟨i,l⟩=>t.chapters.length-i) ⟨0,h9⟩ ⟨rfl,trivial⟩ ⟨Le.refl _,a1,zbB,zbB,zbB⟩ ?_;rintro ⟨i,l⟩ _ g7 ⟨Q,S,hi,hA,hN⟩;refine zav<|N K<|Z zaY K zbW<|Y 0 S.sub (a8.up (b.t Q)) zcJ K<|have b2:=(d0.t b).t Q;zG (t_f0.up b2) zaJ K<|zM K<|D<|zV K (fun e1=>?_) (fun e1=>?_)
 ·refine zaS<|zT<|zw<|Z zaY K zbW<|Y 0 S.sub (a8.up (b.t Q)) zcJ K<|N K ?_;obtain ⟨c,hc⟩:∃ y_,(t.chapters)[i]?=some y_:=zdl zW;obtain ⟨g8,g9,_,b5,b6,hr_c⟩:=Sl.elem (t_f0.up b2) hc;obtain ⟨h0,rfl,f25⟩:=hr_c;have d5:=f25.le;refine zx b5 zaJ zbA K<|E S.sub b6 zjl zbA K<|zaf S zgN K K<|fun h4 h5 b7=>zaU 0 b7 K (zbI K (zbI f25.one zgB)) zbA<|fun h6 b8=>?_;obtain ⟨h7,T,b9,r⟩:=b8.freeze (k:=0) rfl;have F:=zaL.of b9;refine D<|zav<|Z zaP K zI<|Y 0 r.sub F zO K<|zi r K zjC (zen r.sub _ _ _)<|fun h8 j0 e2 A e e3=>?_;subst e3;refine zdJ K K<|zp K<|zbX (d:=29) K (fun e4=>?_) (fun e4=>?_)
  ·refine zao 5 K<|zd K<|D<|zaD K (fun d1=>?_) (fun d1=>?_)
   ·refine zw<|za K<|ze<|zN<|zaq<|zN<|zaq<|zf zkP<|⟨e2,_,K,e.done,?_⟩;refine zP ?_;have q0:zeC c=false:=by simp_all[zeC]
    have q:=zeG (p:=zeC) hc q0;simp[zcz,q]
   cases d1
  refine X K<|Z zaP K zcj<|X K<|Y 1 e.sub (F.up A) zdd K<|X K<|zG (f25.up (T.t A)) zaW K<|X K<|zi e K zjC (zen e.sub _ _ _)<|fun j1 j2 b3 L a2 e5=>?_;subst e5;refine X K<|zdJ K K<|zb K<|D<|zaD K (fun e6=>?_) (fun e6=>?_)
  ·refine zw<|za K<|ze<|zN<|zaq<|zN<|zaq<|zf zkP<|⟨b3,_,K,a2.done,?_⟩;refine zP ?_;have q0:zeC c=false:=by simp_all[zeC]
   have q:=zeG (p:=zeC) hc q0;simp[zcz,q]
  refine zaS<|zw<|U K<|D<|zT ?_;refine zaI ([2,5]++zbP 36 14) (G:=Nat×Heap) (fun ⟨m,a⟩=>[(5,iV (m:Int))]) (fun ⟨m,a⟩ w'=>Le b3 a∧St h w a w' [[]]∧(m≤i)∧(∀ j c2,j<m→t.chapters[j]?=some c2→c2.id≠c.id)) (fun ⟨m,a⟩=>i-m) ⟨0,b3⟩ ⟨rfl,trivial⟩ ⟨Le.refl _,a2,zbB,(by intro j _ hj;omega)⟩ ?_;rintro ⟨m,a⟩ _ j3 ⟨H,s,j4,hd⟩;refine zav<|N K<|N K<|zM K<|D<|zV K (fun e7=>?_) (fun e7=>?_)
  ·refine zaS<|zT<|zaM<|zcY zbh zch (Cls a _) (Cls.drew s)<|zz zaY K zbW<|have e8:=((((b.t Q).t T).t A).t L).t H;zaT 0 (a8.up e8) zcJ K<|zew K K ?_;obtain ⟨cc,hcc⟩:∃ y_,(t.chapters)[m]?=some y_:=zdl zW;have e9:=(((b2.t T).t A).t L).t H;obtain ⟨j5,j6,_,c0,c1,hr_cc⟩:=Sl.elem (t_f0.up e9) hcc;obtain ⟨j7,rfl,f63⟩:=hr_cc;have d6:=f63.le;refine zag c0 zaJ zbA K<|zz zaP K zI<|zaT 0 c1 zO K<|zz zaP K zI<|zaT 0 (F.up ((A.t L).t H)) zO K<|zwn K K K<|zci ?_;rintro j8 ⟨d2,d3⟩;have a3:=s.call0 d3;refine zF<|zV K (fun g0=>?_) (fun g0=>?_)
   ·refine zw<|za K<|ze<|zaq<|zN<|zaq<|zaq<|zN<|zaq<|zf zkP<|⟨d2,_,K,a3.done,?_⟩;refine zP ?_;have q:=zql (f:=(·.id)) hcc hc zW (by assumption);simp[zcz,q]
   refine zbO<|zaF<|N K<|zo K zbj<|U K<|D<|⟨⟨m+1,d2⟩,⟨rfl,trivial⟩,?_,⟨(H.trans d3.le),a3,?_,?_⟩,?_⟩
   ·exact zba
   ·first|omega|(simp;omega)
   ·intro j c2 h1 h2
    rcases zcO j m with h3|h3
    ·exact hd j c2 h3 h2
    ·obtain rfl:j=m:=by omega
     rw[h2] at hcc;cases hcc;assumption
   show i-(m+1)<i-m;omega
  refine zdx<|zF<|zw<|U K<|D<|zT ?_;refine zaI ([2,6,7]++zbP 50 35) (G:=Nat×Heap) (fun ⟨u,n⟩=>[(6,iV (u:Int))]) (fun ⟨u,n⟩ w'=>Le a n∧St h w n w' [[]]∧(u≤c.lines.length)∧((c.lines.take u).all zmh=true)) (fun ⟨u,n⟩=>c.lines.length-u) ⟨0,a⟩ ⟨rfl,trivial⟩ ⟨Le.refl _,s,zbB,zbB⟩ ?_;rintro ⟨u,n⟩ _ j9 ⟨g,P,k0,hl⟩;refine zav<|N K<|Z zaP K zcj<|have a9:=((A.t L).t H).t g;Y 1 P.sub (F.up a9) zdd K<|have d4:=(((T.t A).t L).t H).t g;zG (f25.up d4) zaW K<|zM K<|D<|zV K (fun g1=>?_) (fun g1=>?_)
  ·refine zaS<|zT<|zav<|Z zaP K zcj<|Y 1 P.sub (F.up a9) zdd K<|N K ?_;obtain ⟨ln,hln⟩:∃ y_,(c.lines)[u]?=some y_:=zdl zW;obtain ⟨k4,k5,_,v,x,hr_ln⟩:=Sl.elem (f25.up d4) hln;obtain ⟨k6,rfl,f81⟩:=hr_ln;have d7:=f81.le;refine zx v zaW zeY K<|Y 0 P.sub x zfK K<|zG f81 zJ K<|zi P K zjC (zen P.sub _ _ _)<|fun k7 k8 b4 I a4 g2=>?_;subst g2;refine zdJ K K<|D<|zaD K (fun g3=>?_) (fun g3=>?_)
   ·refine zw<|za K<|ze<|zN<|zaq<|zN<|zgE<|zaq<|zN<|zaq<|zf zkP<|⟨b4,_,K,a4.done,?_⟩;refine zP ?_;have q1:zmh ln=false:=by simp_all[zmh]
    have q2:=zeG (p:=zmh) hln q1;have q0:zeC c=false:=by simp[zeC,q2]
    have q:=zeG (p:=zeC) hc q0;simp[zcz,q]
   refine zgg<|zw<|U K<|D<|zT ?_;refine zaI ([2,7]++zbP 65 20) (G:=Nat×Heap) (fun ⟨y,o⟩=>[(7,iV (y:Int))]) (fun ⟨y,o⟩ w'=>Le b4 o∧St h w o w' [[]]∧(y≤ln.length)∧((ln.take y).all zgA=true)) (fun ⟨y,o⟩=>ln.length-y) ⟨0,b4⟩ ⟨rfl,trivial⟩ ⟨Le.refl _,a4,zbB,zbB⟩ ?_;rintro ⟨y,o⟩ _ k9 ⟨B,C,l0,hw⟩;refine zav<|N K<|Z zaP K zcj<|Y 1 C.sub (F.up ((a9.t I).t B)) zdd K<|N K<|zx v zaW zeY K<|Y 0 C.sub (x.up (I.t B)) zfK K<|zG (f81.up (I.t B)) zJ K<|zM K<|D<|zV K (fun g4=>?_) (fun g4=>?_)
   ·refine zaS<|zT<|zw<|Z zaP K zcj<|Y 1 C.sub (F.up ((a9.t I).t B)) zdd K<|N K<|zx v zaW zeY K<|Y 0 C.sub (x.up (I.t B)) zfK K<|N K ?_;obtain ⟨l1,c3⟩:∃ y_,(ln)[y]?=some y_:=zdl zW;obtain ⟨l2,l3,_,c4,c5,a0⟩:=Sl.elem (f81.up (I.t B)) c3;obtain ⟨rfl,c6⟩:=a0;simp only[big] at c6;refine zx c4 zJ zap K<|Y 0 C.sub c5 zaZ K<|zi C K Tryz.call137 (ziI C.sub _ zcn)<|fun g5 g6 a5 a7 z c7=>?_;subst c7;refine zdJ K K<|D<|zaD K (fun a6=>?_) (fun a6=>?_)
    ·refine zw<|za K<|ze<|zaq<|zN<|zgE<|zaq<|zN<|zgE<|zaq<|zN<|zaq<|zf zkP<|⟨a5,_,K,z.done,?_⟩;refine zP ?_;have q3:=zeG (p:=zgA) (by assumption) (by simpa using a6);have q1:zmh ln=false:=by simp[zmh,q3]
     have q2:=zeG (p:=zmh) hln q1;have q0:zeC c=false:=by simp[zeC,q2]
     have q:=zeG (p:=zeC) hc q0;simp[zcz,q]
    refine zbO<|zaF<|N K<|zo K zbj<|U K<|D<|⟨⟨y+1,a5⟩,⟨rfl,trivial⟩,?_,⟨(B.t a7),z,?_,?_⟩,?_⟩
    ·exact zba
    ·first|omega|(simp;omega)
    ·exact zeW hw (by assumption) (by simp_all)
    show ln.length-(y+1)<ln.length-y;omega
   refine zdx<|zaF<|N K<|zo K zbj<|U K<|D<|⟨⟨u+1,o⟩,⟨rfl,trivial⟩,?_,⟨((g.t I).t B),C,?_,?_⟩,?_⟩
   ·exact zba
   ·first|omega|(simp;omega)
   ·exact zeW hl hln (by simp_all[zmh,zdY hw zW])
   show c.lines.length-(u+1)<c.lines.length-u;omega
  refine zdx<|zaF<|N K<|zo K zbj<|U K<|D ?_;have HCH:zeC c=true:=by
   have q:=zdY hl zW;simp_all[zeC]
  have c8:=((((Q.t T).t A).t L).t H).t g;refine ⟨⟨i+1,n⟩,⟨rfl,trivial⟩,?_,⟨c8,P.take 0,?_,?_,?_⟩,?_⟩
  ·exact zba
  ·first|omega|(simp;omega)
  ·exact zeW hA hc HCH
  ·exact zri hN hc zW (fun j c2 h1 h2=>hd j c2 zW h2)
  show t.chapters.length-(i+1)<t.chapters.length-i;omega
 refine zdx<|zF<|zw<|za K<|ze<|zf zkP<|⟨l,_,K,S.done,?_⟩;refine zP ?_;have q:=zdY hA zW;have q2:t.chapters.take i=t.chapters:=zS zW;rw[q2] at hN;simp_all[zcz]
theorem zoK (hs:Sub h w) {t:Text} (t_f0:Sl zaN h t_v0 t.chapters):Calls Tryz.prog 106 #[.agg #[t_v0]] w (zbH h w (fun _ _ res_=>res_=iV (if zcz t then 0 else 10))):=by
 refine zg 6 Tryz.func106 K<|have F:=zcu hs;have C:=t_f0.le;zw<|J [t_v0] F K<|fun T a b H I B=>U K<|D<|zav<|E B.sub I zaX zac K<|zi B K Tryz.call109 (zpr B.sub (t:=t) (t_f0.up H))<|fun c d Q S A L=>?_;obtain rfl:=L;refine zdJ K K<|D<|zaD K (fun P=>?_) (fun P=>?_)
 ·refine zw<|U K<|ze<|zN<|zf Tryz.results106<|⟨Q,_,K,A.done,?_⟩;refine zan ?_;simp_all
 refine zgg<|zw<|U K<|ze<|zf Tryz.results106<|⟨Q,_,K,A.done,?_⟩;refine zan ?_;simp_all
theorem zpq (hs:Sub h w) {t:Text} (t_f0:Sl zaN h t_v0 t.chapters):Calls Tryz.prog 116 #[.agg #[t_v0],.agg #[iV p.chapter,iV p.line,iV p.word]] w (zbH h w (fun h' _ res_=>∃ u0,res_=.tuple #[u0,.bool ((zdw t p).isSome)]∧Sl zea h' u0 ((zdw t p).getD []))):=by
 refine zg 40 Tryz.func116 K<|have n:=zcu hs;have m:=t_f0.le;zw<|J [t_v0] n K<|fun b1 w2 h3 o Q r=>J [iV p.chapter,iV p.line,iV p.word] r K<|fun b7 w8 h9 B A F=>zdD K K<|za K<|D<|zaM<|zaM<|zcY zbh zch (Cls h9 _) (Cls.drew F)<|zz zaC K zI<|zaT 0 A zO K<|zz zaY K zbW<|zaT 0 (Q.up B) zcJ K<|have a:=o.t B;ztO (t_f0.up a) K zaJ K<|zoW K K zbj K<|zeI K K (fun _=>zcT K zjC K) (fun _ hC=>zbH.quiet hC (zen hC.sub _ _ _))<|zpC K K<|zjM K K<|zjJ (d:=14) K (fun S=>?_) (fun S=>?_)
 ·refine zgK 13 K<|zbm K<|zci ?_;rintro a1 ⟨s,u⟩;have b:=F.call0 u;refine zF<|zaD K (fun e=>?_) (fun e=>?_)
  ·refine zw<|zdD K K<|za K<|ze<|zN<|zbu Tryz.results116<|⟨s,_,K,b.done,?_⟩;refine ⟨_,zfS K (zP ?_),Sl.to (Sl.nil _ _) ?_⟩
   all_goals have q:=S
   all_goals simp[inB] at q
   ·have I:zdw t p=none:=ztj zW;simp[I]
   have I:zdw t p=none:=ztj zW;simp[I]
  cases e
 refine zc K<|zz zaC K zI<|zc K<|zaT 1 A zO K<|zc K<|zz zaY K zbW<|zc K<|zaT 0 (Q.up B) zcJ K<|zc K<|zz zaC K zI<|zc K<|zaT 0 A zO K<|zc K ?_;have q1:0≤p.chapter∧p.chapter<t.chapters.length:=by
  have q:=S;simp[inB] at q;omega
 obtain ⟨c,hc⟩:∃ y_,(t.chapters)[p.chapter.toNat]?=some y_:=zdl zW;obtain ⟨a2,a3,_,L,P,hr_c⟩:=Sl.elem (t_f0.up a) hc;obtain ⟨a4,rfl,f25⟩:=hr_c;have x:=f25.le;refine zbf rfl rfl (fun _ _=>(zcD L rfl rfl (hk:=(show _=((p.chapter.toNat:Nat):Int) by omega)) (hu:=zaJ) (hz:=zbA))) ?_;refine zc K<|zz zaP K zcj<|zc K<|zaT 1 P zdd K<|zc K<|ztO f25 K zaW K<|zc K<|zoW K K zbj K<|zc K<|zeI K K (fun _=>zcT K zjC K) (fun _ hC=>zbH.quiet hC (zen hC.sub _ _ _))<|zc K<|zpC K K<|zbU K<|zci ?_;rintro a5 ⟨f,C⟩;have H:=F.call0 C;refine zF<|zaD K (fun T=>?_) (fun T=>?_)
 ·refine zw<|zdD K K<|za K<|ze<|zN<|zbu Tryz.results116<|⟨f,_,K,H.done,?_⟩;refine ⟨_,zfS K (zP ?_),Sl.to (Sl.nil _ _) ?_⟩
  all_goals have q:=T
  all_goals simp[inB] at q
  ·have I:zdw t p=none:=zti hc zW;simp[I]
  have I:zdw t p=none:=zti hc zW;simp[I]
 refine zaS ?_;have I:0≤p.line∧p.line<c.lines.length:=by
  have q:=T;simp[inB] at q;omega
 refine zcY zbh zch (Cls f _) (Cls.drew H)<|zz zaY K zbW<|zaT 0 (Q.up (B.trans C.le)) zcJ K<|zz zaC K zI<|zaT 0 (A.up C.le) zO K ?_;refine zbf rfl rfl (fun _ _=>(zcD L rfl rfl (hk:=(show _=((p.chapter.toNat:Nat):Int) by omega)) (hu:=zaJ) (hz:=zbA))) ?_;refine zz zaP K zcj<|zaT 1 (P.up C.le) zdd K<|zz zaC K zI<|zaT 1 (A.up C.le) zO K ?_;obtain ⟨ln,hln⟩:∃ y_,(c.lines)[p.line.toNat]?=some y_:=zdl zW;obtain ⟨a6,a7,_,g,i,hr_ln⟩:=Sl.elem (f25.up C.le) hln;obtain ⟨y,rfl,f36⟩:=hr_ln;have z:=f36.le;refine zbf rfl rfl (fun _ _=>(zcD g rfl rfl (hk:=(show _=((p.line.toNat:Nat):Int) by omega)) (hu:=zaW) (hz:=zeY))) ?_;refine zaT 0 i zfK K<|zAj (v:=y) K K<|ztP K K<|zci ?_;rintro a8 ⟨a0,j⟩;have l:=H.call0 j;refine zF<|zky<|zbu Tryz.results116<|⟨a0,_,K,l.done,?_⟩;refine ⟨_,zfS K (zP ?_),Sl.to (f36.up j.le) ?_⟩
 ·simp[zuZ hc q1.1 hln I.1]
 simp[zuZ hc q1.1 hln I.1]
theorem zmm (hs:Sub h w) {t:Text} (t_f0:Sl zaN h t_v0 t.chapters):Calls Tryz.prog 68 #[.agg #[t_v0],.agg #[iV p.chapter,iV p.line,iV p.word]] w (zbH h w (fun _ _ res_=>res_=.bool (zeb t p))):=by
 refine zg 22 Tryz.func68 K<|have Q:=zcu hs;have P:=t_f0.le;zw<|J [t_v0] Q K<|fun r s u S T a=>J [iV p.chapter,iV p.line,iV p.word] a K<|fun v x y C F A=>za K<|D<|zw<|E A.sub (T.up C) zaX zac K<|E A.sub F zaE zR K<|have b:=S.t C;zi A K Tryz.call116 (zpq A.sub (t:=t) (t_f0.up b) (p:=p))<|fun m n c I B e=>?_;obtain ⟨H,rfl,f21⟩:=e;have f:=f21.le;refine zeZ K K<|zbl H K<|zcV K<|zH H K<|za K<|D<|zw<|zp K<|zp K<|zbX (d:=14) K (fun g=>?_) (fun g=>?_)
 ·refine X K<|Z zaC K zI<|X K<|Y 2 B.sub (F.up I) zO K<|X K<|zk H K<|X K<|zG f21 zJ K<|X K<|zja K K zbj K<|X K<|zi B K zjC (zen B.sub _ _ _)<|fun o q i l L j=>?_;subst j;refine zd K<|za K<|ze<|zf Tryz.results68<|⟨i,_,K,L.done,?_⟩;refine zP ?_;simp_all[zrF]
 refine zao 6 K<|zb K<|za K<|ze<|zf Tryz.results68<|⟨c,_,K,B.done,?_⟩;refine zP ?_;simp_all[zrF]
theorem zqW (hs:Sub h w) {t:Text} (t_f0:Sl zaN h t_v0 t.chapters) (d_l2:0≤d.kind∧d.kind≤255) (d_l3:d.form.length≤281474976710656) (d_l7:d.to.stem.length≤281474976710656) (d_l8:0≤d.to.mark∧d.to.mark≤255):Calls Tryz.prog 162 #[.agg #[t_v0],.agg #[iV d.number,.int .u8 d.kind,zae d.form,iV d.at_.chapter,iV d.at_.line,iV d.at_.word,zae d.to.stem,.int .u8 d.to.mark,iV d.of_]] w (zbH h w (fun _ _ res_=>res_=.bool (zbE t d))):=by
 refine zg 102 Tryz.func162 K<|have a9:=zcu hs;have a4:=t_f0.le;zw<|J [t_v0] a9 K<|fun b1 w2 h3 b0 b2 b3=>J [iV d.number,.int .u8 d.kind,zae d.form,iV d.at_.chapter,iV d.at_.line,iV d.at_.word,zae d.to.stem,.int .u8 d.to.mark,iV d.of_] b3 K<|fun b7 w8 h9 e B S=>za K<|D<|zav<|Z zQ K zI<|Y 0 S.sub B zO K<|zi S K Tryz.call138 (ziS S.sub _ _ _)<|fun e3 e4 b4 L H b5=>?_;subst b5;refine zdJ K K<|D<|zaD K (fun i=>?_) (fun i=>?_)
 ·refine zw<|za K<|ze<|zN<|zf zfM<|⟨b4,_,K,H.done,?_⟩;refine zP ?_;simp_all[zbE]
 have qn:1≤d.number∧d.number≤999:=by
  have q:=i;simp[inB] at q;omega
 refine zgg<|zw<|zU K (zdT (cs:=[iV 0,iV 0,iV 0]) zch)<|zU K (zdT (cs:=[zae [],.int .u8 0]) zch)<|E H.sub (b2.up (e.t L)) zaX zac K<|Z zQ K zR<|zr 3 [iV d.at_.chapter,iV d.at_.line,iV d.at_.word] H.sub (B.up L) zaE zR K<|have b6:=(b0.t e).t L;zi H K Tryz.call68 (zmm H.sub (t:=t) (t_f0.up b6) (p:=d.at_))<|fun e5 e6 e7 j l b8=>?_;subst b8;refine zaf l zjx K K<|fun e8 e9 m=>zaf m Tryz.zeroValue38 K K<|fun g0 g1 n=>zq 0 n K zR<|fun g2 o=>?_;obtain ⟨g3,r,s,u⟩:=o.freeze (k:=0) rfl;have f:=zaL.of s;refine zq 1 u K zaj<|fun g4 v=>?_;obtain ⟨Q,T,x,A⟩:=v.freeze (k:=1) rfl;have y:=zaL.of x;refine za K<|D<|zav<|Z zQ K zcg<|have C:=((L.t j).t r).t T;Y 1 A.sub (B.up C) zda K<|D<|zT<|zw<|zgL K K K<|za K<|D<|zV K (fun b9=>?_) (fun b9=>?_)
 ·refine zw<|Z zQ K zap<|Y 2 A.sub (B.up C) zaZ K<|zi A K Tryz.call137 (ziI A.sub _ zcn)<|fun g5 g6 z P F c0=>?_;subst c0;refine zp K<|zbX (d:=25) K (fun c1=>?_) (fun c1=>?_)
  ·refine X K<|Z zQ K zR<|X K<|zr 3 [iV d.at_.chapter,iV d.at_.line,iV d.at_.word] F.sub (B.up (C.t P)) zaE zR K<|X K<|E F.sub (f.up (T.t P)) zaE zR K<|X K<|zU K (zjb K K zgr (Tryz.eq_Place d.at_ zjN))<|zd K<|zp K<|zaK (d:=31) K (fun c2=>?_) (fun c2=>?_)
   ·refine X K<|Z zQ K zaj<|X K<|zr 6 [zae d.to.stem,.int .u8 d.to.mark] F.sub (B.up (C.t P)) zcm zaj K<|X K<|zi F K Tryz.call87 (zkN F.sub (hd:=d.to) zcn zfb)<|fun g7 g8 a5 a0 a c3=>?_;subst c3;refine zd K<|zp K<|zbX (d:=36) K (fun c4=>?_) (fun c4=>?_)
    ·refine X K<|Z zQ K zI<|X K<|Y 8 a.sub (B.up ((C.t P).t a0)) zO K<|X K<|zgL K K K<|zd K<|za K<|ze<|zaq<|zf zfM<|⟨a5,_,K,a.done,?_⟩;refine zP ?_;simp_all[zbE]
    refine zao 3 K<|zb K<|za K<|ze<|zaq<|zf zfM<|⟨a5,_,K,a.done,?_⟩;refine zP ?_;simp_all[zbE]
   refine zao 3 K<|zb K<|zp K<|zao 3 K<|zb K<|za K<|ze<|zaq<|zf zfM<|⟨z,_,K,F.done,?_⟩;refine zP ?_;simp_all[zbE]
  refine zao 4 K<|zb K<|zp K<|zao 3 K<|zb K<|zp K<|zao 3 K<|zb K<|za K<|ze<|zaq<|zf zfM<|⟨z,_,K,F.done,?_⟩;refine zP ?_;simp_all[zbE]
 refine zw<|zgL K K K<|za K<|D<|zV K (fun c5=>?_) (fun c5=>?_)
 ·refine zw<|Z zQ K zap<|Y 2 A.sub (B.up C) zaZ K<|zi A K Tryz.call137 (ziI A.sub _ zcn)<|fun g9 h0 a6 g I c6=>?_;subst c6;refine zp K<|zbX (d:=46) K (fun c7=>?_) (fun c7=>?_)
  ·refine X K<|zp K<|zd K<|zp K<|zbX (d:=49) K (fun c8=>?_) (fun c8=>?_)
   ·refine X K<|Z zQ K zaj<|X K<|zr 6 [zae d.to.stem,.int .u8 d.to.mark] I.sub (B.up (C.t g)) zcm zaj K<|X K<|zi I K Tryz.call87 (zkN I.sub (hd:=d.to) zcn zfb)<|fun h1 h2 a7 a1 b c9=>?_;subst c9;refine zd K<|zp K<|zbX (d:=54) K (fun d0=>?_) (fun d0=>?_)
    ·refine X K<|Z zQ K zI<|X K<|Y 8 b.sub (B.up ((C.t g).t a1)) zO K<|X K<|zgL K K K<|zd K<|za K<|ze<|zaq<|zf zfM<|⟨a7,_,K,b.done,?_⟩;refine zP ?_;simp_all[zbE]
    refine zao 3 K<|zb K<|za K<|ze<|zaq<|zf zfM<|⟨a7,_,K,b.done,?_⟩;refine zP ?_;simp_all[zbE]
   refine zao 3 K<|zb K<|zp K<|zao 3 K<|zb K<|za K<|ze<|zaq<|zf zfM<|⟨a6,_,K,I.done,?_⟩;refine zP ?_;simp_all[zbE]
  refine zao 1 K<|zb K<|zp K<|zao 3 K<|zb K<|zp K<|zao 3 K<|zb K<|za K<|ze<|zaq<|zf zfM<|⟨a6,_,K,I.done,?_⟩;refine zP ?_;simp_all[zbE]
 refine zw<|zgL K K K<|za K<|D<|zV K (fun d1=>?_) (fun d1=>?_)
 ·refine zw<|Z zQ K zap<|Y 2 A.sub (B.up C) zaZ K<|zmw K K K<|zp K<|zaK (d:=64) K (fun d2=>?_) (fun d2=>?_)
  ·refine X K<|zp K<|zd K<|zp K<|zbX (d:=67) K (fun d3=>?_) (fun d3=>?_)
   ·refine X K<|Z zQ K zaj<|X K<|zr 6 [zae d.to.stem,.int .u8 d.to.mark] A.sub (B.up C) zcm zaj K<|X K<|zi A K Tryz.call87 (zkN A.sub (hd:=d.to) zcn zfb)<|fun h4 h5 a8 a2 c d4=>?_;subst d4;refine zd K<|zp K<|zbX (d:=72) K (fun d5=>?_) (fun d5=>?_)
    ·refine X K<|Z zQ K zI<|X K<|Y 8 c.sub (B.up (C.t a2)) zO K<|X K<|zgL K K K<|zd K<|za K<|ze<|zaq<|zf zfM<|⟨a8,_,K,c.done,?_⟩;refine zP ?_;simp_all[zbE]
    refine zao 3 K<|zb K<|za K<|ze<|zaq<|zf zfM<|⟨a8,_,K,c.done,?_⟩;refine zP ?_;simp_all[zbE]
   refine zao 3 K<|zb K<|zp K<|zao 3 K<|zb K<|za K<|ze<|zaq<|zf zfM<|⟨Q,_,K,A.done,?_⟩;refine zP ?_;simp_all[zbE]
  refine zao 1 K<|zb K<|zp K<|zao 3 K<|zb K<|zp K<|zao 3 K<|zb K<|za K<|ze<|zaq<|zf zfM<|⟨Q,_,K,A.done,?_⟩;refine zP ?_;simp_all[zbE]
 refine zw<|zgL K K K<|za K<|D<|zV K (fun d6=>?_) (fun d6=>?_)
 ·refine zw<|Z zQ K zap<|Y 2 A.sub (B.up C) zaZ K<|zmw K K K<|zp K<|zaK (d:=82) K (fun d7=>?_) (fun d7=>?_)
  ·refine X K<|Z zQ K zR<|X K<|zr 3 [iV d.at_.chapter,iV d.at_.line,iV d.at_.word] A.sub (B.up C) zaE zR K<|X K<|E A.sub (f.up T) zaE zR K<|X K<|zU K (zjb K K zgr (Tryz.eq_Place d.at_ zjN))<|zd K<|zp K<|zaK (d:=88) K (fun d8=>?_) (fun d8=>?_)
   ·refine X K<|Z zQ K zaj<|X K<|zr 6 [zae d.to.stem,.int .u8 d.to.mark] A.sub (B.up C) zcm zaj K<|X K<|E A.sub y zcm zaj K<|X K<|zU K (zjb K K zhR (Tryz.eq_Head d.to zkS))<|zd K<|zp K<|zaK (d:=94) K (fun d9=>?_) (fun d9=>?_)
    ·refine X K<|Z zQ K zI<|X K<|Y 8 A.sub (B.up C) zO K<|X K<|Z zQ K zI<|X K<|Y 0 A.sub (B.up C) zO K<|X K<|zja K K zbj K<|X K<|zi A K Tryz.call138 (ziS A.sub _ _ _)<|fun h6 h7 e0 e2 a3 e1=>?_;subst e1;refine zd K<|za K<|ze<|zaq<|zf zfM<|⟨e0,_,K,a3.done,?_⟩;refine zP ?_;simp_all[zbE]
    refine zao 6 K<|zb K<|za K<|ze<|zaq<|zf zfM<|⟨Q,_,K,A.done,?_⟩;refine zP ?_;simp_all[zbE]
   refine zao 4 K<|zb K<|zp K<|zao 6 K<|zb K<|za K<|ze<|zaq<|zf zfM<|⟨Q,_,K,A.done,?_⟩;refine zP ?_;simp_all[zbE]
  refine zao 4 K<|zb K<|zp K<|zao 4 K<|zb K<|zp K<|zao 6 K<|zb K<|za K<|ze<|zaq<|zf zfM<|⟨Q,_,K,A.done,?_⟩;refine zP ?_;simp_all[zbE]
 refine zbO<|zhQ<|zF<|zw<|za K<|ze<|zf zfM<|⟨Q,_,K,A.done,?_⟩;refine zP ?_;simp_all[zbE]
theorem zrq (hs:Sub h w) {t:Text} (t_f0:Sl zaN h t_v0 t.chapters) (x_f0:Sl zeE h x_v0 x.rules) (x_f1:Sl zaG h x_v1 x.decisions):Calls Tryz.prog 107 #[.agg #[t_v0],.agg #[x_v0,x_v1]] w (zbH h w (fun _ _ res_=>res_=.bool (zfA t x))):=by
 refine zg 65 Tryz.func107 K<|have c4:=zcu hs;have b2:=t_f0.le;have b3:=x_f0.le;have b4:=x_f1.le;zw<|J [t_v0] c4 K<|fun b1 w2 h3 c5 c6 c7=>J [x_v0,x_v1] c7 K<|fun b7 w8 h9 c A H=>za K<|D<|zav<|Z zbC K zgy<|Y 0 H.sub A zhH K<|have s:=c5.t c;zG (x_f0.up s) zdS K<|zhn K K K<|zp K<|zaK (d:=12) K (fun b5=>?_) (fun b5=>?_)
 ·refine zao 4 K<|zd K<|D<|zaD K (fun b6=>?_) (fun b6=>?_)
  ·refine zw<|za K<|ze<|zN<|zf zmf<|⟨h9,_,K,H.done,?_⟩;refine zP ?_;have q:=b5;simp[zfA]
   intros
   omega
  cases b6
 refine X K<|Z zbC K zfJ<|X K<|Y 1 H.sub A zgQ K<|X K<|zG (x_f1.up s) zbV K<|X K<|zhn K K K<|zb K<|D<|zV K (fun b8=>?_) (fun b8=>?_)
 ·refine zw<|za K<|ze<|zN<|zf zmf<|⟨h9,_,K,H.done,?_⟩;refine zP ?_;have q:=b8;simp[zfA]
  intros
  omega
 refine zaS<|zw<|U K<|D<|zT ?_;refine zaI ([4,5]++zbP 18 14) (G:=Nat×Heap) (fun ⟨i,L⟩=>[(5,iV (i:Int))]) (fun ⟨i,L⟩ w'=>Le h9 L∧St h w L w' []∧(i≤x.rules.length)∧((x.rules.take i).all zmp=true)) (fun ⟨i,L⟩=>x.rules.length-i) ⟨0,h9⟩ ⟨rfl,trivial⟩ ⟨Le.refl _,H,zbB,zbB⟩ ?_;rintro ⟨i,L⟩ _ d8 ⟨B,C,hi,hR⟩;refine zav<|N K<|Z zbC K zgy<|Y 0 C.sub (A.up B) zhH K<|have u:=s.t B;zG (x_f0.up u) zdS K<|zM K<|D<|zV K (fun c8=>?_) (fun c8=>?_)
 ·refine zaS<|zT<|zw<|Z zbC K zgy<|Y 0 C.sub (A.up B) zhH K<|N K ?_;obtain ⟨r,hr⟩:∃ y_,(x.rules)[i]?=some y_:=zdl zW;obtain ⟨d9,e0,_,a0,a1,hr_r⟩:=Sl.elem (x_f0.up u) hr;obtain ⟨rfl,a2,a3⟩:=hr_r;simp only[big] at a2;simp only[big] at a3;refine zx a0 zdS zgH K<|E C.sub a1 zmN zgH K<|zi C K Tryz.call161 (zty C.sub (r:=r) zcn zcn)<|fun e1 e2 b9 a4 g c9=>?_;subst c9;refine zdJ K K<|D<|zaD K (fun v=>?_) (fun v=>?_)
  ·refine zw<|za K<|ze<|zaq<|zN<|zaq<|zf zmf<|⟨b9,_,K,g.done,?_⟩;refine zP ?_;have q:=zeG (p:=zmp) hr (by simpa using v);simp[zfA,q]
  refine zbO<|zaF<|N K<|zo K zbj<|U K<|D<|⟨⟨i+1,b9⟩,⟨rfl,trivial⟩,?_,⟨(B.t a4),g,?_,?_⟩,?_⟩
  ·exact zba
  ·first|omega|(simp;omega)
  ·exact zeW hR hr (by simpa using v)
  show x.rules.length-(i+1)<x.rules.length-i;omega
 refine zdx<|zF<|zav<|U K<|D<|zT ?_;refine zaI ([4,6,7]++zbP 32 33) (G:=Nat×Heap) (fun ⟨i,P⟩=>[(6,iV (i:Int))]) (fun ⟨i,P⟩ w'=>Le L P∧St h w P w' []∧(i≤x.decisions.length)∧((x.decisions.take i).all (zbE t)=true)∧(((x.decisions.take i).map (·.number)).Nodup)) (fun ⟨i,P⟩=>x.decisions.length-i) ⟨0,L⟩ ⟨rfl,trivial⟩ ⟨Le.refl _,C,zbB,zbB,zbB⟩ ?_;rintro ⟨i,P⟩ _ e3 ⟨F,S,hi,hD,hN⟩;refine zav<|N K<|Z zbC K zfJ<|Y 1 S.sub (A.up (B.t F)) zgQ K<|have b:=u.t F;zG (x_f1.up b) zbV K<|zM K<|D<|zV K (fun d0=>?_) (fun d0=>?_)
 ·refine zaS<|zT<|zaM<|zaM<|zcY zbh zch (Cls P _) (Cls.drew S)<|zdp (c6.up ((c.t B).t F)) zaX zac K<|zz zbC K zfJ<|zaT 1 (A.up (B.t F)) zgQ K<|zew K K ?_;obtain ⟨d,hd⟩:∃ y_,(x.decisions)[i]?=some y_:=zdl zW;obtain ⟨e4,e5,_,l,m,hr_d⟩:=Sl.elem (x_f1.up b) hd;obtain ⟨rfl,d4,a5,a6,d5⟩:=hr_d;simp only[big] at a5;simp only[big] at a6;refine zag l zbV zaH K<|zdp m zcs zaH K<|zeI K K (fun _=>zcT K Tryz.call162 K) (fun _ hC=>zbH.quiet hC (zqW hC.sub (t:=t) (t_f0.up b) (d:=d) zfb zcn zcn zfb))<|zpC K K<|zci ?_;rintro e6 ⟨y,T⟩;have n:=S.call0 T;refine zF<|zaD K (fun z=>?_) (fun z=>?_)
  ·refine zw<|za K<|ze<|zN<|zaq<|zN<|zaq<|zf zmf<|⟨y,_,K,n.done,?_⟩;refine zP ?_;have q:=zeG (p:=zbE t) hd (by simpa using z);simp[zfA,q]
  refine zgg<|zw<|U K<|D<|zT ?_;refine zaI ([4,7]++zbP 47 18) (G:=Nat×Heap) (fun ⟨k,Q⟩=>[(7,iV (k:Int))]) (fun ⟨k,Q⟩ w'=>Le y Q∧St h w Q w' []∧(k≤i)∧(∀ j c2,j<k→x.decisions[j]?=some c2→c2.number≠d.number)) (fun ⟨k,Q⟩=>i-k) ⟨0,y⟩ ⟨rfl,trivial⟩ ⟨Le.refl _,n,zbB,(by intro j _ hj;omega)⟩ ?_;rintro ⟨k,Q⟩ _ e7 ⟨I,a,hk,hq⟩;refine zav<|N K<|N K<|zM K<|D<|zV K (fun d1=>?_) (fun d1=>?_)
  ·refine zaS<|zT<|zaM<|zcY zbh zch (Cls Q _) (Cls.drew a)<|zz zbC K zfJ<|have c0:=((B.t F).trans T.le).t I;zaT 1 (A.up c0) zgQ K<|zew K K ?_;obtain ⟨e,he⟩:∃ y_,(x.decisions)[k]?=some y_:=zdl zW;have d2:=(b.trans T.le).t I;obtain ⟨e8,e9,_,a7,a8,hr_e⟩:=Sl.elem (x_f1.up d2) he;obtain ⟨rfl,d6,a9,b0,d7⟩:=hr_e;simp only[big] at a9;simp only[big] at b0;refine zag a7 zbV zaH K<|zz zQ K zI<|zaT 0 a8 zO K<|zz zbC K zfJ<|zaT 1 (A.up c0) zgQ K<|zew K K<|zag l zbV zaH K<|zz zQ K zI<|zaT 0 (m.up (T.le.t I)) zO K<|zwn K K K<|zci ?_;rintro g0 ⟨c1,c3⟩;have o:=a.call0 c3;refine zF<|zV K (fun d3=>?_) (fun d3=>?_)
   ·refine zw<|za K<|ze<|zaq<|zN<|zgE<|zaq<|zN<|zaq<|zf zmf<|⟨c1,_,K,o.done,?_⟩;refine zP ?_;have q:=zql (f:=(·.number)) he hd zW (by assumption);simp[zfA,q]
   refine zbO<|zaF<|N K<|zo K zbj<|U K<|D<|⟨⟨k+1,c1⟩,⟨rfl,trivial⟩,?_,⟨(I.trans c3.le),o,?_,?_⟩,?_⟩
   ·exact zba
   ·first|omega|(simp;omega)
   ·intro j c2 h1 h2
    rcases zcO j k with h3|h3
    ·exact hq j c2 h3 h2
    ·obtain rfl:j=k:=by omega
     rw[h2] at he;cases he;assumption
   show i-(k+1)<i-k;omega
  refine zdx<|zaF<|N K<|zo K zbj<|U K<|D ?_;have HD:zbE t d=true:=by simpa using z
  refine ⟨⟨i+1,Q⟩,⟨rfl,trivial⟩,?_,⟨((F.trans T.le).t I),a,?_,?_,?_⟩,?_⟩
  ·exact zba
  ·first|omega|(simp;omega)
  ·exact zeW hD hd HD
  ·exact zri hN hd zW (fun j c2 h1 h2=>hq j c2 zW h2)
  show x.decisions.length-(i+1)<x.decisions.length-i;omega
 refine zdx<|zF<|zw<|za K<|ze<|zf zmf<|⟨P,_,K,S.done,?_⟩;refine zP ?_;have q1:=zdY hR zW;have q2:=zdY hD zW;have q3:x.decisions.take i=x.decisions:=zS zW;rw[q3] at hN;simp[zfA,q1,q2,hN];omega
theorem zml (hs:Sub h w) {t:Text} (t_f0:Sl zaN h t_v0 t.chapters) (x_f0:Sl zeE h x_v0 x.rules) (x_f1:Sl zaG h x_v1 x.decisions):Calls Tryz.prog 53 #[.agg #[t_v0],.agg #[x_v0,x_v1]] w (zbH h w (fun _ _ res_=>res_=iV (zcZ t x))):=by
 refine zg 15 Tryz.func53 K<|have c:=zcu hs;have T:=t_f0.le;have a:=x_f0.le;have b:=x_f1.le;zw<|J [t_v0] c K<|fun r s u d L e=>J [x_v0,x_v1] e K<|fun v y z B P C=>U K<|D<|zav<|E C.sub (L.up B) zaX zac K<|have Q:=d.t B;zi C K Tryz.call106 (zoK C.sub (t:=t) (t_f0.up Q))<|fun n o f F A g=>?_;subst g;refine U K<|D<|zw<|N K<|zar K<|D<|zV K (fun i=>?_) (fun i=>?_)
 ·refine zw<|N K<|U K<|ze<|zN<|zf Tryz.results53<|⟨f,_,K,A.done,?_⟩;refine zan ?_;simp_all[zcZ]
 refine zaS<|zw<|E A.sub (L.up (B.t F)) zaX zac K<|E A.sub (P.up F) zeK zcL K<|have I:=Q.t F;zi A K Tryz.call107 (zrq A.sub (t:=t) (t_f0.up I) (x:=x) (x_f0.up I) (x_f1.up I))<|fun p q S m H j=>?_;subst j;refine zdJ K K<|D<|zaD K (fun l=>?_) (fun l=>?_)
 ·refine zw<|U K<|ze<|zN<|zf Tryz.results53<|⟨S,_,K,H.done,?_⟩;refine zan ?_;simp_all[zcZ]
 refine zgg<|zw<|U K<|ze<|zf Tryz.results53<|⟨S,_,K,H.done,?_⟩;refine zan ?_;simp_all[zcZ]
theorem ztz (hs:Sub h w) (r_l1:r.cut.length≤281474976710656) (r_l2:r.put.length≤281474976710656) (word:Str) (word_le:word.length≤281474976710656) (hr1:1≤r.least):Calls Tryz.prog 235 #[.agg #[zae r.cut,zae r.put,iV r.least],zae word] w (zbH h w (fun _ _ res_=>res_=.tuple #[zae ((zlt r word).getD []),.bool ((zlt r word).isSome)])):=by
 refine zg 39 Tryz.func235 K<|have b:=zcu hs;zw<|J [zae r.cut,zae r.put,iV r.least] b K<|fun z w2 o p A B=>zhW K K<|za K<|D<|zw<|zfv K K<|zfV K zcc K<|Z zdG K zap<|Y 0 B.sub A zaZ K<|zfV K zcc K<|zja K K zbj K<|U K<|D<|zaM<|zaM<|zcY zbh zch (Cls o _) (Cls.drew B)<|zew K K<|zz zdG K zI<|zaT 2 A zO K<|zGK K K K<|zjM K K<|ziW (d:=17) K (fun s=>?_) (fun s=>?_)
 ·refine zgK 6 K<|zbm K<|zjM K K<|zgK 6 K<|zbm K<|zci ?_;rintro w8 ⟨u,c⟩;have F:=B.call0 c;refine zF<|zaD K (fun H=>?_) (fun H=>?_)
  ·refine zw<|zhW K K<|za K<|ze<|zN<|zbu Tryz.results235 ?_;have q:zlt r word=none:=by
    unfold zlt;rw[zam];rintro ⟨l,m,I,n⟩
    first|omega|exact absurd I (by assumption)
   refine ⟨u,_,K,F.done,?_⟩;refine zfS (ziE ?_) (zP ?_)
   all_goals simp[q]
  cases H
 refine zc K<|zCw K K<|zc K<|zew K K<|zc K ?_;refine zbf rfl rfl (fun _ _=>(ztX rfl rfl (hk:=(show _=((word.length-r.cut.length:Nat):Int) by omega)) (hle:=by omega) (hu:=zcc))) ?_;refine zc K<|zz zdG K zap<|zc K<|zaT 0 A zaZ K<|zc K<|zbf K K (fun _ _=>(zpg K K))<|zbU K<|zjM K K<|ziW (d:=25) K (fun L=>?_) (fun L=>?_)
 ·refine zgK 6 K<|zbm K<|zci ?_;rintro v ⟨e,f⟩;have P:=B.call0 f;refine zF<|zaD K (fun Q=>?_) (fun Q=>?_)
  ·refine zw<|zhW K K<|za K<|ze<|zN<|zbu Tryz.results235 ?_;have q:zlt r word=none:=by
    unfold zlt;rw[zam];rintro ⟨l,m,I,n⟩
    first|omega|exact absurd I (by assumption)
   refine ⟨e,_,K,P.done,?_⟩;refine zfS (ziE ?_) (zP ?_)
   all_goals simp[q]
  cases Q
 refine zc K<|zew K K<|zc K<|zz zdG K zap<|zc K<|zaT 1 A zaZ K<|zc K<|zDe K zcc K<|zc K<|zEj K K zbj K<|zc K<|zGL K K K<|zbU K<|zci ?_;rintro x ⟨S,T⟩;have C:=B.call0 T;refine zF<|zV K (fun g=>?_) (fun g=>?_)
 ·refine zw<|zhW K K<|za K<|ze<|zN<|zbu Tryz.results235 ?_;have q:zlt r word=none:=by
   unfold zlt;rw[zam];rintro ⟨l,m,I,n⟩
   first|omega|exact absurd I (by assumption)
  refine ⟨S,_,K,C.done,?_⟩;refine zfS (ziE ?_) (zP ?_)
  all_goals simp[q]
 refine zaS<|zcY zbh zch (Cls S _) (Cls.drew C)<|zCw K K<|zew K K ?_;refine zbf rfl rfl (fun _ _=>(zwG rfl rfl (hk:=(show _=((word.length-r.cut.length:Nat):Int) by omega)) (hle:=by omega) (hu:=zcc))) ?_;refine zz zdG K zap<|zaT 1 (A.up T.le) zaZ K<|zbf K K (fun _ _=>(zED K K zbj))<|zAk K K<|ztP K K<|zci ?_;rintro y ⟨i,j⟩;have a:=C.call0 j;refine zF<|zky<|zbu Tryz.results235 ?_;have q:zlt r word=some (word.take (word.length-r.cut.length)++r.put):=by
  unfold zlt;rw[zab ⟨by omega,by omega,by simpa using L,by omega⟩]
 refine ⟨i,_,K,a.done,?_⟩;refine zfS (ziE ?_) (zP ?_)
 all_goals simp[q]
theorem zsE (hs:Sub h w) (x_f0:Sl zeE h x_v0 x.rules) (x_f1:Sl zaG h x_v1 x.decisions) (word:Str) (word_le:word.length≤281474976710656) (hx:∀ r∈x.rules,1≤r.least) (hw:word.length≤12):Calls Tryz.prog 188 #[.agg #[x_v0,x_v1],zae word] w (zbH h w (fun h' _ res_=>∃ u0,res_=u0∧Sl zea h' u0 (zgT x.rules 4 word))):=by
 refine zg 49 Tryz.func188 K<|have b4:=zcu hs;have a8:=x_f0.le;have a9:=x_f1.le;zw<|J [x_v0,x_v1] b4 K<|fun b1 w2 h3 b5 o b6=>zdD K K<|D<|zw<|zfv K K<|zse (L:=zea) (xs:=[word]) (cs:=[zae word]) b6 (Enc.cons (L:=zea) (vs:=[zae word]) (x:=word) (h:=h3) (⟨rfl,zcn⟩) Enc.nil) K K K zJ Tryz.info9 K K K K zch<|fun v7 b7 w8 f9 p=>zH v7 K<|D<|zav<|U K<|D<|zT ?_;refine zaI (zbP 5 6++zbP 13 35) (G:=Nat×List Str×Str×Value×List (Nat×Obj)×Heap) (fun ⟨turn,ini,la,A,C,F⟩=>[(5,A),(6,iV (turn:Int))]) (fun ⟨turn,ini,la,A,C,F⟩ w'=>Le h3 F∧St h w F w' [C]∧(OSl zea 9 F A (ini++[la]) C)∧(turn≤4)∧(ini.length=turn)∧(la.length≤12)∧(zgT x.rules 4 word=ini++zgT x.rules (4-turn) la)) (fun ⟨turn,ini,la,A,C,F⟩=>4-turn) ⟨0,[],word,v7,b7,h3⟩ ⟨rfl,rfl,trivial⟩ ⟨Le.refl _,p,(OSl.to f9 (by rfl)),zbB,zbB,zbB,(by rfl)⟩ ?_;rintro ⟨turn,ini,la,A,C,F⟩ _ d0 ⟨Q,T,B,ht,hn,hla,hq⟩;refine zav<|N K<|zM K<|D<|zV K (fun b8=>?_) (fun b8=>?_)
 ·refine zaS<|zT<|zw<|zhW K K<|D<|zav<|Z zbC K zgy<|Y 0 T.sub (o.up Q) zhH K<|have s:=b5.t Q;zG (x_f0.up s) zdS K<|zja K K zbj K<|U K<|D<|zT ?_;refine zaI ([5,7,8,9,10]++zbP 21 21) (G:=Nat×Str×Value×List (Nat×Obj)×Heap) (fun ⟨m,nx,A,C,H⟩=>[(5,A),(7,zae nx),(8,iV ((m:Int)-1))]) (fun ⟨m,nx,A,C,H⟩ w'=>Le F H∧St h w H w' [C]∧(OSl zea 9 H A (ini++[la]) C)∧(m≤x.rules.length)∧(nx.length≤12)∧(nx=(zjD (x.rules.drop m) la).getD [])) (fun ⟨m,nx,A,C,H⟩=>m) ⟨x.rules.length,[],A,C,F⟩ ⟨rfl,rfl,rfl,trivial⟩ ⟨Le.refl _,T,(OSl.to B (by rfl)),zbB,zbB,(by simp[zjD])⟩ ?_;rintro ⟨m,nx,A,C,H⟩ _ d1 ⟨I,P,B,hm,hl,hnx⟩;refine zav<|N K<|zoC K K K<|D<|zV K (fun b9=>?_) (fun b9=>?_)
  ·refine zaS<|zT<|zaM<|zcY zbh zch (Cls H _) (Cls.drew P)<|zz zbC K zgy<|zaT 0 (o.up (Q.t I)) zhH K<|zew K K ?_;obtain ⟨r,hr⟩:∃ y_,(x.rules)[m-1]?=some y_:=zdl zW;have c0:=s.t I;obtain ⟨d2,d3,_,u,y,hr_r⟩:=Sl.elem (x_f0.up c0) hr;obtain ⟨rfl,z,a0⟩:=hr_r;simp only[big] at z;simp only[big] at a0;refine zbf rfl rfl (fun _ _=>(zcD u rfl rfl (hk:=(show _=((m-1:Nat):Int) by omega)) (hu:=zdS) (hz:=zgH))) ?_;refine zdp y zmN zgH K<|zbr A K<|zbr A K<|zDf B K zJ K<|zoW K K zbj K ?_;obtain ⟨S,a⟩:∃ y_,(ini++[la])[(ini++[la]).length-1]?=some y_:=zdl (by simp);obtain ⟨b0,d4,b,_,c1,a1,d,a2⟩:=OSl.elem B a;subst c1;obtain ⟨rfl,a3⟩:=d;simp only[big] at a3;refine zbf rfl rfl (fun _ _=>(zcD a1 rfl rfl (hk:=(show _=(((ini++[la]).length-1:Nat):Int) by simp)) (hu:=zJ) (hz:=zap))) ?_;refine zbf K K (fun _ hC=>(zjv (j:=0) (hC.block (P.get (k:=0) K)) a2 K K K zaZ)) ?_;refine zeI rfl rfl (fun _=>zcT rfl Tryz.call235 rfl) (fun _ hC=>zbH.quiet hC (ztz hC.sub (r:=r) zcn zcn _ zcn (by exact hx r (zD hr)))) ?_;refine zGI K K<|zsf (v:=(zae _)) K K K<|zsf (v:=(.bool _)) K K K<|zAk K K<|ztP K K<|zci ?_;rintro d5 ⟨b2,c⟩;have f:=P.call0 c;refine zF<|zw<|zp K<|D<|zaD K (fun i=>?_) (fun i=>?_)
   ·refine zah<|zfv K K<|zhW K K<|zl<|zaF<|N K<|zja K K zbj K<|U K<|D ?_;have hE:S=la:=by simpa using a.symm
    have hD:=zjS hr;rw[show m-1+1=m by omega] at hD;have hC:=i;refine ⟨⟨m-1,(zlt r S).getD [],A,[(b0,.cells b 9)],b2⟩,⟨rfl,K,?_,trivial⟩,?_,⟨(I.trans c.le),f,?_,?_,?_,?_⟩,?_⟩
    ·exact zan zW
    ·exact zba
    ·refine OSl.to (B.up c.le) ?_;rfl
    ·first|omega|(simp;omega)
    ·cases e:zlt r S with
     | none=>simp
     | some q=>simpa using zwS e
    ·rw[hD,zrB,← hE];cases e:zlt r S with
     | none=>simp[e] at hC
     | some q=>simp
    show (m-1)<m;omega
   refine zbO<|zaF<|N K<|zja K K zbj K<|U K<|D ?_;have hE:S=la:=by simpa using a.symm
   have hD:=zjS hr;rw[show m-1+1=m by omega] at hD;have hC:=i;refine ⟨⟨m-1,nx,A,[(b0,.cells b 9)],b2⟩,⟨rfl,K,?_,trivial⟩,?_,⟨(I.trans c.le),f,?_,?_,?_,?_⟩,?_⟩
   ·exact zan zW
   ·exact zba
   ·refine OSl.to (B.up c.le) ?_;rfl
   ·first|omega|(simp;omega)
   ·first|omega|(simp;omega)
   ·rw[hD,zrB,← hE];cases e:zlt r S with
    | none=>simpa [hE] using hnx
    | some q=>simp[e] at hC
   show (m-1)<m;omega
  refine zdx<|zF<|zav<|zfv K K<|zmw K K K<|D<|zV K (fun l=>?_) (fun l=>?_)
  ·refine zmO<|zfu<|zlU K<|zfu<|zfu<|zls<|zF<|zw<|zk A K<|zH A K<|ze<|zf Tryz.results188 ?_;obtain ⟨c2,c8,f45,a4⟩:=OSl.freeze (k:=0) P B rfl zbj;refine ⟨c2,_,K,a4.done,?_⟩;refine ⟨_,K,Sl.to f45 ?_⟩;have n:m=0:=by omega
   subst n;have c3:zjD x.rules la=none:=by
    cases e:zjD x.rules la with
    | none=>rfl
    | some q=>simp[e] at hnx;exact absurd (hnx.symm.trans l) (zBG hx e)
   rw[hq,zvx c3]
  refine zgg<|zah<|zk A K<|zfv K K<|zA zea [nx] [zae nx] P (Enc.cons (L:=zea) (vs:=[zae nx]) (x:=nx) (h:=H) (⟨rfl,zcn⟩) Enc.nil) K zJ Tryz.info9 zch<|fun d6 d7 c4 g f49 a5=>?_;refine zbe (k:=0) (nb:=16) a5 (B.up g) rfl f49 rfl rfl rfl zJ Tryz.info9 rfl rfl rfl (by decide) rfl zbj zbj ?_;intro b3 c5 d8 _ c6 f57 a6;subst c6;refine zH b3 K<|zl<|zaF<|N K<|zo K zbj<|U K<|D ?_;have HS:zjD x.rules la=some nx:=by
   have n:m=0:=by omega
   subst n;cases e:zjD x.rules la with
   | none=>simp[e] at hnx;exact absurd hnx l
   | some q=>simp[e] at hnx;rw[hnx]
  refine ⟨⟨turn+1,ini++[la],nx,b3,c5,c4⟩,⟨rfl,K,trivial⟩,?_,⟨((Q.t I).t g),a6,?_,?_,?_,?_,?_⟩,?_⟩
  ·exact zba
  ·refine OSl.to f57 ?_;rfl
  ·first|omega|(simp;omega)
  ·first|omega|(simp;omega)
  ·first|omega|(simp;omega)
  ·rw[hq,zvw (show 4-turn=(4-(turn+1))+1 by omega) HS];simp
  show 4-(turn+1)<4-turn;omega
 refine zdx<|zF<|zw<|zk A K<|zH A K<|ze<|zf Tryz.results188 ?_;obtain ⟨c7,c9,f61,a7⟩:=OSl.freeze (k:=0) T B rfl zbj;refine ⟨c7,_,K,a7.done,?_⟩;refine ⟨_,K,Sl.to f61 ?_⟩;rw[hq,show 4-turn=0 by omega];rfl
theorem zrV:∀ (n_:Nat) {h:Heap} {w:World} (hs:Sub h w) {x:Lexicon} {x_v0:Value} (x_f0:Sl zeE h x_v0 x.rules) {x_v1:Value} (x_f1:Sl zaG h x_v1 x.decisions) {d:Decision} (d_l2:0≤d.kind∧d.kind≤255) (d_l3:d.form.length≤281474976710656) (d_l7:d.to.stem.length≤281474976710656) (d_l8:0≤d.to.mark∧d.to.mark≤255) (hv:∀ v∈x.decisions,v.number≤999∧(v.kind=4→v.of_<v.number)) (hn:999<d.number+n_),Calls Tryz.prog 187 #[.agg #[x_v0,x_v1],.agg #[iV d.number,.int .u8 d.kind,zae d.form,iV d.at_.chapter,iV d.at_.line,iV d.at_.word,zae d.to.stem,.int .u8 d.to.mark,iV d.of_]] w (zbH h w (fun _ _ res_=>res_=.bool (zkl x n_ d))):=by
 intro n_
 induction n_ using Nat.strongRecOn with
 | _ n_ ih_=>
 intro h w hs x x_v0 x_f0 x_v1 x_f1 d d_l2 d_l3 d_l7 d_l8 hv hn;refine zg 34 Tryz.func187 K<|have a2:=zcu hs;have a0:=x_f0.le;have a1:=x_f1.le;zw<|J [x_v0,x_v1] a2 K<|fun b1 w2 h3 a3 S a4=>J [iV (d.number),.int .u8 (d.kind),zae (d.form),iV (d.at_.chapter),iV (d.at_.line),iV (d.at_.word),zae (d.to.stem),.int .u8 (d.to.mark),iV (d.of_)] a4 K<|fun b7 w8 h9 H b c=>za K<|D<|zav<|U K<|D<|zT ?_;refine zaI (zbP 4 30) (G:=Nat×Heap) (fun ⟨i,I⟩=>[(5,iV (i:Int))]) (fun ⟨i,I⟩ w'=>Le h9 I∧St h w I w' []∧(i≤x.decisions.length)∧((x.decisions.take i).all (zrv x n_ d)=true)) (fun ⟨i,I⟩=>x.decisions.length-i) ⟨0,h9⟩ ⟨rfl,trivial⟩ ⟨Le.refl _,c,zbB,zbB⟩ ?_;rintro ⟨i,I⟩ _ b0 ⟨B,F,hi,hA⟩;refine zav<|N K<|Z zbC K zfJ<|Y 1 F.sub (S.up (H.t B)) zgQ K<|have T:=(a3.t H).t B;zG (x_f1.up T) zbV K<|zM K<|D<|zV K (fun a5=>?_) (fun a5=>?_)
 ·refine zaS<|zT<|zw<|Z zbC K zfJ<|Y 1 F.sub (S.up (H.t B)) zgQ K<|N K ?_;obtain ⟨v1,L⟩:∃ y_,(x.decisions)[i]?=some y_:=zdl zW;obtain ⟨b2,b3,_,e,f,a⟩:=Sl.elem (x_f1.up T) L;obtain ⟨rfl,a8,g,j,a9⟩:=a;simp only[big] at g;simp only[big] at j;refine zx e zbV zaH K<|E F.sub f zcs zaH K<|zaf F zfq K K<|fun b4 b5 l=>zq 0 l K zaH<|fun b6 m=>?_;obtain ⟨n,C,o,A⟩:=m.freeze (k:=0) rfl;have P:=zaL.of o;refine D<|zw<|Z zQ K zcg<|Y 1 A.sub P zda K<|zgL K K K<|zp K<|zaK (d:=22) K (fun p=>?_) (fun p=>?_)
  ·refine X K<|Z zQ K zI<|X K<|Y 8 A.sub P zO K<|X K<|Z zQ K zI<|X K<|Y 0 A.sub (b.up (B.t C)) zO K<|X K<|zgL K K K<|zd K<|zp K<|zaK (d:=29) K (fun q=>?_) (fun q=>?_)
   ·refine X K<|E A.sub (S.up ((H.t B).t C)) zeK zcL K<|X K<|E A.sub P zcs zaH K<|X K ?_;have q1:=hv v1 (zD L);have q2:=q1.2 p;have q3:=q;have r:=T.t C;refine zau A rfl rfl rfl Tryz.call187 rfl (ih_ (n_-1) zW A.sub (x:=x) (x_f0.up r) (x_f1.up r) (d:=v1) zfb zcn zcn zfb (by exact hv) zW) ?_;intro b8 b9 s u Q a6;subst a6;refine zd K<|D<|zaD K (fun a7=>?_) (fun a7=>?_)
    ·refine zw<|za K<|ze<|zaq<|zN<|zaq<|zf Tryz.results187 ?_;rw[zoY hv hn];refine ⟨s,_,K,Q.done,?_⟩;refine zP ?_;exact (zeG L (by simp_all[zrv])).symm
    refine zbO<|zaF<|N K<|zo K zbj<|U K<|D<|⟨⟨i+1,s⟩,⟨rfl,trivial⟩,?_,⟨((B.t C).t u),Q.take 0,?_,?_⟩,?_⟩
    ·exact zba
    ·first|omega|(simp;omega)
    ·exact zeW hA L (by simp_all[zrv])
    show x.decisions.length-(i+1)<x.decisions.length-i;omega
   refine zao 3 K<|zb K<|D<|zaD K (fun y=>?_) (fun y=>?_)
   ·cases y
   refine zbO<|zaF<|N K<|zo K zbj<|U K<|D<|⟨⟨i+1,n⟩,⟨rfl,trivial⟩,?_,⟨(B.t C),A.take 0,?_,?_⟩,?_⟩
   ·exact zba
   ·first|omega|(simp;omega)
   ·exact zeW hA L (by simp_all[zrv])
   show x.decisions.length-(i+1)<x.decisions.length-i;omega
  refine zao 5 K<|zb K<|zp K<|zao 3 K<|zb K<|D<|zaD K (fun z=>?_) (fun z=>?_)
  ·cases z
  refine zbO<|zaF<|N K<|zo K zbj<|U K<|D<|⟨⟨i+1,n⟩,⟨rfl,trivial⟩,?_,⟨(B.t C),A.take 0,?_,?_⟩,?_⟩
  ·exact zba
  ·first|omega|(simp;omega)
  ·exact zeW hA L (by simp_all[zrv])
  show x.decisions.length-(i+1)<x.decisions.length-i;omega
 refine zdx<|zF<|zw<|za K<|ze<|zf Tryz.results187 ?_;rw[zoY hv hn];refine ⟨I,_,K,F.done,?_⟩;refine zP ?_;exact (zdY hA zW).symm
theorem zqV (hs:Sub h w) (x_f0:Sl zeE h x_v0 x.rules) (x_f1:Sl zaG h x_v1 x.decisions) (hv:∀ v∈x.decisions,v.number≤999∧(v.kind=4→v.of_<v.number)) (hv1:∀ v∈x.decisions,1≤v.number) (hl20:x.decisions.length≤20):Calls Tryz.prog 139 #[.agg #[x_v0,x_v1]] w (zbH h w (fun h' _ res_=>∃ u0,res_=u0∧Sl zaG h' u0 (zhq x))):=by
 refine zg 37 Tryz.func139 K<|have a8:=zcu hs;have a3:=x_f0.le;have a4:=x_f1.le;zw<|J [x_v0,x_v1] a8 K<|fun b1 w2 h3 a9 f b0=>zdD K K<|D<|zw<|zdD K K<|D<|zav<|U K<|D<|zT ?_;have j:=b0.snoc;have f11:=OSl.nil zaG 163 h3;refine zaI (zbP 3 33) (G:=Nat×Value×List (Nat×Obj)×Heap) (fun ⟨n,A,B,c⟩=>[(3,A),(4,iV ((n:Int)+1))]) (fun ⟨n,A,B,c⟩ w'=>Le h3 c∧St h w c w' [B]∧(OSl zaG 163 c A ((List.range n).flatMap (zmv x)) B)∧(n≤999)) (fun ⟨n,A,B,c⟩=>999-n) ⟨0,(.slice none 0 0),[],h3⟩ ⟨rfl,rfl,trivial⟩ ⟨Le.refl _,j,(OSl.to f11 (by rfl)),zbB⟩ ?_;rintro ⟨n,A,B,c⟩ _ c6 ⟨T,l,H,hn⟩;refine zav<|N K<|zU K (zpI K K)<|D<|zV K (fun b2=>?_) (fun b2=>?_)
 ·refine zaS<|zT<|zw<|U K<|D<|zT ?_;refine zaI ([3,5,6]++zbP 11 25) (G:=Nat×Value×List (Nat×Obj)×Heap) (fun ⟨i,A,B,S⟩=>[(3,A),(5,iV (i:Int))]) (fun ⟨i,A,B,S⟩ w'=>Le c S∧St h w S w' [B]∧(OSl zaG 163 S A ((List.range n).flatMap (zmv x)++(x.decisions.take i).filter (zqD x n)) B)∧(i≤x.decisions.length)) (fun ⟨i,A,B,S⟩=>x.decisions.length-i) ⟨0,A,B,c⟩ ⟨rfl,rfl,trivial⟩ ⟨Le.refl _,l,(OSl.to H (by simp)),zbB⟩ ?_;rintro ⟨i,A,B,S⟩ _ c7 ⟨C,P,H,hi⟩;refine zav<|N K<|Z zbC K zfJ<|Y 1 P.sub (f.up (T.t C)) zgQ K<|have g:=(a9.t T).t C;zG (x_f1.up g) zbV K<|zM K<|D<|zV K (fun b3=>?_) (fun b3=>?_)
  ·refine zaS<|zT<|zw<|Z zbC K zfJ<|Y 1 P.sub (f.up (T.t C)) zgQ K<|N K ?_;obtain ⟨d,hd⟩:∃ y_,(x.decisions)[i]?=some y_:=zdl zW;obtain ⟨c8,c9,_,m,o,hr_d⟩:=Sl.elem (x_f1.up g) hd;obtain ⟨rfl,c3,p,r,c4⟩:=hr_d;simp only[big] at p;simp only[big] at r;refine zx m zbV zaH K<|E P.sub o zcs zaH K<|zaf P zfq K K<|fun d0 d1 s=>zq 1 s K zaH<|fun d2 u=>?_;obtain ⟨b4,F,y,I⟩:=u.freeze (k:=1) rfl;have a:=zaL.of y;refine D<|zw<|Z zQ K zI<|Y 0 I.sub a zO K<|N K<|zgL K K K<|zp K<|zaK (d:=27) K (fun b5=>?_) (fun b5=>?_)
   ·refine X K<|E I.sub (f.up ((T.t C).t F)) zeK zcL K<|X K<|E I.sub a zcs zaH K<|X K ?_;have z:=g.t F;refine zau I rfl rfl rfl Tryz.call187 rfl (zrV 1000 I.sub (x:=x) (x_f0.up z) (x_f1.up z) (d:=d) zfb zcn zcn zfb (by exact hv) (by have q:=(hv1 d (zD hd));omega)) ?_;intro d3 d4 a5 Q b b6;subst b6;refine zd K<|D<|zaD K (fun b7=>?_) (fun b7=>?_)
    ·refine zah<|zk A K<|E b.sub (a.up Q) zcs zaH K<|zA zaG [d] [iV d.number,.int .u8 d.kind,zae d.form,iV d.at_.chapter,iV d.at_.line,iV d.at_.word,zae d.to.stem,.int .u8 d.to.mark,iV d.of_] b (Enc.cons (L:=zaG) (vs:=[iV d.number,.int .u8 d.kind,zae d.form,iV d.at_.chapter,iV d.at_.line,iV d.at_.word,zae d.to.stem,.int .u8 d.to.mark,iV d.of_]) (x:=d) (h:=a5) (⟨rfl,zfb,zcn,zcn,zfb⟩) Enc.nil) K zbV Tryz.info163 zch<|fun d5 d6 b8 e f49 a0=>?_;refine zbe (k:=0) (nb:=88) a0 (H.up ((F.t Q).t e)) rfl f49 rfl rfl rfl zbV Tryz.info163 rfl rfl rfl (by decide) rfl (by have q:=zuN n hl20;have q2:=zak (zqD x n) (x.decisions.take i);rw[zt] at q2;simp only[zj,zy,zC];omega) (by have q:=zuN n hl20;have q2:=zak (zqD x n) (x.decisions.take i);rw[zt] at q2;simp only[zj,zy,zC];omega) ?_;intro a6 b9 d7 _ c0 f57 a1;subst c0;refine zH a6 K<|zl<|zaF<|N K<|zo K zbj<|U K<|D<|have c1:=((C.t F).t Q).t e;⟨⟨i+1,a6,b9,b8⟩,⟨rfl,K,trivial⟩,?_,⟨c1,a1.take 1,?_,?_⟩,?_⟩
     ·exact zba
     ·refine OSl.to f57 ?_;rw[zbg hd,zbc,zaB];simp_all[zqD]
     ·first|omega|(simp;omega)
     show x.decisions.length-(i+1)<x.decisions.length-i;omega
    refine zbO<|zaF<|N K<|zo K zbj<|U K<|D<|⟨⟨i+1,A,B,a5⟩,⟨rfl,K,trivial⟩,?_,⟨((C.t F).t Q),b.take 1,?_,?_⟩,?_⟩
    ·exact zba
    ·refine OSl.to (H.up (F.t Q)) ?_;rw[zbg hd,zbc];simp_all[zqD]
    ·first|omega|(simp;omega)
    show x.decisions.length-(i+1)<x.decisions.length-i;omega
   refine zao 3 K<|zb K<|D<|zaD K (fun a7=>?_) (fun a7=>?_)
   ·cases a7
   refine zbO<|zaF<|N K<|zo K zbj<|U K<|D<|⟨⟨i+1,A,B,b4⟩,⟨rfl,K,trivial⟩,?_,⟨(C.t F),I.take 1,?_,?_⟩,?_⟩
   ·exact zba
   ·refine OSl.to (H.up F) ?_;rw[zbg hd,zbc];simp_all[zqD]
   ·first|omega|(simp;omega)
   show x.decisions.length-(i+1)<x.decisions.length-i;omega
  refine zdx<|zaF<|N K<|zo K zbj<|U K<|D<|⟨⟨n+1,A,B,S⟩,⟨rfl,K,trivial⟩,?_,⟨(T.t C),P,?_,?_⟩,?_⟩
  ·exact zba
  ·refine OSl.to H ?_;rw[zdb,zfi];simp[zmv,zS (show x.decisions.length≤i by omega)]
  ·first|omega|(simp;omega)
  show 999-(n+1)<999-n;omega
 refine zdx<|zF<|zw<|zk A K<|zH A K<|ze<|zf Tryz.results139 ?_;obtain ⟨c2,c5,f63,a2⟩:=OSl.freeze (k:=0) l H rfl (by have q:=zuN n hl20;omega);refine ⟨c2,_,K,a2.done,?_⟩;refine ⟨_,K,Sl.to f63 ?_⟩;have q:n=999:=by omega
 subst q;rfl
theorem zll {xs:List Copy} {caps:List Value} (S:Nat→Heap→World→Prop) (p:Nat→Bool) (hS:∀ k h w,S k h w→Sub h w∧Sl zhl h v xs) (hf:∀ k x h w vs,S k h w→xs[k]?=some x→zhl.R h vs x→∀ u,u=.agg vs.toArray→Calls Tryz.prog g (u::caps).toArray w (fun e w'=>∃ h',e=.returned (.bool (p k))∧S (k+1) h' w')) (hg:∀ a w,(callFunc g a).run Tryz.prog w=.ok (.enter g a) w) (h0:S 0 h w):
  Calls Tryz.prog 141 #[v,.func (.func g) #[] caps.toArray] w (fun e w'=>∃ h' k,e=.returned (iV (if k<xs.length then (k:Int) else -1))∧k≤xs.length∧(∀ j,j<k→p j=false)∧(k<xs.length→p k=true)∧S (if k<xs.length then k+1 else k) h' w'):=by
 refine zg 19 Tryz.func141 K<|have hb:=(hS 0 h w h0).2.le;zw<|U K<|D<|zav<|zk v K<|zG (hS 0 h w h0).2 zed K<|N K<|D<|zT ?_;refine zaI ([4,5]++zbP 8 11) (G:=Nat×Heap) (fun ⟨k,_⟩=>[(8,iV (k:Int))]) (fun ⟨k,h'⟩ w'=>S k h' w'∧k≤xs.length∧∀ j,j<k→p j=false) (fun ⟨k,_⟩=>xs.length-k) ⟨0,h⟩ ⟨rfl,trivial⟩ ⟨h0,by omega,by intros;omega⟩ ?_;rintro ⟨k,F⟩ _ I ⟨A,hk,hp⟩;obtain ⟨hsub,hsl⟩:=hS k F I A;refine zw<|zM K<|D<|zaM<|zaD K (fun B=>?_) (fun B=>?_)
 ·replace B:=znP B;refine zaS<|zT<|zw<|N K<|U K<|D<|zw<|znJ K K<|zk v K<|N K ?_;have hy:∃ y,xs[k]?=some y:=⟨_,zn zW⟩;obtain ⟨y,hy⟩:=hy;obtain ⟨b,o,vs,he,hc,hr⟩:=Sl.elem hsl hy;refine zx he zed zgw K<|zmR hsub hc K zjY zgw (zhl.len hr) K ?_;refine zcG K K (zfk (fs:=[]) (cs:=caps) K K hg K) ((hf k y F I _ A hy hr _ K).mono ?_);rintro e Q ⟨L,rfl,C⟩;refine ⟨_,K,?_⟩;refine D<|zaD K (fun H=>?_) (fun H=>?_)
  ·refine zaM ?_;refine zah<|N K<|U K<|ze ?_
   repeat (first|refine zgE ?_|refine zN ?_)
   refine zf Tryz.results141 ?_;have hlt:k<xs.length:=by omega
   exact ⟨L,k,by rw[zab hlt];rfl,hk,hp,fun _=>H,by rw[zab hlt];exact C⟩
  ·refine zbO ?_;refine zaF ?_;refine zax rfl rfl (zkU rfl rfl zW) ?_;refine N K<|D ?_;refine ⟨⟨k+1,L⟩,⟨rfl,trivial⟩,?_,⟨C,by omega,?_⟩,?_⟩
   ·exact zba
   ·intro j hj
    rcases zcO j k with P|P
    ·exact hp j P
    ·obtain rfl:j=k:=by omega
     exact H
   ·show xs.length-(k+1)<xs.length-k;omega
 ·replace B:=znh B;refine zdx<|zF<|zw<|U K<|ze<|zf Tryz.results141 ?_;have hlt:¬ k<xs.length:=by omega
  exact ⟨F,k,by rw[zam hlt];rfl,hk,hp,fun q=>absurd q hlt,by rw[zam hlt];exact A⟩
theorem zkB {xs:List Copy} {caps:List Value} (S:Nat→Heap→World→Prop) (p:Nat→Bool) (hS:∀ k h w,S k h w→Sub h w∧Sl zhl h v xs) (hf:∀ k x h w vs,S k h w→xs[k]?=some x→zhl.R h vs x→∀ u,u=.agg vs.toArray→Calls Tryz.prog g (u::caps).toArray w (fun e w'=>∃ h',e=.returned (.bool (p k))∧S (k+1) h' w')) (hg:∀ a w,(callFunc g a).run Tryz.prog w=.ok (.enter g a) w) (h0:S 0 h w):
  Calls Tryz.prog 91 #[v,.func (.func g) #[] caps.toArray] w (fun e w'=>∃ h' k,e=.returned (.bool (decide (k<xs.length)))∧k≤xs.length∧(∀ j,j<k→p j=false)∧(k<xs.length→p k=true)∧S (if k<xs.length then k+1 else k) h' w'):=by
 refine zg 9 Tryz.func91 K<|zw<|za K<|D<|zw<|zk v K<|znJ K K<|zcG K K (zcT K Tryz.call141 K) ((zll S p hS hf hg h0).mono ?_);rintro e I ⟨A,k,rfl,B,C,F,H⟩;refine ⟨_,K,?_⟩;refine zoC K K K<|za K<|ze<|zf Tryz.results91<|⟨A,k,zcE Ending.returned (zP ?_),B,C,F,H⟩
 by_cases hlt:k<xs.length
 ·simp[hlt]
 ·simp[hlt]
theorem ziC {xs:List Copy} {caps:List Value} (hs:Sub h w) (hx:Sl zhl h v xs) (q:Copy→Bool) (hg:∀ a w,(callFunc g a).run Tryz.prog w=.ok (.enter g a) w) (hf:∀ x h' w' vs,Le h h'→Sub h' w'→x∈xs→zhl.R h' vs x→∀ u,u=.agg vs.toArray→Calls Tryz.prog g (u::caps).toArray w' (zbH h' w' fun _ _ r=>r=.bool (q x))):
  Calls Tryz.prog 91 #[v,.func (.func g) #[] caps.toArray] w (zbH h w fun _ _ r=>r=.bool (xs.any q)):=by
 refine (zkB (fun k h' w'=>St h w h' w' []∧k≤xs.length) (fun k=>((xs[k]?).map q).getD false) (fun k h' w' hk=>⟨hk.1.sub,hx.up hk.1.le⟩) ?_ hg ⟨St.start hs,zfg _⟩).mono ?_
 ·rintro k x h' w' vs ⟨st,_⟩ hk hr u hu;refine (hf x h' w' vs st.le st.sub (zD hk) hr u hu).mono ?_;rintro e w'' ⟨h'',r,rfl,s,rfl⟩;obtain ⟨hlt,_⟩:=k_List_getElem__eq_some_iff.1 hk;exact ⟨h'',by simp[hk],st.call0 s,hlt⟩
 ·rintro e w' ⟨h',k,rfl,H,B,C,F⟩;refine ⟨h',_,K,F.1,zP ?_⟩
  by_cases hlt:k<xs.length
  ·have A:=C hlt;rw[zn hlt] at A;simp only[zck,zdK] at A;have:xs.any q=true:=zbM.2 ⟨_,zdB hlt,A⟩;simp[hlt,this]
  ·have:xs.any q=false:=by
    rw[zeT];intro x hx';obtain ⟨j,hj⟩:=k_List_mem_iff_getElem_.1 hx';obtain ⟨I,_⟩:=k_List_getElem__eq_some_iff.1 hj;have:=B j zW;simpa [hj] using this
   simp[hlt,this]
theorem zlH {xs:List (List Str)} {caps:List Value} (S:Nat→Heap→World→Prop) (p:Nat→Bool) (hS:∀ k h w,S k h w→Sub h w∧Sl (LSl zea) h v xs) (hf:∀ k x h w vs,S k h w→xs[k]?=some x→(LSl zea).R h vs x→∀ u,vs=[u]→Calls Tryz.prog g (u::caps).toArray w (fun e w'=>∃ h',e=.returned (.bool (p k))∧S (k+1) h' w')) (hg:∀ a w,(callFunc g a).run Tryz.prog w=.ok (.enter g a) w) (h0:S 0 h w):
  Calls Tryz.prog 196 #[v,.func (.func g) #[] caps.toArray] w (fun e w'=>∃ h' k,e=.returned (iV (if k<xs.length then (k:Int) else -1))∧k≤xs.length∧(∀ j,j<k→p j=false)∧(k<xs.length→p k=true)∧S (if k<xs.length then k+1 else k) h' w'):=by
 refine zg 19 Tryz.func196 K<|have hb:=(hS 0 h w h0).2.le;zw<|U K<|D<|zav<|zk v K<|zG (hS 0 h w h0).2 zaW K<|N K<|D<|zT ?_;refine zaI ([4,5]++zbP 8 11) (G:=Nat×Heap) (fun ⟨k,_⟩=>[(8,iV (k:Int))]) (fun ⟨k,h'⟩ w'=>S k h' w'∧k≤xs.length∧∀ j,j<k→p j=false) (fun ⟨k,_⟩=>xs.length-k) ⟨0,h⟩ ⟨rfl,trivial⟩ ⟨h0,by omega,by intros;omega⟩ ?_;rintro ⟨k,F⟩ _ I ⟨A,hk,hp⟩;obtain ⟨hsub,hsl⟩:=hS k F I A;refine zw<|zM K<|D<|zaM<|zaD K (fun B=>?_) (fun B=>?_)
 ·replace B:=znP B;refine zaS<|zT<|zw<|N K<|U K<|D<|zw<|znJ K K<|zk v K<|N K ?_;have hy:∃ y,xs[k]?=some y:=⟨_,zn zW⟩;obtain ⟨y,hy⟩:=hy;obtain ⟨b,o,vs,he,hc,hr⟩:=Sl.elem hsl hy;refine zx he zaW zeY K ?_;obtain ⟨u,rfl⟩:∃ u,vs=[u]:=by
   have q:=(LSl zea).len hr
   match vs,q with
   | [u],_=>exact ⟨u,rfl⟩
  refine Y 0 hsub hc zfK K ?_;refine zcG K K (zfk (fs:=[]) (cs:=caps) K K hg K) ((hf k y F I _ A hy hr _ K).mono ?_);rintro e Q ⟨L,rfl,C⟩;refine ⟨_,K,?_⟩;refine D<|zaD K (fun H=>?_) (fun H=>?_)
  ·refine zaM ?_;refine zah<|N K<|U K<|ze ?_
   repeat (first|refine zgE ?_|refine zN ?_)
   refine zf Tryz.results196 ?_;have hlt:k<xs.length:=by omega
   exact ⟨L,k,by rw[zab hlt];rfl,hk,hp,fun _=>H,by rw[zab hlt];exact C⟩
  ·refine zbO ?_;refine zaF ?_;refine zax rfl rfl (zkU rfl rfl zW) ?_;refine N K<|D ?_;refine ⟨⟨k+1,L⟩,⟨rfl,trivial⟩,?_,⟨C,by omega,?_⟩,?_⟩
   ·exact zba
   ·intro j hj
    rcases zcO j k with P|P
    ·exact hp j P
    ·obtain rfl:j=k:=by omega
     exact H
   ·show xs.length-(k+1)<xs.length-k;omega
 ·replace B:=znh B;refine zdx<|zF<|zw<|U K<|ze<|zf Tryz.results196 ?_;have hlt:¬ k<xs.length:=by omega
  exact ⟨F,k,by rw[zam hlt];rfl,hk,hp,fun q=>absurd q hlt,by rw[zam hlt];exact A⟩
theorem zkW {xs:List (List Str)} {caps:List Value} (S:Nat→Heap→World→Prop) (p:Nat→Bool) (hS:∀ k h w,S k h w→Sub h w∧Sl (LSl zea) h v xs) (hf:∀ k x h w vs,S k h w→xs[k]?=some x→(LSl zea).R h vs x→∀ u,vs=[u]→Calls Tryz.prog g (u::caps).toArray w (fun e w'=>∃ h',e=.returned (.bool (p k))∧S (k+1) h' w')) (hg:∀ a w,(callFunc g a).run Tryz.prog w=.ok (.enter g a) w) (h0:S 0 h w):
  Calls Tryz.prog 146 #[v,.func (.func g) #[] caps.toArray] w (fun e w'=>∃ h' k,e=.returned (.bool (decide (k<xs.length)))∧k≤xs.length∧(∀ j,j<k→p j=false)∧(k<xs.length→p k=true)∧S (if k<xs.length then k+1 else k) h' w'):=by
 refine zg 9 Tryz.func146 K<|zw<|za K<|D<|zw<|zk v K<|znJ K K<|zcG K K (zcT K Tryz.call196 K) ((zlH S p hS hf hg h0).mono ?_);rintro e I ⟨A,k,rfl,B,C,F,H⟩;refine ⟨_,K,?_⟩;refine zoC K K K<|za K<|ze<|zf Tryz.results146<|⟨A,k,zcE Ending.returned (zP ?_),B,C,F,H⟩
 by_cases hlt:k<xs.length
 ·simp[hlt]
 ·simp[hlt]
theorem zlI {xs:List (List Str)} {caps:List Value} (hs:Sub h w) (hx:Sl (LSl zea) h v xs) (q:(List Str)→Bool) (hg:∀ a w,(callFunc g a).run Tryz.prog w=.ok (.enter g a) w) (hf:∀ x h' w' vs,Le h h'→Sub h' w'→x∈xs→(LSl zea).R h' vs x→∀ u,vs=[u]→Calls Tryz.prog g (u::caps).toArray w' (zbH h' w' fun _ _ r=>r=.bool (q x))):
  Calls Tryz.prog 146 #[v,.func (.func g) #[] caps.toArray] w (zbH h w fun _ _ r=>r=.bool (xs.any q)):=by
 refine (zkW (fun k h' w'=>St h w h' w' []∧k≤xs.length) (fun k=>((xs[k]?).map q).getD false) (fun k h' w' hk=>⟨hk.1.sub,hx.up hk.1.le⟩) ?_ hg ⟨St.start hs,zfg _⟩).mono ?_
 ·rintro k x h' w' vs ⟨st,_⟩ hk hr u hu;refine (hf x h' w' vs st.le st.sub (zD hk) hr u hu).mono ?_;rintro e w'' ⟨h'',r,rfl,s,rfl⟩;obtain ⟨hlt,_⟩:=k_List_getElem__eq_some_iff.1 hk;exact ⟨h'',by simp[hk],st.call0 s,hlt⟩
 ·rintro e w' ⟨h',k,rfl,H,B,C,F⟩;refine ⟨h',_,K,F.1,zP ?_⟩
  by_cases hlt:k<xs.length
  ·have A:=C hlt;rw[zn hlt] at A;simp only[zck,zdK] at A;have:xs.any q=true:=zbM.2 ⟨_,zdB hlt,A⟩;simp[hlt,this]
  ·have:xs.any q=false:=by
    rw[zeT];intro x hx';obtain ⟨j,hj⟩:=k_List_mem_iff_getElem_.1 hx';obtain ⟨I,_⟩:=k_List_getElem__eq_some_iff.1 hj;have:=B j zW;simpa [hj] using this
   simp[hlt,this]
theorem zjr {xs:List Str} {caps:List Value} (S:Nat→Heap→World→Prop) (p:Nat→Bool) (hS:∀ k h w,S k h w→Sub h w∧Sl zea h v xs) (hf:∀ k x h w vs,S k h w→xs[k]?=some x→zea.R h vs x→∀ u,vs=[u]→Calls Tryz.prog g (u::caps).toArray w (fun e w'=>∃ h',e=.returned (.bool (p k))∧S (k+1) h' w')) (hg:∀ a w,(callFunc g a).run Tryz.prog w=.ok (.enter g a) w) (h0:S 0 h w):
  Calls Tryz.prog 197 #[v,.func (.func g) #[] caps.toArray] w (fun e w'=>∃ h' k,e=.returned (iV (if k<xs.length then (k:Int) else -1))∧k≤xs.length∧(∀ j,j<k→p j=false)∧(k<xs.length→p k=true)∧S (if k<xs.length then k+1 else k) h' w'):=by
 refine zg 19 Tryz.func197 K<|have hb:=(hS 0 h w h0).2.le;zw<|U K<|D<|zav<|zk v K<|zG (hS 0 h w h0).2 zJ K<|N K<|D<|zT ?_;refine zaI ([4,5]++zbP 8 11) (G:=Nat×Heap) (fun ⟨k,_⟩=>[(8,iV (k:Int))]) (fun ⟨k,h'⟩ w'=>S k h' w'∧k≤xs.length∧∀ j,j<k→p j=false) (fun ⟨k,_⟩=>xs.length-k) ⟨0,h⟩ ⟨rfl,trivial⟩ ⟨h0,by omega,by intros;omega⟩ ?_;rintro ⟨k,F⟩ _ I ⟨A,hk,hp⟩;obtain ⟨hsub,hsl⟩:=hS k F I A;refine zw<|zM K<|D<|zaM<|zaD K (fun B=>?_) (fun B=>?_)
 ·replace B:=znP B;refine zaS<|zT<|zw<|N K<|U K<|D<|zw<|znJ K K<|zk v K<|N K ?_;have hy:∃ y,xs[k]?=some y:=⟨_,zn zW⟩;obtain ⟨y,hy⟩:=hy;obtain ⟨b,o,vs,he,hc,hr⟩:=Sl.elem hsl hy;refine zx he zJ zap K ?_;obtain ⟨u,rfl⟩:∃ u,vs=[u]:=by
   have q:=zea.len hr
   match vs,q with
   | [u],_=>exact ⟨u,rfl⟩
  refine Y 0 hsub hc zaZ K ?_;refine zcG K K (zfk (fs:=[]) (cs:=caps) K K hg K) ((hf k y F I _ A hy hr _ K).mono ?_);rintro e Q ⟨L,rfl,C⟩;refine ⟨_,K,?_⟩;refine D<|zaD K (fun H=>?_) (fun H=>?_)
  ·refine zaM ?_;refine zah<|N K<|U K<|ze ?_
   repeat (first|refine zgE ?_|refine zN ?_)
   refine zf Tryz.results197 ?_;have hlt:k<xs.length:=by omega
   exact ⟨L,k,by rw[zab hlt];rfl,hk,hp,fun _=>H,by rw[zab hlt];exact C⟩
  ·refine zbO ?_;refine zaF ?_;refine zax rfl rfl (zkU rfl rfl zW) ?_;refine N K<|D ?_;refine ⟨⟨k+1,L⟩,⟨rfl,trivial⟩,?_,⟨C,by omega,?_⟩,?_⟩
   ·exact zba
   ·intro j hj
    rcases zcO j k with P|P
    ·exact hp j P
    ·obtain rfl:j=k:=by omega
     exact H
   ·show xs.length-(k+1)<xs.length-k;omega
 ·replace B:=znh B;refine zdx<|zF<|zw<|U K<|ze<|zf Tryz.results197 ?_;have hlt:¬ k<xs.length:=by omega
  exact ⟨F,k,by rw[zam hlt];rfl,hk,hp,fun q=>absurd q hlt,by rw[zam hlt];exact A⟩
theorem zlv {xs:List Str} {caps:List Value} (S:Nat→Heap→World→Prop) (p:Nat→Bool) (hS:∀ k h w,S k h w→Sub h w∧Sl zea h v xs) (hf:∀ k x h w vs,S k h w→xs[k]?=some x→zea.R h vs x→∀ u,vs=[u]→Calls Tryz.prog g (u::caps).toArray w (fun e w'=>∃ h',e=.returned (.bool (p k))∧S (k+1) h' w')) (hg:∀ a w,(callFunc g a).run Tryz.prog w=.ok (.enter g a) w) (h0:S 0 h w):
  Calls Tryz.prog 149 #[v,.func (.func g) #[] caps.toArray] w (fun e w'=>∃ h' k,e=.returned (.bool (decide (k<xs.length)))∧k≤xs.length∧(∀ j,j<k→p j=false)∧(k<xs.length→p k=true)∧S (if k<xs.length then k+1 else k) h' w'):=by
 refine zg 9 Tryz.func149 K<|zw<|za K<|D<|zw<|zk v K<|znJ K K<|zcG K K (zcT K Tryz.call197 K) ((zjr S p hS hf hg h0).mono ?_);rintro e I ⟨A,k,rfl,B,C,F,H⟩;refine ⟨_,K,?_⟩;refine zoC K K K<|za K<|ze<|zf Tryz.results149<|⟨A,k,zcE Ending.returned (zP ?_),B,C,F,H⟩
 by_cases hlt:k<xs.length
 ·simp[hlt]
 ·simp[hlt]
theorem zmk {xs:List Str} {caps:List Value} (hs:Sub h w) (hx:Sl zea h v xs) (q:Str→Bool) (hg:∀ a w,(callFunc g a).run Tryz.prog w=.ok (.enter g a) w) (hf:∀ x h' w' vs,Le h h'→Sub h' w'→x∈xs→zea.R h' vs x→∀ u,vs=[u]→Calls Tryz.prog g (u::caps).toArray w' (zbH h' w' fun _ _ r=>r=.bool (q x))):
  Calls Tryz.prog 149 #[v,.func (.func g) #[] caps.toArray] w (zbH h w fun _ _ r=>r=.bool (xs.any q)):=by
 refine (zlv (fun k h' w'=>St h w h' w' []∧k≤xs.length) (fun k=>((xs[k]?).map q).getD false) (fun k h' w' hk=>⟨hk.1.sub,hx.up hk.1.le⟩) ?_ hg ⟨St.start hs,zfg _⟩).mono ?_
 ·rintro k x h' w' vs ⟨st,_⟩ hk hr u hu;refine (hf x h' w' vs st.le st.sub (zD hk) hr u hu).mono ?_;rintro e w'' ⟨h'',r,rfl,s,rfl⟩;obtain ⟨hlt,_⟩:=k_List_getElem__eq_some_iff.1 hk;exact ⟨h'',by simp[hk],st.call0 s,hlt⟩
 ·rintro e w' ⟨h',k,rfl,H,B,C,F⟩;refine ⟨h',_,K,F.1,zP ?_⟩
  by_cases hlt:k<xs.length
  ·have A:=C hlt;rw[zn hlt] at A;simp only[zck,zdK] at A;have:xs.any q=true:=zbM.2 ⟨_,zdB hlt,A⟩;simp[hlt,this]
  ·have:xs.any q=false:=by
    rw[zeT];intro x hx';obtain ⟨j,hj⟩:=k_List_mem_iff_getElem_.1 hx';obtain ⟨I,_⟩:=k_List_getElem__eq_some_iff.1 hj;have:=B j zW;simpa [hj] using this
   simp[hlt,this]
theorem zlk {xs:List Rule} {caps:List Value} (S:Nat→Heap→World→Prop) (p:Nat→Bool) (hS:∀ k h w,S k h w→Sub h w∧Sl zeE h v xs) (hf:∀ k x h w vs,S k h w→xs[k]?=some x→zeE.R h vs x→∀ u,u=.agg vs.toArray→Calls Tryz.prog g (u::caps).toArray w (fun e w'=>∃ h',e=.returned (.bool (p k))∧S (k+1) h' w')) (hg:∀ a w,(callFunc g a).run Tryz.prog w=.ok (.enter g a) w) (h0:S 0 h w):
  Calls Tryz.prog 200 #[v,.func (.func g) #[] caps.toArray] w (fun e w'=>∃ h' k,e=.returned (iV (if k<xs.length then (k:Int) else -1))∧k≤xs.length∧(∀ j,j<k→p j=false)∧(k<xs.length→p k=true)∧S (if k<xs.length then k+1 else k) h' w'):=by
 refine zg 19 Tryz.func200 K<|have hb:=(hS 0 h w h0).2.le;zw<|U K<|D<|zav<|zk v K<|zG (hS 0 h w h0).2 zdS K<|N K<|D<|zT ?_;refine zaI ([4,5]++zbP 8 11) (G:=Nat×Heap) (fun ⟨k,_⟩=>[(8,iV (k:Int))]) (fun ⟨k,h'⟩ w'=>S k h' w'∧k≤xs.length∧∀ j,j<k→p j=false) (fun ⟨k,_⟩=>xs.length-k) ⟨0,h⟩ ⟨rfl,trivial⟩ ⟨h0,by omega,by intros;omega⟩ ?_;rintro ⟨k,F⟩ _ I ⟨A,hk,hp⟩;obtain ⟨hsub,hsl⟩:=hS k F I A;refine zw<|zM K<|D<|zaM<|zaD K (fun B=>?_) (fun B=>?_)
 ·replace B:=znP B;refine zaS<|zT<|zw<|N K<|U K<|D<|zw<|znJ K K<|zk v K<|N K ?_;have hy:∃ y,xs[k]?=some y:=⟨_,zn zW⟩;obtain ⟨y,hy⟩:=hy;obtain ⟨b,o,vs,he,hc,hr⟩:=Sl.elem hsl hy;refine zx he zdS zgH K<|zmR hsub hc K zmN zgH (zeE.len hr) K ?_;refine zcG K K (zfk (fs:=[]) (cs:=caps) K K hg K) ((hf k y F I _ A hy hr _ K).mono ?_);rintro e Q ⟨L,rfl,C⟩;refine ⟨_,K,?_⟩;refine D<|zaD K (fun H=>?_) (fun H=>?_)
  ·refine zaM ?_;refine zah<|N K<|U K<|ze ?_
   repeat (first|refine zgE ?_|refine zN ?_)
   refine zf Tryz.results200 ?_;have hlt:k<xs.length:=by omega
   exact ⟨L,k,by rw[zab hlt];rfl,hk,hp,fun _=>H,by rw[zab hlt];exact C⟩
  ·refine zbO ?_;refine zaF ?_;refine zax rfl rfl (zkU rfl rfl zW) ?_;refine N K<|D ?_;refine ⟨⟨k+1,L⟩,⟨rfl,trivial⟩,?_,⟨C,by omega,?_⟩,?_⟩
   ·exact zba
   ·intro j hj
    rcases zcO j k with P|P
    ·exact hp j P
    ·obtain rfl:j=k:=by omega
     exact H
   ·show xs.length-(k+1)<xs.length-k;omega
 ·replace B:=znh B;refine zdx<|zF<|zw<|U K<|ze<|zf Tryz.results200 ?_;have hlt:¬ k<xs.length:=by omega
  exact ⟨F,k,by rw[zam hlt];rfl,hk,hp,fun q=>absurd q hlt,by rw[zam hlt];exact A⟩
theorem zkA {xs:List Rule} {caps:List Value} (S:Nat→Heap→World→Prop) (p:Nat→Bool) (hS:∀ k h w,S k h w→Sub h w∧Sl zeE h v xs) (hf:∀ k x h w vs,S k h w→xs[k]?=some x→zeE.R h vs x→∀ u,u=.agg vs.toArray→Calls Tryz.prog g (u::caps).toArray w (fun e w'=>∃ h',e=.returned (.bool (p k))∧S (k+1) h' w')) (hg:∀ a w,(callFunc g a).run Tryz.prog w=.ok (.enter g a) w) (h0:S 0 h w):
  Calls Tryz.prog 152 #[v,.func (.func g) #[] caps.toArray] w (fun e w'=>∃ h' k,e=.returned (.bool (decide (k<xs.length)))∧k≤xs.length∧(∀ j,j<k→p j=false)∧(k<xs.length→p k=true)∧S (if k<xs.length then k+1 else k) h' w'):=by
 refine zg 9 Tryz.func152 K<|zw<|za K<|D<|zw<|zk v K<|znJ K K<|zcG K K (zcT K Tryz.call200 K) ((zlk S p hS hf hg h0).mono ?_);rintro e I ⟨A,k,rfl,B,C,F,H⟩;refine ⟨_,K,?_⟩;refine zoC K K K<|za K<|ze<|zf Tryz.results152<|⟨A,k,zcE Ending.returned (zP ?_),B,C,F,H⟩
 by_cases hlt:k<xs.length
 ·simp[hlt]
 ·simp[hlt]
theorem znW {caps:List Value} (S:Nat→Heap→World→Prop) (p:Nat→Bool) (hS:∀ k h w,S k h w→Sub h w∧Sl zeg h v xs) (hf:∀ k x h w vs,S k h w→xs[k]?=some x→zeg.R h vs x→∀ u,vs=[u]→Calls Tryz.prog g (u::caps).toArray w (fun e w'=>∃ h',e=.returned (.bool (p k))∧S (k+1) h' w')) (hg:∀ a w,(callFunc g a).run Tryz.prog w=.ok (.enter g a) w) (h0:S 0 h w):
  Calls Tryz.prog 202 #[v,.func (.func g) #[] caps.toArray] w (fun e w'=>∃ h' k,e=.returned (iV (if k<xs.length then (k:Int) else -1))∧k≤xs.length∧(∀ j,j<k→p j=false)∧(k<xs.length→p k=true)∧S (if k<xs.length then k+1 else k) h' w'):=by
 refine zg 19 Tryz.func202 K<|have hb:=(hS 0 h w h0).2.le;zw<|U K<|D<|zav<|zk v K<|zG (hS 0 h w h0).2 zbx K<|N K<|D<|zT ?_;refine zaI ([4,5]++zbP 8 11) (G:=Nat×Heap) (fun ⟨k,_⟩=>[(8,iV (k:Int))]) (fun ⟨k,h'⟩ w'=>S k h' w'∧k≤xs.length∧∀ j,j<k→p j=false) (fun ⟨k,_⟩=>xs.length-k) ⟨0,h⟩ ⟨rfl,trivial⟩ ⟨h0,by omega,by intros;omega⟩ ?_;rintro ⟨k,F⟩ _ I ⟨A,hk,hp⟩;obtain ⟨hsub,hsl⟩:=hS k F I A;refine zw<|zM K<|D<|zaM<|zaD K (fun B=>?_) (fun B=>?_)
 ·replace B:=znP B;refine zaS<|zT<|zw<|N K<|U K<|D<|zw<|znJ K K<|zk v K<|N K ?_;have hy:∃ y,xs[k]?=some y:=⟨_,zn zW⟩;obtain ⟨y,hy⟩:=hy;obtain ⟨b,o,vs,he,hc,hr⟩:=Sl.elem hsl hy;refine zx he zbx zI K ?_;obtain ⟨u,rfl⟩:∃ u,vs=[u]:=by
   have q:=zeg.len hr
   match vs,q with
   | [u],_=>exact ⟨u,rfl⟩
  refine Y 0 hsub hc zO K ?_;refine zcG K K (zfk (fs:=[]) (cs:=caps) K K hg K) ((hf k y F I _ A hy hr _ K).mono ?_);rintro e Q ⟨L,rfl,C⟩;refine ⟨_,K,?_⟩;refine D<|zaD K (fun H=>?_) (fun H=>?_)
  ·refine zaM ?_;refine zah<|N K<|U K<|ze ?_
   repeat (first|refine zgE ?_|refine zN ?_)
   refine zf Tryz.results202 ?_;have hlt:k<xs.length:=by omega
   exact ⟨L,k,by rw[zab hlt];rfl,hk,hp,fun _=>H,by rw[zab hlt];exact C⟩
  ·refine zbO ?_;refine zaF ?_;refine zax rfl rfl (zkU rfl rfl zW) ?_;refine N K<|D ?_;refine ⟨⟨k+1,L⟩,⟨rfl,trivial⟩,?_,⟨C,by omega,?_⟩,?_⟩
   ·exact zba
   ·intro j hj
    rcases zcO j k with P|P
    ·exact hp j P
    ·obtain rfl:j=k:=by omega
     exact H
   ·show xs.length-(k+1)<xs.length-k;omega
 ·replace B:=znh B;refine zdx<|zF<|zw<|U K<|ze<|zf Tryz.results202 ?_;have hlt:¬ k<xs.length:=by omega
  exact ⟨F,k,by rw[zam hlt];rfl,hk,hp,fun q=>absurd q hlt,by rw[zam hlt];exact A⟩
theorem znj {caps:List Value} (S:Nat→Heap→World→Prop) (p:Nat→Bool) (hS:∀ k h w,S k h w→Sub h w∧Sl zeg h v xs) (hf:∀ k x h w vs,S k h w→xs[k]?=some x→zeg.R h vs x→∀ u,vs=[u]→Calls Tryz.prog g (u::caps).toArray w (fun e w'=>∃ h',e=.returned (.bool (p k))∧S (k+1) h' w')) (hg:∀ a w,(callFunc g a).run Tryz.prog w=.ok (.enter g a) w) (h0:S 0 h w):
  Calls Tryz.prog 156 #[v,.func (.func g) #[] caps.toArray] w (fun e w'=>∃ h' k,e=.returned (.bool (decide (k<xs.length)))∧k≤xs.length∧(∀ j,j<k→p j=false)∧(k<xs.length→p k=true)∧S (if k<xs.length then k+1 else k) h' w'):=by
 refine zg 9 Tryz.func156 K<|zw<|za K<|D<|zw<|zk v K<|znJ K K<|zcG K K (zcT K Tryz.call202 K) ((znW S p hS hf hg h0).mono ?_);rintro e I ⟨A,k,rfl,B,C,F,H⟩;refine ⟨_,K,?_⟩;refine zoC K K K<|za K<|ze<|zf Tryz.results156<|⟨A,k,zcE Ending.returned (zP ?_),B,C,F,H⟩
 by_cases hlt:k<xs.length
 ·simp[hlt]
 ·simp[hlt]
theorem zhw {caps:List Value} (hs:Sub h w) (hx:Sl zeg h v xs) (q:Int→Bool) (hg:∀ a w,(callFunc g a).run Tryz.prog w=.ok (.enter g a) w) (hf:∀ x h' w' vs,Le h h'→Sub h' w'→x∈xs→zeg.R h' vs x→∀ u,vs=[u]→Calls Tryz.prog g (u::caps).toArray w' (zbH h' w' fun _ _ r=>r=.bool (q x))):
  Calls Tryz.prog 156 #[v,.func (.func g) #[] caps.toArray] w (zbH h w fun _ _ r=>r=.bool (xs.any q)):=by
 refine (znj (fun k h' w'=>St h w h' w' []∧k≤xs.length) (fun k=>((xs[k]?).map q).getD false) (fun k h' w' hk=>⟨hk.1.sub,hx.up hk.1.le⟩) ?_ hg ⟨St.start hs,zfg _⟩).mono ?_
 ·rintro k x h' w' vs ⟨st,_⟩ hk hr u hu;refine (hf x h' w' vs st.le st.sub (zD hk) hr u hu).mono ?_;rintro e w'' ⟨h'',r,rfl,s,rfl⟩;obtain ⟨hlt,_⟩:=k_List_getElem__eq_some_iff.1 hk;exact ⟨h'',by simp[hk],st.call0 s,hlt⟩
 ·rintro e w' ⟨h',k,rfl,H,B,C,F⟩;refine ⟨h',_,K,F.1,zP ?_⟩
  by_cases hlt:k<xs.length
  ·have A:=C hlt;rw[zn hlt] at A;simp only[zck,zdK] at A;have:xs.any q=true:=zbM.2 ⟨_,zdB hlt,A⟩;simp[hlt,this]
  ·have:xs.any q=false:=by
    rw[zeT];intro x hx';obtain ⟨j,hj⟩:=k_List_mem_iff_getElem_.1 hx';obtain ⟨I,_⟩:=k_List_getElem__eq_some_iff.1 hj;have:=B j zW;simpa [hj] using this
   simp[hlt,this]
theorem zjO {xs:List Decision} {caps:List Value} (S:Nat→Heap→World→Prop) (p:Nat→Bool) (hS:∀ k h w,S k h w→Sub h w∧Sl zaG h v xs) (hf:∀ k x h w vs,S k h w→xs[k]?=some x→zaG.R h vs x→∀ u,u=.agg vs.toArray→Calls Tryz.prog g (u::caps).toArray w (fun e w'=>∃ h',e=.returned (.bool (p k))∧S (k+1) h' w')) (hg:∀ a w,(callFunc g a).run Tryz.prog w=.ok (.enter g a) w) (h0:S 0 h w):
  Calls Tryz.prog 203 #[v,.func (.func g) #[] caps.toArray] w (fun e w'=>∃ h' k,e=.returned (iV (if k<xs.length then (k:Int) else -1))∧k≤xs.length∧(∀ j,j<k→p j=false)∧(k<xs.length→p k=true)∧S (if k<xs.length then k+1 else k) h' w'):=by
 refine zg 19 Tryz.func203 K<|have hb:=(hS 0 h w h0).2.le;zw<|U K<|D<|zav<|zk v K<|zG (hS 0 h w h0).2 zbV K<|N K<|D<|zT ?_;refine zaI ([4,5]++zbP 8 11) (G:=Nat×Heap) (fun ⟨k,_⟩=>[(8,iV (k:Int))]) (fun ⟨k,h'⟩ w'=>S k h' w'∧k≤xs.length∧∀ j,j<k→p j=false) (fun ⟨k,_⟩=>xs.length-k) ⟨0,h⟩ ⟨rfl,trivial⟩ ⟨h0,by omega,by intros;omega⟩ ?_;rintro ⟨k,F⟩ _ I ⟨A,hk,hp⟩;obtain ⟨hsub,hsl⟩:=hS k F I A;refine zw<|zM K<|D<|zaM<|zaD K (fun B=>?_) (fun B=>?_)
 ·replace B:=znP B;refine zaS<|zT<|zw<|N K<|U K<|D<|zw<|znJ K K<|zk v K<|N K ?_;have hy:∃ y,xs[k]?=some y:=⟨_,zn zW⟩;obtain ⟨y,hy⟩:=hy;obtain ⟨b,o,vs,he,hc,hr⟩:=Sl.elem hsl hy;refine zx he zbV zaH K<|zmR hsub hc K zcs zaH (zaG.len hr) K ?_;refine zcG K K (zfk (fs:=[]) (cs:=caps) K K hg K) ((hf k y F I _ A hy hr _ K).mono ?_);rintro e Q ⟨L,rfl,C⟩;refine ⟨_,K,?_⟩;refine D<|zaD K (fun H=>?_) (fun H=>?_)
  ·refine zaM ?_;refine zah<|N K<|U K<|ze ?_
   repeat (first|refine zgE ?_|refine zN ?_)
   refine zf Tryz.results203 ?_;have hlt:k<xs.length:=by omega
   exact ⟨L,k,by rw[zab hlt];rfl,hk,hp,fun _=>H,by rw[zab hlt];exact C⟩
  ·refine zbO ?_;refine zaF ?_;refine zax rfl rfl (zkU rfl rfl zW) ?_;refine N K<|D ?_;refine ⟨⟨k+1,L⟩,⟨rfl,trivial⟩,?_,⟨C,by omega,?_⟩,?_⟩
   ·exact zba
   ·intro j hj
    rcases zcO j k with P|P
    ·exact hp j P
    ·obtain rfl:j=k:=by omega
     exact H
   ·show xs.length-(k+1)<xs.length-k;omega
 ·replace B:=znh B;refine zdx<|zF<|zw<|U K<|ze<|zf Tryz.results203 ?_;have hlt:¬ k<xs.length:=by omega
  exact ⟨F,k,by rw[zam hlt];rfl,hk,hp,fun q=>absurd q hlt,by rw[zam hlt];exact A⟩
theorem zjB {xs:List Decision} {caps:List Value} (S:Nat→Heap→World→Prop) (p:Nat→Bool) (hS:∀ k h w,S k h w→Sub h w∧Sl zaG h v xs) (hf:∀ k x h w vs,S k h w→xs[k]?=some x→zaG.R h vs x→∀ u,u=.agg vs.toArray→Calls Tryz.prog g (u::caps).toArray w (fun e w'=>∃ h',e=.returned (.bool (p k))∧S (k+1) h' w')) (hg:∀ a w,(callFunc g a).run Tryz.prog w=.ok (.enter g a) w) (h0:S 0 h w):
  Calls Tryz.prog 158 #[v,.func (.func g) #[] caps.toArray] w (fun e w'=>∃ h' k,e=.returned (.bool (decide (k<xs.length)))∧k≤xs.length∧(∀ j,j<k→p j=false)∧(k<xs.length→p k=true)∧S (if k<xs.length then k+1 else k) h' w'):=by
 refine zg 9 Tryz.func158 K<|zw<|za K<|D<|zw<|zk v K<|znJ K K<|zcG K K (zcT K Tryz.call203 K) ((zjO S p hS hf hg h0).mono ?_);rintro e I ⟨A,k,rfl,B,C,F,H⟩;refine ⟨_,K,?_⟩;refine zoC K K K<|za K<|ze<|zf Tryz.results158<|⟨A,k,zcE Ending.returned (zP ?_),B,C,F,H⟩
 by_cases hlt:k<xs.length
 ·simp[hlt]
 ·simp[hlt]
theorem zny {caps:List Value} (S:Nat→Heap→World→Prop) (p:Nat→Bool) (hS:∀ k h w,S k h w→Sub h w∧Sl LU8 h v xs) (hf:∀ k x h w vs,S k h w→xs[k]?=some x→LU8.R h vs x→∀ u,vs=[u]→Calls Tryz.prog g (u::caps).toArray w (fun e w'=>∃ h',e=.returned (.bool (p k))∧S (k+1) h' w')) (hg:∀ a w,(callFunc g a).run Tryz.prog w=.ok (.enter g a) w) (h0:S 0 h w):
  Calls Tryz.prog 237 #[v,.func (.func g) #[] caps.toArray] w (fun e w'=>∃ h' k,e=.returned (iV (if k<xs.length then (k:Int) else -1))∧k≤xs.length∧(∀ j,j<k→p j=false)∧(k<xs.length→p k=true)∧S (if k<xs.length then k+1 else k) h' w'):=by
 refine zg 19 Tryz.func237 K<|have hb:=(hS 0 h w h0).2.le;zw<|U K<|D<|zav<|zk v K<|zG (hS 0 h w h0).2 Tryz.underlying312 K<|N K<|D<|zT ?_;refine zaI ([4,5]++zbP 8 11) (G:=Nat×Heap) (fun ⟨k,_⟩=>[(8,iV (k:Int))]) (fun ⟨k,h'⟩ w'=>S k h' w'∧k≤xs.length∧∀ j,j<k→p j=false) (fun ⟨k,_⟩=>xs.length-k) ⟨0,h⟩ ⟨rfl,trivial⟩ ⟨h0,by omega,by intros;omega⟩ ?_;rintro ⟨k,F⟩ _ I ⟨A,hk,hp⟩;obtain ⟨hsub,hsl⟩:=hS k F I A;refine zw<|zM K<|D<|zaM<|zaD K (fun B=>?_) (fun B=>?_)
 ·replace B:=znP B;refine zaS<|zT<|zw<|N K<|U K<|D<|zw<|znJ K K<|zk v K<|N K ?_;have hy:∃ y,xs[k]?=some y:=⟨_,zn zW⟩;obtain ⟨y,hy⟩:=hy;obtain ⟨b,o,vs,he,hc,hr⟩:=Sl.elem hsl hy;refine zx he Tryz.underlying312 zcg K ?_;obtain ⟨u,rfl⟩:∃ u,vs=[u]:=by
   have q:=LU8.len hr
   match vs,q with
   | [u],_=>exact ⟨u,rfl⟩
  refine Y 0 hsub hc zda K ?_;refine zcG K K (zfk (fs:=[]) (cs:=caps) K K hg K) ((hf k y F I _ A hy hr _ K).mono ?_);rintro e Q ⟨L,rfl,C⟩;refine ⟨_,K,?_⟩;refine D<|zaD K (fun H=>?_) (fun H=>?_)
  ·refine zaM ?_;refine zah<|N K<|U K<|ze ?_
   repeat (first|refine zgE ?_|refine zN ?_)
   refine zf Tryz.results237 ?_;have hlt:k<xs.length:=by omega
   exact ⟨L,k,by rw[zab hlt];rfl,hk,hp,fun _=>H,by rw[zab hlt];exact C⟩
  ·refine zbO ?_;refine zaF ?_;refine zax rfl rfl (zkU rfl rfl zW) ?_;refine N K<|D ?_;refine ⟨⟨k+1,L⟩,⟨rfl,trivial⟩,?_,⟨C,by omega,?_⟩,?_⟩
   ·exact zba
   ·intro j hj
    rcases zcO j k with P|P
    ·exact hp j P
    ·obtain rfl:j=k:=by omega
     exact H
   ·show xs.length-(k+1)<xs.length-k;omega
 ·replace B:=znh B;refine zdx<|zF<|zw<|U K<|ze<|zf Tryz.results237 ?_;have hlt:¬ k<xs.length:=by omega
  exact ⟨F,k,by rw[zam hlt];rfl,hk,hp,fun q=>absurd q hlt,by rw[zam hlt];exact A⟩
theorem zmr {caps:List Value} (S:Nat→Heap→World→Prop) (p:Nat→Bool) (hS:∀ k h w,S k h w→Sub h w∧Sl LU8 h v xs) (hf:∀ k x h w vs,S k h w→xs[k]?=some x→LU8.R h vs x→∀ u,vs=[u]→Calls Tryz.prog g (u::caps).toArray w (fun e w'=>∃ h',e=.returned (.bool (p k))∧S (k+1) h' w')) (hg:∀ a w,(callFunc g a).run Tryz.prog w=.ok (.enter g a) w) (h0:S 0 h w):
  Calls Tryz.prog 198 #[v,.func (.func g) #[] caps.toArray] w (fun e w'=>∃ h' k,e=.returned (.bool (decide (k<xs.length)))∧k≤xs.length∧(∀ j,j<k→p j=false)∧(k<xs.length→p k=true)∧S (if k<xs.length then k+1 else k) h' w'):=by
 refine zg 9 Tryz.func198 K<|zw<|za K<|D<|zw<|zk v K<|znJ K K<|zcG K K (zcT K Tryz.call237 K) ((zny S p hS hf hg h0).mono ?_);rintro e I ⟨A,k,rfl,B,C,F,H⟩;refine ⟨_,K,?_⟩;refine zoC K K K<|za K<|ze<|zf Tryz.results198<|⟨A,k,zcE Ending.returned (zP ?_),B,C,F,H⟩
 by_cases hlt:k<xs.length
 ·simp[hlt]
 ·simp[hlt]
theorem znz {caps:List Value} (hs:Sub h w) (hx:Sl LU8 h v xs) (q:Int→Bool) (hg:∀ a w,(callFunc g a).run Tryz.prog w=.ok (.enter g a) w) (hf:∀ x h' w' vs,Le h h'→Sub h' w'→x∈xs→LU8.R h' vs x→∀ u,vs=[u]→Calls Tryz.prog g (u::caps).toArray w' (zbH h' w' fun _ _ r=>r=.bool (q x))):
  Calls Tryz.prog 198 #[v,.func (.func g) #[] caps.toArray] w (zbH h w fun _ _ r=>r=.bool (xs.any q)):=by
 refine (zmr (fun k h' w'=>St h w h' w' []∧k≤xs.length) (fun k=>((xs[k]?).map q).getD false) (fun k h' w' hk=>⟨hk.1.sub,hx.up hk.1.le⟩) ?_ hg ⟨St.start hs,zfg _⟩).mono ?_
 ·rintro k x h' w' vs ⟨st,_⟩ hk hr u hu;refine (hf x h' w' vs st.le st.sub (zD hk) hr u hu).mono ?_;rintro e w'' ⟨h'',r,rfl,s,rfl⟩;obtain ⟨hlt,_⟩:=k_List_getElem__eq_some_iff.1 hk;exact ⟨h'',by simp[hk],st.call0 s,hlt⟩
 ·rintro e w' ⟨h',k,rfl,H,B,C,F⟩;refine ⟨h',_,K,F.1,zP ?_⟩
  by_cases hlt:k<xs.length
  ·have A:=C hlt;rw[zn hlt] at A;simp only[zck,zdK] at A;have:xs.any q=true:=zbM.2 ⟨_,zdB hlt,A⟩;simp[hlt,this]
  ·have:xs.any q=false:=by
    rw[zeT];intro x hx';obtain ⟨j,hj⟩:=k_List_mem_iff_getElem_.1 hx';obtain ⟨I,_⟩:=k_List_getElem__eq_some_iff.1 hj;have:=B j zW;simpa [hj] using this
   simp[hlt,this]
theorem zBn (hs:Sub h w) (n:Int) (lo_c:zaL h lo_b 0 [iV lo]) (hi_c:zaL h hi_b 0 [iV hi]):Calls Tryz.prog 191 #[iV n,.pointer (some ⟨lo_b,0,none⟩),.pointer (some ⟨hi_b,0,none⟩)] w (zbH h w (fun _ _ res_=>res_=.bool ((decide (n<lo) || decide (hi<n))))):=by
 refine zg 13 Tryz.func191 K<|have A:=zcu hs;zw<|za K<|D<|zw<|N K<|Y 0 A.sub lo_c zO K<|zM K<|zp K<|zaK (d:=8) K (fun B=>?_) (fun B=>?_)
 ·refine zao 3 K<|zd K<|za K<|ze<|zf Tryz.results191<|⟨h,_,K,A.done,?_⟩;refine zP ?_
  first|(simp_all;done)|(simp_all;omega)
 refine X K<|N K<|X K<|Y 0 A.sub hi_c zO K<|X K<|zhn K K K<|zb K<|za K<|ze<|zf Tryz.results191<|⟨h,_,K,A.done,?_⟩;refine zP ?_
 first|(simp_all;done)|(simp_all;omega)
theorem zhF (hs:Sub h w) (lo:Int) (hi:Int) (all__f:Sl zeg h all__v all_):Calls Tryz.prog 142 #[iV lo,iV hi,all__v] w (zbH h w (fun _ _ res_=>res_=.bool (zey all_ lo hi))):=by
 refine zg 11 Tryz.func142 K<|have H:=zcu hs;have all__f_b:=all__f.le;zw<|J [iV lo] H K<|fun d e f I L P=>J [iV hi] P K<|fun g i j A C B=>za K<|D<|zw<|zk all__v K<|zgm K K K ?_;have Q:=I.t A;refine zau B rfl rfl rfl Tryz.call156 rfl (zhw B.sub (all__f.up Q) (fun x_=>(decide ((x_)<lo) || decide ((hi)<x_))) Tryz.call191 (fun x_ h_ w_ vs_ le_ hs_ hx_ hr_ u_ hu_=>by cases hu_;cases hr_;exact zBn hs_ _ (lo:=lo) ((L.up A).up le_) (hi:=hi) (C.up le_))) ?_;intro b c S a F T;obtain rfl:=T;refine zdJ K K<|za K<|ze<|zf Tryz.results142<|⟨S,_,K,F.done,?_⟩;exact zP<|zuh all_ lo hi
theorem zBl (hs:Sub h w) (n:Int) (lo_c:zaL h lo_b 0 [iV lo]) (hi_c:zaL h hi_b 0 [iV hi]):Calls Tryz.prog 157 #[iV n,.pointer (some ⟨lo_b,0,none⟩),.pointer (some ⟨hi_b,0,none⟩)] w (zbH h w (fun _ _ res_=>res_=.bool ((decide (n<lo) || decide (hi<n))))):=by
 refine zg 13 Tryz.func157 K<|have A:=zcu hs;zw<|za K<|D<|zw<|N K<|Y 0 A.sub lo_c zO K<|zM K<|zp K<|zaK (d:=8) K (fun B=>?_) (fun B=>?_)
 ·refine zao 3 K<|zd K<|za K<|ze<|zf Tryz.results157<|⟨h,_,K,A.done,?_⟩;refine zP ?_
  first|(simp_all;done)|(simp_all;omega)
 refine X K<|N K<|X K<|Y 0 A.sub hi_c zO K<|X K<|zhn K K K<|zb K<|za K<|ze<|zf Tryz.results157<|⟨h,_,K,A.done,?_⟩;refine zP ?_
 first|(simp_all;done)|(simp_all;omega)
theorem zqq (hs:Sub h w) (lo:Int) (hi:Int) (all__f:Sl zeg h all__v all_):Calls Tryz.prog 101 #[iV lo,iV hi,all__v] w (zbH h w (fun _ _ res_=>res_=.bool (zey all_ lo hi))):=by
 refine zg 11 Tryz.func101 K<|have H:=zcu hs;have all__f_b:=all__f.le;zw<|J [iV lo] H K<|fun d e f I L P=>J [iV hi] P K<|fun g i j A C B=>za K<|D<|zw<|zk all__v K<|zgm K K K ?_;have Q:=I.t A;refine zau B rfl rfl rfl Tryz.call156 rfl (zhw B.sub (all__f.up Q) (fun x_=>(decide ((x_)<lo) || decide ((hi)<x_))) Tryz.call157 (fun x_ h_ w_ vs_ le_ hs_ hx_ hr_ u_ hu_=>by cases hu_;cases hr_;exact zBl hs_ _ (lo:=lo) ((L.up A).up le_) (hi:=hi) (C.up le_))) ?_;intro b c S a F T;obtain rfl:=T;refine zdJ K K<|za K<|ze<|zf Tryz.results101<|⟨S,_,K,F.done,?_⟩;exact zP<|zuh all_ lo hi
theorem zzO (hs:Sub h w) (n:Int) (lo_c:zaL h lo_b 0 [iV lo]) (hi_c:zaL h hi_b 0 [iV hi]):Calls Tryz.prog 223 #[iV n,.pointer (some ⟨lo_b,0,none⟩),.pointer (some ⟨hi_b,0,none⟩)] w (zbH h w (fun _ _ res_=>res_=.bool ((decide (n<lo) || decide (hi<n))))):=by
 refine zg 13 Tryz.func223 K<|have A:=zcu hs;zw<|za K<|D<|zw<|N K<|Y 0 A.sub lo_c zO K<|zM K<|zp K<|zaK (d:=8) K (fun B=>?_) (fun B=>?_)
 ·refine zao 3 K<|zd K<|za K<|ze<|zf Tryz.results223<|⟨h,_,K,A.done,?_⟩;refine zP ?_
  first|(simp_all;done)|(simp_all;omega)
 refine X K<|N K<|X K<|Y 0 A.sub hi_c zO K<|X K<|zhn K K K<|zb K<|za K<|ze<|zf Tryz.results223<|⟨h,_,K,A.done,?_⟩;refine zP ?_
 first|(simp_all;done)|(simp_all;omega)
theorem zpt (hs:Sub h w) (lo:Int) (hi:Int) (all__f:Sl zeg h all__v all_):Calls Tryz.prog 179 #[iV lo,iV hi,all__v] w (zbH h w (fun _ _ res_=>res_=.bool (zey all_ lo hi))):=by
 refine zg 11 Tryz.func179 K<|have H:=zcu hs;have all__f_b:=all__f.le;zw<|J [iV lo] H K<|fun d e f I L P=>J [iV hi] P K<|fun g i j A C B=>za K<|D<|zw<|zk all__v K<|zgm K K K ?_;have Q:=I.t A;refine zau B rfl rfl rfl Tryz.call156 rfl (zhw B.sub (all__f.up Q) (fun x_=>(decide ((x_)<lo) || decide ((hi)<x_))) Tryz.call223 (fun x_ h_ w_ vs_ le_ hs_ hx_ hr_ u_ hu_=>by cases hu_;cases hr_;exact zzO hs_ _ (lo:=lo) ((L.up A).up le_) (hi:=hi) (C.up le_))) ?_;intro b c S a F T;obtain rfl:=T;refine zdJ K K<|za K<|ze<|zf Tryz.results179<|⟨S,_,K,F.done,?_⟩;exact zP<|zuh all_ lo hi
theorem zBm (hs:Sub h w) (n:Int) (lo_c:zaL h lo_b 0 [iV lo]) (hi_c:zaL h hi_b 0 [iV hi]):Calls Tryz.prog 160 #[iV n,.pointer (some ⟨lo_b,0,none⟩),.pointer (some ⟨hi_b,0,none⟩)] w (zbH h w (fun _ _ res_=>res_=.bool ((decide (n<lo) || decide (hi<n))))):=by
 refine zg 13 Tryz.func160 K<|have A:=zcu hs;zw<|za K<|D<|zw<|N K<|Y 0 A.sub lo_c zO K<|zM K<|zp K<|zaK (d:=8) K (fun B=>?_) (fun B=>?_)
 ·refine zao 3 K<|zd K<|za K<|ze<|zf Tryz.results160<|⟨h,_,K,A.done,?_⟩;refine zP ?_
  first|(simp_all;done)|(simp_all;omega)
 refine X K<|N K<|X K<|Y 0 A.sub hi_c zO K<|X K<|zhn K K K<|zb K<|za K<|ze<|zf Tryz.results160<|⟨h,_,K,A.done,?_⟩;refine zP ?_
 first|(simp_all;done)|(simp_all;omega)
theorem zzc (hs:Sub h w) (lo:Int) (hi:Int) (all__f:Sl zeg h all__v all_):Calls Tryz.prog 105 #[iV lo,iV hi,all__v] w (zbH h w (fun _ _ res_=>res_=.bool (zey all_ lo hi))):=by
 refine zg 11 Tryz.func105 K<|have H:=zcu hs;have all__f_b:=all__f.le;zw<|J [iV lo] H K<|fun d e f I L P=>J [iV hi] P K<|fun g i j A C B=>za K<|D<|zw<|zk all__v K<|zgm K K K ?_;have Q:=I.t A;refine zau B rfl rfl rfl Tryz.call156 rfl (zhw B.sub (all__f.up Q) (fun x_=>(decide ((x_)<lo) || decide ((hi)<x_))) Tryz.call160 (fun x_ h_ w_ vs_ le_ hs_ hx_ hr_ u_ hu_=>by cases hu_;cases hr_;exact zBm hs_ _ (lo:=lo) ((L.up A).up le_) (hi:=hi) (C.up le_))) ?_;intro b c S a F T;obtain rfl:=T;refine zdJ K K<|za K<|ze<|zf Tryz.results105<|⟨S,_,K,F.done,?_⟩;exact zP<|zuh all_ lo hi
theorem zyl (hs:Sub h w) (b:Int) (b_l:0≤b∧b≤255):Calls Tryz.prog 199 #[.int .u8 b] w (zbH h w (fun _ _ res_=>res_=.bool ((decide (b<97) || decide (122<b))))):=by
 refine zg 9 Tryz.func199 K<|have A:=zcu hs;zw<|za K<|D<|zw<|N K<|zM K<|zp K<|zaK (d:=5) K (fun B=>?_) (fun B=>?_)
 ·refine zao 2 K<|zd K<|za K<|ze<|zf Tryz.results199<|⟨h,_,K,A.done,?_⟩;refine zP ?_
  first|(simp_all;done)|(simp_all;omega)
 refine X K<|N K<|X K<|zhn K K K<|zb K<|za K<|ze<|zf Tryz.results199<|⟨h,_,K,A.done,?_⟩;refine zP ?_
 first|(simp_all;done)|(simp_all;omega)
theorem zrY (hs:Sub h w) (s:Str) (s_le:s.length≤281474976710656):Calls Tryz.prog 151 #[zae s] w (zbH h w (fun _ _ res_=>res_=.bool (zgA s))):=by
 refine zg 13 Tryz.func151 K<|have H:=zcu hs;zw<|za K<|D<|zw<|zfv K K<|zfV K zcc K<|zA zeg [(s.length:Int)] [iV (s.length:Int)] H (Enc.cons (L:=zeg) (vs:=[iV (s.length:Int)]) (x:=(s.length:Int)) (h:=h) K Enc.nil) K zbx Tryz.info3 zch<|fun m n o c f3 C=>zi C K zhJ (zhF C.sub _ _ f3)<|fun p q e T A I=>?_;obtain rfl:=I;refine zp K<|zbX (d:=7) K (fun P=>?_) (fun P=>?_)
 ·refine X K<|zfv K K<|X K ?_;refine zyu A (s:=s) rfl (by first|assumption|omega|(simp;omega)) rfl zcc Tryz.underlying312 Tryz.underlying5 zcg ?_;intro f g i a f18 B;refine X K ?_;refine zau B rfl rfl rfl Tryz.call198 rfl (znz B.sub f18 (fun x_=>(decide ((x_)<97) || decide (122<x_))) Tryz.call199 (fun x_ h_ w_ vs_ le_ hs_ hx_ hr_ u_ hu_=>by cases hu_;obtain ⟨hr1_,hr2_⟩:=hr_;cases hr1_;exact zyl hs_ _ hr2_)) ?_;intro j l Q b F S;obtain rfl:=S;refine X K<|zdJ K K<|zd K<|za K<|ze<|zf Tryz.results151<|⟨Q,_,K,F.done,?_⟩;refine zP ?_;simp_all[zAf]
 refine zao 4 K<|zb K<|za K<|ze<|zf Tryz.results151<|⟨e,_,K,A.done,?_⟩;refine zP ?_;simp_all[zAf]
theorem zxF (hs:Sub h w) (s:Str) (s_le:s.length≤281474976710656):Calls Tryz.prog 150 #[zae s] w (zbH h w (fun _ _ res_=>res_=.bool (!zgA s))):=by
 refine zg 6 Tryz.func150 K<|have A:=zcu hs;zw<|za K<|D<|zw<|zfv K K<|zi A K Tryz.call151 (zrY A.sub _ zcn)<|fun I L C F B H=>?_;obtain rfl:=H;refine zdJ K K<|za K<|ze<|zf Tryz.results150<|⟨C,_,K,B.done,?_⟩;refine zP ?_;rfl
theorem zrb (hs:Sub h w) {t:Text} (t_f0:Sl zaN h t_v0 t.chapters):Calls Tryz.prog 97 #[.agg #[t_v0]] w (zbH h w (fun _ _ res_=>res_=iV (if zcz t then 0 else 10))):=by
 refine zg 64 Tryz.func97 K<|have g2:=zcu hs;have d8:=t_f0.le;zw<|J [t_v0] g2 K<|fun b1 w2 h3 d9 e0 e1=>U K<|D<|zzS<|zav<|Z zaY K zbW<|Y 0 e1.sub e0 zcJ K<|zG (t_f0.up d9) zaJ K<|zA zeg [(t.chapters.length:Int)] [iV (t.chapters.length:Int)] e1 (Enc.cons (L:=zeg) (vs:=[iV (t.chapters.length:Int)]) (x:=(t.chapters.length:Int)) (h:=h3) K Enc.nil) K zbx Tryz.info3 zch<|fun v7 w8 j0 a4 f9 a5=>zi a5 K zhJ (zhF a5.sub _ _ f9)<|fun j1 j2 c0 a6 a7 g3=>?_;subst g3;refine zdJ K K<|D<|zaD K (fun g4=>?_) (fun g4=>?_)
 ·refine zw<|U K<|ze<|zN<|zlS<|zf zlM<|⟨c0,_,K,a7.done,?_⟩;refine zan ?_;simp_all[zcz]
 refine zgg<|zw<|U K<|D<|zw<|ziN (κ:=Int) (υ:=Bool) (ek:=(fun n:Int=>iV n)) (eu:=(fun b:Bool=>.bool b)) a7 K<|fun j3 g5 j4 f23 a8=>?_;obtain ⟨H,rfl⟩:=f23.form;have c4:(([]:List (Int×Bool)).map (·.1)).Nodup:=by simp
 refine zH (.map (some H)) K<|D<|zaM<|zzV<|zF<|zav<|Z zaY K zbW<|Y 0 a8.sub (e0.up (a4.t a6)) zcJ K<|have e2:=(d9.t a4).t a6;zG (t_f0.up e2) zaJ K<|N K<|D<|zT ?_;refine zaI ([2,3,6,8]++zbP 19 44) (G:=Nat×List (Int×Bool)×List (Nat×Obj)×Heap) (fun ⟨i,m,A,g⟩=>[(3,iV 0),(19,iV (i:Int))]) (fun ⟨i,m,A,g⟩ w'=>Le c0 g∧St h w g w' [A]∧(OM (fun n:Int=>iV n) (fun b:Bool=>.bool b) m A (.map (some H)))∧(((m).map (·.1)).Nodup)∧(i≤t.chapters.length)∧((t.chapters.take i).all zeC=true)∧(((t.chapters.take i).map (·.id)).Nodup)∧(∀ k,(zcI m k).getD false=decide (k∈(t.chapters.take i).map (·.id)))) (fun ⟨i,m,A,g⟩=>t.chapters.length-i) ⟨0,[],g5,c0⟩ ⟨rfl,rfl,trivial⟩ ⟨Le.refl _,a8,(by have q:=f23;exact q),(by have q:=c4;exact q),zbB,zbB,zbB,(by intro k;simp[zcI])⟩ ?_;rintro ⟨i,m,A,g⟩ _ j5 ⟨a9,j,I,T,hi,hA,hN,hm⟩;refine zw<|zM K<|D<|zaM<|zV K (fun g6=>?_) (fun g6=>?_)
 ·refine zaS<|zT<|zw ?_;obtain ⟨c,hc⟩:∃ y_,(t.chapters)[i]?=some y_:=zdl zW;have g7:=e2.t a9;obtain ⟨j6,j7,_,c5,c6,hr_c⟩:=Sl.elem (t_f0.up g7) hc;obtain ⟨j8,rfl,f39⟩:=hr_c;have g0:=f39.le;refine zx c5 zaJ zbA K<|E j.sub c6 zjl zbA K<|zaf j zgN K K<|fun j9 k0 c7=>zaU 1 c7 K (zbI K (zbI f39.one zgB)) zbA<|fun k1 c8=>?_;obtain ⟨g8,l,c9,b0⟩:=c8.freeze (k:=1) rfl;have P:=zaL.of c9;refine D<|zav<|Z zaP K zI<|Y 0 b0.sub P zO K<|zA zeg [c.id] [iV c.id] b0 (Enc.cons (L:=zeg) (vs:=[iV c.id]) (x:=(c.id)) (h:=g8) K Enc.nil) K zbx Tryz.info3 zch<|fun k3 k4 k5 B f52 b2=>zi b2 K zhJ (zhF b2.sub _ _ f52)<|fun k6 k7 c1 C F g9=>?_;subst g9;refine zdJ K K<|zp K<|zbX (d:=28) K (fun e3=>?_) (fun e3=>?_)
  ·refine zao 4 K<|zd K<|zp K<|zao 6 K<|zd K<|D<|zaD K (fun e4=>?_) (fun e4=>?_)
   ·refine zw<|U K<|ze<|zN<|zaq<|zN<|zaq<|zlS<|zf zlM<|⟨c1,_,K,F.done,?_⟩;refine zan ?_;have q0:zeC c=false:=by
     have q:=e3;simp at q;simp[zeC,q]
    have q:=zeG (p:=zeC) hc q0;simp[zcz,q]
   cases e4
  refine X K<|zk (.map (some H)) K<|X K<|Z zaP K zI<|X K<|Y 0 F.sub (P.up (B.t C)) zO K<|X K<|zU K (zEI (k:=(c.id)) (zu:=false) (zqM zcW) Tryz.underlying196 I (F.ent (k:=0) K) Tryz.zeroValue4 K K K)<|zb K<|zp K<|zbX (d:=34) K (fun e5=>?_) (fun e5=>?_)
  ·refine zao 6 K<|zd K<|D<|zaD K (fun e6=>?_) (fun e6=>?_)
   ·refine zw<|U K<|ze<|zN<|zaq<|zN<|zaq<|zlS<|zf zlM<|⟨c1,_,K,F.done,?_⟩;refine zan ?_;have q0:=e5;rw[hm] at q0;have q:=zpZ (f:=(·.id)) hc (by simpa using q0);simp[zcz,q]
   cases e6
  refine X K<|Z zaP K zcj<|X K<|Y 1 F.sub (P.up (B.t C)) zdd K<|X K<|zG (f39.up ((l.t B).t C)) zaW K<|X K<|zA zeg [(c.lines.length:Int)] [iV (c.lines.length:Int)] F (Enc.cons (L:=zeg) (vs:=[iV (c.lines.length:Int)]) (x:=(c.lines.length:Int)) (h:=c1) K Enc.nil) K zbx Tryz.info3 zch<|fun k8 k9 l0 o f68 b3=>X K<|zi b3 K zhJ (zhF b3.sub _ _ f68)<|fun l1 l2 c2 r s h0=>?_;subst h0;refine X K<|zdJ K K<|zb K<|D<|zaD K (fun e7=>?_) (fun e7=>?_)
  ·refine zw<|U K<|ze<|zN<|zaq<|zN<|zaq<|zlS<|zf zlM<|⟨c2,_,K,s.done,?_⟩;refine zan ?_;have q0:zeC c=false:=by
    have q:=e7;simp at q;simp[zeC,q]
   have q:=zeG (p:=zeC) hc q0;simp[zcz,q]
  refine zgg<|zw<|zk (.map (some H)) K<|Z zaP K zI<|have e8:=((B.t C).t o).t r;Y 0 s.sub (P.up e8) zO K<|zpv (i:=0) s I K T (zqM zcW) Tryz.underlying196 K (k:=(c.id)) K (u:=true) K<|fun h1 l3 _ h2 f83 d0 b4=>?_;subst h2;refine D<|zw<|Z zaP K zcj<|Y 1 b4.sub (P.up e8) zdd K<|have e9:=(((l.t B).t C).t o).t r;zG (f39.up e9) zaW K<|N K<|D<|zT ?_;refine zaI ([3,8]++zbP 48 14) (G:=Nat×List (Nat×Obj)×Heap) (fun ⟨v,A,Q⟩=>[(3,iV 0),(48,iV (v:Int))]) (fun ⟨v,A,Q⟩ w'=>Le c2 Q∧St h w Q w' [A,[]]∧(OM (fun n:Int=>iV n) (fun b:Bool=>.bool b) (ziL m c.id true) A (.map (some H)))∧(((ziL m c.id true).map (·.1)).Nodup)∧(v≤c.lines.length)∧((c.lines.take v).all zmh=true)) (fun ⟨v,A,Q⟩=>c.lines.length-v) ⟨0,h1,c2⟩ ⟨rfl,rfl,trivial⟩ ⟨Le.refl _,b4,(by have q:=f83;exact q),(by have q:=d0;exact q),zbB,zbB⟩ ?_;rintro ⟨v,A,Q⟩ _ l4 ⟨y,z,I,T,l5,hl⟩;refine zw<|zM K<|D<|zaM<|zV K (fun h4=>?_) (fun h4=>?_)
  ·refine zaS<|zT<|zw ?_;obtain ⟨ln,hln⟩:∃ y_,(c.lines)[v]?=some y_:=zdl zW;obtain ⟨l6,l7,_,d1,d2,hr_ln⟩:=Sl.elem (f39.up (e9.t y)) hln;obtain ⟨c3,rfl,f97⟩:=hr_ln;have g1:=f97.le;refine zx d1 zaW zeY K<|Y 0 z.sub d2 zfK K<|zH c3 K<|D<|zw<|zk c3 K<|zG f97 zJ K<|zA zeg [(ln.length:Int)] [iV (ln.length:Int)] z (Enc.cons (L:=zeg) (vs:=[iV (ln.length:Int)]) (x:=(ln.length:Int)) (h:=Q) K Enc.nil) K zbx Tryz.info3 zch<|fun l8 l9 h5 a0 f100 a1=>zi a1 K zhJ (zhF a1.sub _ _ f100)<|fun h6 h7 d3 a2 S d4=>?_;subst d4;refine zdJ K K<|zp K<|zbX (d:=57) K (fun b5=>?_) (fun b5=>?_)
   ·refine zao 2 K<|zd K<|D<|zaD K (fun b6=>?_) (fun b6=>?_)
    ·refine zw<|U K<|D<|zmO<|zlU K<|zfu<|zfu<|zlU K<|zlU K<|zfu<|zfu<|zls<|zF<|zw<|N K<|U K<|ze<|zlS<|zf zlM<|⟨d3,_,K,S.done,?_⟩;refine zan ?_;have q1:zmh ln=false:=by
      have q:=b5;simp at q;simp[zmh,q]
     have q2:=zeG (p:=zmh) hln q1;have q0:zeC c=false:=by simp[zeC,q2]
     have q:=zeG (p:=zeC) hc q0;simp[zcz,q]
    cases b6
   refine X K<|zk c3 K<|X K ?_;refine zau S rfl rfl rfl Tryz.call149 rfl (zmk S.sub (f97.up (a0.t a2)) (fun x_=>(!zgA x_)) Tryz.call150 (fun x_ h_ w_ vs_ le_ hs_ hx_ hr_ u_ hu_=>by cases hu_;obtain ⟨hr1_,hr2_⟩:=hr_;cases hr1_;simp only[big] at hr2_;exact zxF hs_ _ hr2_)) ?_;intro h8 h9 b7 b9 a3 d5;subst d5;refine zb K<|D<|zaD K (fun b8=>?_) (fun b8=>?_)
   ·refine zw<|U K<|D<|zmO<|zlU K<|zfu<|zfu<|zlU K<|zlU K<|zfu<|zfu<|zls<|zF<|zw<|N K<|U K<|ze<|zlS<|zf zlM<|⟨b7,_,K,a3.done,?_⟩;refine zan ?_;have q1:zmh ln=false:=by
     have q:=b8;rw[zwl] at q;simp only[zmh,zfN];right;simpa using q
    have q2:=zeG (p:=zmh) hln q1;have q0:zeC c=false:=by simp[zeC,q2]
    have q:=zeG (p:=zeC) hc q0;simp[zcz,q]
   refine zbO<|zaF<|zo K zbj<|N K<|D<|have d6:=((y.t a0).t a2).t b9;⟨⟨v+1,A,b7⟩,⟨rfl,K,trivial⟩,?_,⟨d6,a3,?_,?_,?_,?_⟩,?_⟩
   ·exact zba
   ·have q:=I;exact q
   ·have q:=T;exact q
   ·first|omega|(simp;omega)
   ·exact zeW hl hln (by simp_all[zmh])
   show c.lines.length-(v+1)<c.lines.length-v;omega
  refine zdx<|zaF<|zo K zbj<|N K<|D ?_;have HCH:zeC c=true:=by
   have q:=zdY hl zW;simp_all[zeC]
  have HD:(zcI m c.id).getD false=false:=by simp_all
  have d7:=(((((a9.t l).t B).t C).t o).t r).t y;refine ⟨⟨i+1,ziL m c.id true,A,Q⟩,⟨rfl,K,trivial⟩,?_,⟨d7,z.take 1,?_,?_,?_,?_,?_,?_⟩,?_⟩
  ·exact zba
  ·have q:=I;exact q
  ·have q:=T;exact q
  ·first|omega|(simp;omega)
  ·exact zeW hA hc HCH
  ·rw[zbg hc,zaz,zcx];refine ⟨hN,by simp,?_⟩;intro a ha b hb e;simp only[zbQ,zfm,zgc] at hb;subst hb;subst e;rw[hm] at HD;exact absurd ha (by simpa using HD)
  ·intro k;rw[zio,zbg hc,zaz]
   by_cases e:k=c.id
   ·simp[e]
   ·simp only[zam e,hm];simp[e]
  show t.chapters.length-(i+1)<t.chapters.length-i;omega
 refine zdx<|zF<|zw<|N K<|U K<|ze<|zlS<|zf zlM<|⟨g,_,K,j.done,?_⟩;refine zan ?_;have q:=zdY hA zW;have q2:t.chapters.take i=t.chapters:=zS zW;rw[q2] at hN;simp_all[zcz]
theorem zqs (hs:Sub h w) {a_v:Value} {a:(List Str)} (a_f:Sl zea h a_v a) {b_v:Value} {b:(List Str)} (b_f:Sl zea h b_v b):Calls Tryz.prog 112 #[a_v,b_v] w (zbH h w (fun _ _ res_=>res_=.bool (decide (a=b)))):=by
 refine zg 26 Tryz.func112 K<|have I:=zcu hs;have a_f_b:=a_f.le;have b_f_b:=b_f.le;zw<|za K<|D<|zav<|zk a_v K<|zG a_f zJ K<|zk b_v K<|zG b_f zJ K<|zar K<|D<|zV K (fun g=>?_) (fun g=>?_)
 ·refine zw<|za K<|ze<|zN<|zf Tryz.results112<|⟨h,_,K,I.done,?_⟩;refine zP ?_;have q:a≠b:=by
   rintro rfl;simp_all
  simp[q]
 refine zaS<|zw<|U K<|D<|zT ?_;refine zaI ([4,5]++zbP 11 15) (G:=Nat×Heap) (fun ⟨k,C⟩=>[(5,iV (k:Int))]) (fun ⟨k,C⟩ w'=>Le h C∧St h w C w' []∧(k≤a.length)∧(a.take k=b.take k)) (fun ⟨k,C⟩=>a.length-k) ⟨0,h⟩ ⟨rfl,trivial⟩ ⟨Le.refl _,I,zbB,zbB⟩ ?_;rintro ⟨k,C⟩ _ n ⟨A,F,hk,he⟩;refine zav<|N K<|zk a_v K<|zG (a_f.up A) zJ K<|zM K<|D<|zV K (fun i=>?_) (fun i=>?_)
 ·refine zaS<|zT<|zaM<|zcY zbh zch (Cls C _) (Cls.drew F)<|zbr a_v K<|zew K K ?_;obtain ⟨x,hx⟩:∃ y_,(a)[k]?=some y_:=zdl zW;obtain ⟨o,p,_,L,e,hr_x⟩:=Sl.elem (a_f.up A) hx;obtain ⟨rfl,P⟩:=hr_x;simp only[big] at P;refine zag L zJ zap K<|zaT 0 e zaZ K<|zbr b_v K<|zew K K ?_;obtain ⟨y,hy⟩:∃ y_,(b)[k]?=some y_:=zdl zW;obtain ⟨j,l,_,Q,S,hr_y⟩:=Sl.elem (b_f.up A) hy;obtain ⟨rfl,T⟩:=hr_y;simp only[big] at T;refine zag Q zJ zap K<|zaT 0 S zaZ K<|zbf K K (fun _ _=>(zpg K K))<|zci ?_;rintro m ⟨c,d⟩;have B:=F.call0 d;refine zF<|zV K (fun H=>?_) (fun H=>?_)
  ·refine zw<|za K<|ze<|zaq<|zN<|zaq<|zf Tryz.results112<|⟨c,_,K,B.done,?_⟩;refine zP ?_;have q:=zin hx hy (by simpa using H);simp[q]
  refine zbO<|zaF<|N K<|zo K zbj<|U K<|D<|have f:=A.trans d.le;⟨⟨k+1,c⟩,⟨rfl,trivial⟩,?_,⟨f,B,?_,?_⟩,?_⟩
  ·exact zba
  ·first|omega|(simp;omega)
  ·exact zhv he hx hy (by simpa using H)
  show a.length-(k+1)<a.length-k;omega
 refine zdx<|zF<|zw<|za K<|ze<|zf Tryz.results112<|⟨C,_,K,F.done,?_⟩;refine zP ?_;have q:=ziF he zW zW;simp[q]
theorem ztG (hs:Sub h w) {a:Text} (a_f0:Sl zaN h a_v0 a.chapters) {b:Text} (b_f0:Sl zaN h b_v0 b.chapters):Calls Tryz.prog 57 #[.agg #[a_v0],.agg #[b_v0]] w (zbH h w (fun _ _ res_=>res_=.bool (decide (a=b)))):=by
 refine zg 66 Tryz.func57 K<|have d5:=zcu hs;have c0:=a_f0.le;have c3:=b_f0.le;zw<|J [a_v0] d5 K<|fun b1 w2 h3 d6 s d7=>J [b_v0] d7 K<|fun b7 w8 h9 P o Q=>za K<|D<|zav<|Z zaY K zbW<|Y 0 Q.sub (s.up P) zcJ K<|have u:=d6.t P;zG (a_f0.up u) zaJ K<|Z zaY K zbW<|Y 0 Q.sub o zcJ K<|zG (b_f0.up u) zaJ K<|zar K<|D<|zV K (fun d8=>?_) (fun d8=>?_)
 ·refine zw<|za K<|ze<|zN<|zf Tryz.results57<|⟨h9,_,K,Q.done,?_⟩;refine zP ?_;have q:a≠b:=by
   rintro rfl;simp_all
  simp[q]
 refine zaS<|zw<|U K<|D<|zT ?_;refine zaI ([4,5,6,7,8]++zbP 16 50) (G:=Nat×Heap) (fun ⟨i,g⟩=>[(5,iV (i:Int))]) (fun ⟨i,g⟩ w'=>Le h9 g∧St h w g w' []∧(i≤a.chapters.length)∧(a.chapters.take i=b.chapters.take i)) (fun ⟨i,g⟩=>a.chapters.length-i) ⟨0,h9⟩ ⟨rfl,trivial⟩ ⟨Le.refl _,Q,zbB,zbB⟩ ?_;rintro ⟨i,g⟩ _ e6 ⟨H,j,hi,he⟩;refine zav<|N K<|Z zaY K zbW<|Y 0 j.sub (s.up (P.t H)) zcJ K<|have v:=u.t H;zG (a_f0.up v) zaJ K<|zM K<|D<|zV K (fun d9=>?_) (fun d9=>?_)
 ·refine zaS<|zT<|zaM ?_;obtain ⟨c,hc⟩:∃ y_,(a.chapters)[i]?=some y_:=zdl zW;obtain ⟨e7,e8,_,a2,a3,hr_c⟩:=Sl.elem (a_f0.up v) hc;obtain ⟨e9,rfl,f26⟩:=hr_c;have c9:=f26.le;obtain ⟨d,hd⟩:∃ y_,(b.chapters)[i]?=some y_:=zdl zW;obtain ⟨g0,g1,_,a4,a5,hr_d⟩:=Sl.elem (b_f0.up v) hd;obtain ⟨g2,rfl,f32⟩:=hr_d;have d0:=f32.le;refine ziZ (dsts:=(zbP 23 10++[6,7])) j zbh<|zL (zh zaY K zbW)<|zas (fun hD wD z hL hS hO _ _=>(zm 0 (hL.sub hS) (s.up (P.t H)) zcJ K))<|zL (zho K)<|zL (zdW a2 zaJ zbA K)<|zas (fun hD wD z hL hS hO _ _=>(zaQ (hL.sub hS) a3 K zjl zbA K))<|zL (zh zaY K zbW)<|zas (fun hD wD z hL hS hO _ _=>(zm 0 (hL.sub hS) (o.up H) zcJ K))<|zL (zho K)<|zL (zdW a4 zaJ zbA K)<|zas (fun hD wD z hL hS hO _ _=>(zaQ (hL.sub hS) a5 K zjl zbA K))<|zmn zgN K<|zmn zgN K<|zcf<|zcf<|zdy<|fun g3=>fun g4=>fun e4 g5 _ p a6 _ _ _ _ _ _ _ _ _ _=>zaU 0 a6 K (zbI K (zbI f26.one zgB)) zbA<|fun g6 a7=>?_;obtain ⟨g7,l,a8,a9⟩:=a7.freeze (k:=0) rfl;have S:=zaL.of a8;refine zl ⟨undef,K,_,_,l,a9,?_⟩;intro e5 g8 _ I b0 _ _ _ _ _ _ _ _ _ _ _ _ _ _ _ _ _ _ _ _;refine zaU 1 b0 K (zbI K (zbI f32.one zgB)) zbA<|fun g9 b2=>?_;obtain ⟨h0,F,b3,b4⟩:=b2.freeze (k:=1) rfl;have m:=zaL.of b3;refine zl ⟨undef,K,_,_,F,b4,?_⟩;intro T h1 _ A B _ _ _ _ _ _ _ _ _ _ _ _ _ _ _ _ _ _ _ _;refine zbT.fin K<|zF<|zav<|Z zaP K zI<|Y 0 B.sub (S.up ((I.t F).t A)) zO K<|Z zaP K zI<|Y 0 B.sub (m.up A) zO K<|zar K<|zp K<|zaK (d:=38) K (fun e0=>?_) (fun e0=>?_)
  ·refine zao 7 K<|zd K<|D<|zaD K (fun c4=>?_) (fun c4=>?_)
   ·refine zw<|za K<|ze<|zN<|zaq<|zN<|zaq<|zf Tryz.results57<|⟨T,_,K,B.done,?_⟩;refine zP ?_;have q:c≠d:=by
     rintro rfl;simp_all
    have q2:a≠b:=fun e=>zin hc hd q (by rw[e]);simp[q2]
   cases c4
  refine X K<|Z zaP K zcj<|X K<|Y 1 B.sub (S.up ((I.t F).t A)) zdd K<|X K<|have n:=(((p.t l).t I).t F).t A;zG (f26.up n) zaW K<|X K<|Z zaP K zcj<|X K<|Y 1 B.sub (m.up A) zdd K<|X K<|zG (f32.up n) zaW K<|X K<|zar K<|zb K<|D<|zV K (fun e1=>?_) (fun e1=>?_)
  ·refine zw<|za K<|ze<|zN<|zaq<|zN<|zaq<|zf Tryz.results57<|⟨T,_,K,B.done,?_⟩;refine zP ?_;have q:c≠d:=by
    rintro rfl;simp_all
   have q2:a≠b:=fun e=>zin hc hd q (by rw[e]);simp[q2]
  refine zgg<|zw<|U K<|D<|zT ?_;refine zaI ([4,8]++zbP 47 19) (G:=Nat×Heap) (fun ⟨k,L⟩=>[(8,iV (k:Int))]) (fun ⟨k,L⟩ w'=>Le T L∧St h w L w' [[],[]]∧(k≤c.lines.length)∧(c.lines.take k=d.lines.take k)) (fun ⟨k,L⟩=>c.lines.length-k) ⟨0,T⟩ ⟨rfl,trivial⟩ ⟨Le.refl _,B,zbB,zbB⟩ ?_;rintro ⟨k,L⟩ _ h2 ⟨C,f,hk,c5⟩;refine zav<|N K<|Z zaP K zcj<|have c6:=((I.t F).t A).t C;Y 1 f.sub (S.up c6) zdd K<|zG (f26.up (n.t C)) zaW K<|zM K<|D<|zV K (fun e2=>?_) (fun e2=>?_)
  ·refine zaS<|zT<|zaM<|zcY zbh zch (Cls L _) (Cls.drew f)<|zz zaP K zcj<|zaT 1 (S.up c6) zdd K<|zew K K ?_;obtain ⟨x,hx⟩:∃ y_,(c.lines)[k]?=some y_:=zdl zW;obtain ⟨h4,h5,_,b5,b6,hr_x⟩:=Sl.elem (f26.up (n.t C)) hx;obtain ⟨h6,rfl,f79⟩:=hr_x;have d3:=f79.le;refine zag b5 zaW zeY K<|zaT 0 b6 zfK K<|zz zaP K zcj<|zaT 1 (m.up (A.t C)) zdd K<|zew K K ?_;obtain ⟨y,hy⟩:∃ y_,(d.lines)[k]?=some y_:=zdl zW;obtain ⟨h7,h8,_,b8,b9,hr_y⟩:=Sl.elem (f32.up (n.t C)) hy;obtain ⟨j0,rfl,f85⟩:=hr_y;have d4:=f85.le;refine zag b8 zaW zeY K<|zaT 0 b9 zfK K<|zeI K K (fun _=>zcT K Tryz.call112 K) (fun _ hC=>zbH.quiet hC (zqs hC.sub f79 f85))<|zpC K K<|zci ?_;rintro j1 ⟨c7,c8⟩;have r:=f.call0 c8;refine zF<|zaD K (fun a0=>?_) (fun a0=>?_)
   ·refine zw<|za K<|ze<|zaq<|zN<|zgE<|zaq<|zN<|zaq<|zf Tryz.results57<|⟨c7,_,K,r.done,?_⟩;refine zP ?_;have q1:c.lines≠d.lines:=zin hx hy (by simpa using a0);have q:c≠d:=fun e=>q1 (by rw[e]);have q2:a≠b:=fun e=>zin hc hd q (by rw[e]);simp[q2]
   refine zbO<|zaF<|N K<|zo K zbj<|U K<|D<|⟨⟨k+1,c7⟩,⟨rfl,trivial⟩,?_,⟨(C.trans c8.le),r,?_,?_⟩,?_⟩
   ·exact zba
   ·first|omega|(simp;omega)
   ·exact zhv c5 hx hy (by simpa using a0)
   show c.lines.length-(k+1)<c.lines.length-k;omega
  refine zdx<|zaF<|N K<|zo K zbj<|U K<|D ?_;have HCD:c=d:=by
   have q:=ziF c5 zW zW
   rcases c with ⟨c1,c2⟩;rcases d with ⟨d1,d2⟩
   simp_all
  have e3:=(((((H.t p).t l).t I).t F).t A).t C;refine ⟨⟨i+1,L⟩,⟨rfl,trivial⟩,?_,⟨e3,f.take 0,?_,?_⟩,?_⟩
  ·exact zba
  ·first|omega|(simp;omega)
  ·exact zhv he hc hd HCD
  show a.chapters.length-(i+1)<a.chapters.length-i;omega
 refine zdx<|zF<|zw<|za K<|ze<|zf Tryz.results57<|⟨g,_,K,j.done,?_⟩;refine zP ?_;have q:=ziF he zW zW
 rcases a with ⟨a1⟩;rcases b with ⟨b1⟩
 simp_all
theorem ztx (hs:Sub h w) {a:Lexicon} (a_f0:Sl zeE h a_v0 a.rules) {a_v1:Value} (a_f1:Sl zaG h a_v1 a.decisions) {b:Lexicon} (b_f0:Sl zeE h b_v0 b.rules) {b_v1:Value} (b_f1:Sl zaG h b_v1 b.decisions):Calls Tryz.prog 58 #[.agg #[a_v0,a_v1],.agg #[b_v0,b_v1]] w (zbH h w (fun _ _ res_=>res_=.bool (decide (a=b)))):=by
 refine zg 59 Tryz.func58 K<|have c5:=zcu hs;have b6:=a_f0.le;have b8:=a_f1.le;have b9:=b_f0.le;have c0:=b_f1.le;zw<|J [a_v0,a_v1] c5 K<|fun b1 w2 h3 c6 S c7=>J [b_v0,b_v1] c7 K<|fun b7 w8 h9 B L C=>za K<|D<|zav<|Z zbC K zgy<|Y 0 C.sub (S.up B) zhH K<|have T:=c6.t B;zG (a_f0.up T) zdS K<|Z zbC K zgy<|Y 0 C.sub L zhH K<|zG (b_f0.up T) zdS K<|zar K<|zp K<|zaK (d:=14) K (fun c8=>?_) (fun c8=>?_)
 ·refine zao 7 K<|zd K<|D<|zaD K (fun u=>?_) (fun u=>?_)
  ·refine zw<|za K<|ze<|zN<|zf Tryz.results58<|⟨h9,_,K,C.done,?_⟩;refine zP ?_;have q:a≠b:=by
    rintro rfl;simp_all
   simp[q]
  cases u
 refine X K<|Z zbC K zfJ<|X K<|Y 1 C.sub (S.up B) zgQ K<|X K<|zG (a_f1.up T) zbV K<|X K<|Z zbC K zfJ<|X K<|Y 1 C.sub L zgQ K<|X K<|zG (b_f1.up T) zbV K<|X K<|zar K<|zb K<|D<|zV K (fun c9=>?_) (fun c9=>?_)
 ·refine zw<|za K<|ze<|zN<|zf Tryz.results58<|⟨h9,_,K,C.done,?_⟩;refine zP ?_;have q:a≠b:=by
   rintro rfl;simp_all
  simp[q]
 refine zaS<|zw<|U K<|D<|zT ?_;refine zaI ([4,5]++zbP 23 18) (G:=Nat×Heap) (fun ⟨i,F⟩=>[(5,iV (i:Int))]) (fun ⟨i,F⟩ w'=>Le h9 F∧St h w F w' []∧(i≤a.rules.length)∧(a.rules.take i=b.rules.take i)) (fun ⟨i,F⟩=>a.rules.length-i) ⟨0,h9⟩ ⟨rfl,trivial⟩ ⟨Le.refl _,C,zbB,zbB⟩ ?_;rintro ⟨i,F⟩ _ d7 ⟨A,P,hi,he⟩;refine zav<|N K<|Z zbC K zgy<|Y 0 P.sub (S.up (B.t A)) zhH K<|have c:=T.t A;zG (a_f0.up c) zdS K<|zM K<|D<|zV K (fun d0=>?_) (fun d0=>?_)
 ·refine zaS<|zT<|zaM<|zcY zbh zch (Cls F _) (Cls.drew P)<|zz zbC K zgy<|zaT 0 (S.up (B.t A)) zhH K<|zew K K ?_;obtain ⟨r,hr⟩:∃ y_,(a.rules)[i]?=some y_:=zdl zW;obtain ⟨d8,d9,_,v,x,hr_r⟩:=Sl.elem (a_f0.up c) hr;obtain ⟨rfl,y,z⟩:=hr_r;simp only[big] at y;simp only[big] at z;refine zag v zdS zgH K<|zdp x zmN zgH K<|zz zbC K zgy<|zaT 0 (L.up A) zhH K<|zew K K ?_;obtain ⟨r2,j⟩:∃ y_,(b.rules)[i]?=some y_:=zdl zW;obtain ⟨e0,e1,_,a0,a3,l⟩:=Sl.elem (b_f0.up c) j;obtain ⟨rfl,a4,a5⟩:=l;simp only[big] at a4;simp only[big] at a5;refine zag a0 zdS zgH K<|zdp a3 zmN zgH K<|zbf K K (fun _ _=>(zkG K K Tryz.eqGuardType161 (Tryz.eq_Rule r r2)))<|zci ?_;rintro e2 ⟨c1,c2⟩;have f:=P.call0 c2;refine zF<|zV K (fun m=>?_) (fun m=>?_)
  ·refine zw<|za K<|ze<|zaq<|zN<|zaq<|zf Tryz.results58<|⟨c1,_,K,f.done,?_⟩;refine zP ?_;have q:a≠b:=fun e=>zin hr j (by simpa using m) (by rw[e]);simp[q]
  refine zbO<|zaF<|N K<|zo K zbj<|U K<|D<|⟨⟨i+1,c1⟩,⟨rfl,trivial⟩,?_,⟨(A.trans c2.le),f,?_,?_⟩,?_⟩
  ·exact zba
  ·first|omega|(simp;omega)
  ·exact zhv he hr j (by simpa using m)
  show a.rules.length-(i+1)<a.rules.length-i;omega
 refine zdx<|zF<|zav<|U K<|D<|zT ?_;refine zaI ([4,6]++zbP 41 18) (G:=Nat×Heap) (fun ⟨k,I⟩=>[(6,iV (k:Int))]) (fun ⟨k,I⟩ w'=>Le F I∧St h w I w' []∧(k≤a.decisions.length)∧(a.decisions.take k=b.decisions.take k)) (fun ⟨k,I⟩=>a.decisions.length-k) ⟨0,F⟩ ⟨rfl,trivial⟩ ⟨Le.refl _,P,zbB,zbB⟩ ?_;rintro ⟨k,I⟩ _ e3 ⟨H,Q,hk,hf⟩;refine zav<|N K<|Z zbC K zfJ<|Y 1 Q.sub (S.up ((B.t A).t H)) zgQ K<|have n:=c.t H;zG (a_f1.up n) zbV K<|zM K<|D<|zV K (fun d1=>?_) (fun d1=>?_)
 ·refine zaS<|zT<|zaM<|zcY zbh zch (Cls I _) (Cls.drew Q)<|zz zbC K zfJ<|zaT 1 (S.up ((B.t A).t H)) zgQ K<|zew K K ?_;obtain ⟨d,hd⟩:∃ y_,(a.decisions)[k]?=some y_:=zdl zW;obtain ⟨e4,e5,_,a6,a7,hr_d⟩:=Sl.elem (a_f1.up n) hd;obtain ⟨rfl,d3,a8,a9,d4⟩:=hr_d;simp only[big] at a8;simp only[big] at a9;refine zag a6 zbV zaH K<|zdp a7 zcs zaH K<|zz zbC K zfJ<|zaT 1 (L.up (A.t H)) zgQ K<|zew K K ?_;obtain ⟨d2,o⟩:∃ y_,(b.decisions)[k]?=some y_:=zdl zW;obtain ⟨e6,e7,_,b0,b3,p⟩:=Sl.elem (b_f1.up n) o;obtain ⟨rfl,d5,b4,b5,d6⟩:=p;simp only[big] at b4;simp only[big] at b5;refine zag b0 zbV zaH K<|zdp b3 zcs zaH K<|zbf K K (fun _ _=>(zkG K K zkx (Tryz.eq_Decision d d2)))<|zci ?_;rintro e8 ⟨c3,c4⟩;have g:=Q.call0 c4;refine zF<|zV K (fun s=>?_) (fun s=>?_)
  ·refine zw<|za K<|ze<|zaq<|zN<|zaq<|zf Tryz.results58<|⟨c3,_,K,g.done,?_⟩;refine zP ?_;have q:a≠b:=fun e=>zin hd o (by simpa using s) (by rw[e]);simp[q]
  refine zbO<|zaF<|N K<|zo K zbj<|U K<|D<|⟨⟨k+1,c3⟩,⟨rfl,trivial⟩,?_,⟨(H.trans c4.le),g,?_,?_⟩,?_⟩
  ·exact zba
  ·first|omega|(simp;omega)
  ·exact zhv hf hd o (by simpa using s)
  show a.decisions.length-(k+1)<a.decisions.length-k;omega
 refine zdx<|zF<|zw<|za K<|ze<|zf Tryz.results58<|⟨I,_,K,Q.done,?_⟩;refine zP ?_;have q1:=ziF he zW zW;have q2:=ziF hf zW zW
 rcases a with ⟨a1,a2⟩;rcases b with ⟨b1,b2⟩
 simp_all
theorem zvO (hs:Sub h w) {t:Text} (t_f0:Sl zaN h t_v0 t.chapters):Calls Tryz.prog 90 #[.agg #[t_v0]] w (zbH h w (fun h' _ res_=>∃ u0,res_=.tuple #[u0,iV (if zcz t then 0 else 10)]∧Box zBw h' (zcz t) t u0)):=by
 refine zg 13 Tryz.func90 K<|have S:=zcu hs;have Q:=t_f0.le;zw<|J [t_v0] S K<|fun f g i F H C=>zfj K K<|U K<|D<|zav<|E C.sub H zaX zac K<|zi C K Tryz.call97 (zrb C.sub (t:=t) (t_f0.up F))<|fun j l c B A T=>?_;obtain rfl:=T;refine U K<|D<|zw<|N K<|zar K<|D<|zV K (fun a=>?_) (fun a=>?_)
 ·refine zw<|N K<|zfj K K<|U K<|ze<|zN<|zbu Tryz.results90<|⟨c,_,K,A.done,?_⟩;refine ⟨_,zfS K (zan ?_),Box.nil ?_⟩
  ·simp_all
  simp_all
 refine zgg<|zw<|E A.sub (H.up B) zaX zac K ?_;refine zax rfl rfl (zdT (cs:=[t_v0]) (by obtain ⟨_,_,rfl⟩:=Sl.form t_f0;kernel_rfl)) ?_;refine J [t_v0] A K<|fun d e b I L P=>zlx K K<|U K<|ze<|zbu Tryz.results90<|⟨b,_,K,P.done,?_⟩;refine ⟨_,zfS K (zan ?_),Box.some ?_ L ⟨_,K,(t_f0.up ((F.t B).t I))⟩⟩
 ·simp_all
 simp_all
theorem zmc (hs:Sub h w) {t:Text} (t_f0:Sl zaN h t_v0 t.chapters) (t_c:zaL h t_b 0 [t_v0]):Calls Tryz.prog 115 #[.pointer (some ⟨t_b,0,none⟩),.agg #[iV p.chapter,iV p.line,iV p.word]] w (zbH h w (fun h' _ res_=>∃ u0,res_=u0∧Sl zea h' u0 (((zdw t p).getD [])))):=by
 refine zg 50 Tryz.func115 K<|have b3:=zcu hs;have a8:=t_f0.le;zw<|J [iV p.chapter,iV p.line,iV p.word] b3 K<|fun b1 w2 h3 I P n=>zdD K K<|D<|zaM<|zaM ?_
 rcases zbN ((!(zey (([(p.chapter)])) (0) (((t.chapters.length:Int)-1))))) with m|m
 ·have T:=m;refine ziZ (dsts:=(zbP 5 31)) n zbh<|zL (zks K)<|zL (zdH K)<|zL (zh zjW K zac)<|zL (zh zaY K zbW)<|zas (fun H Q A C B S _ _=>(zm 0 (C.sub B) (t_c.up I) zcJ K))<|zL (zrE (t_f0.up I) K zaJ)<|zL (zpf K K zbj)<|zL (zh zaC K zI)<|zas (fun H Q A C B S _ _=>(zm 0 (C.sub B) P zO K))<|zbq (.res (fun h' res_=>Sl zeg h' res_ ([p.chapter])) (fun _ _ _ hl f=>f.up hl)) ?_ ?_
  ·intro H Q A C B S _ _;have b4:=St.start B;exact zA zeg [p.chapter] [iV p.chapter] b4 (Enc.cons (L:=zeg) (vs:=[iV p.chapter]) (x:=(p.chapter)) (h:=H) K Enc.nil) K zbx Tryz.info3 zch<|fun v9 c8 c9 c1 f11 o=>zl ⟨_,_,K,o,_,K,f11⟩
  refine zbq (.det (.bool (zey (([p.chapter])) 0 (((t.chapters.length:Int)-1))))) ?_ ?_
  ·intro H Q A C B S _ _ gv9_0 gf9_0;have b:=St.start B;refine zi b K zhJ (zhF b.sub _ _ gf9_0)<|fun d0 d1 d2 c2 r b5=>?_;subst b5;exact zl ⟨_,_,K,r,(),K,trivial⟩
  refine zL (Run.lit (zpH K) T)<|zL (znK K)<|zdZ K<|zdZ K<|zdZ K<|zdZ K<|zdZ K<|zdZ K<|zdZ K<|zdZ K<|zdZ K<|zdZ K<|zdZ K<|zdZ K<|zdZ K<|zdZ K<|zdZ K<|zdZ K<|zdZ K<|zL (zsj (v:=(.bool _)) K K)<|zdy<|fun s d3 _ c3 u _ _ _ _ _ _ _ _ _ _ _ _ _ _ _ _ _ _ gv9_0x26 gf9_0x26 _ _ _ _ _ _ _ _ _ _ _ _ _ _ _ _ _ _ _ _ _ _ _ _ _ _ _ _ _ _ _ _ _ _ _ _ _ _ _ _ _ _=>zbT.fin K<|zF<|zaD K (fun y=>?_) (fun y=>?_)
  ·refine zw<|zdD K K<|ze<|zN<|zf Tryz.results115<|⟨s,_,K,u.done,?_⟩;refine ⟨_,K,Sl.to (Sl.nil _ _) ?_⟩;have q:zdw t p=none:=ztj (by
    have q:=m;simp[zey,inB] at q;omega)
   simp[q]
  cases y
 have T:=m;have q1:0≤p.chapter∧p.chapter<t.chapters.length:=by
  have q:=m;simp[zey,inB] at q;omega
 obtain ⟨c,hc⟩:∃ y_,(t.chapters)[p.chapter.toNat]?=some y_:=zdl zW;obtain ⟨d4,d5,_,d,e,hr_c⟩:=Sl.elem (t_f0.up I) hc;obtain ⟨d6,rfl,f33⟩:=hr_c;have b0:=f33.le;refine ziZ (dsts:=(zbP 5 31)) n zbh<|zL (zks K)<|zL (zdH K)<|zL (zh zjW K zac)<|zL (zh zaY K zbW)<|zas (fun H Q A C B S _ _=>(zm 0 (C.sub B) (t_c.up I) zcJ K))<|zL (zrE (t_f0.up I) K zaJ)<|zL (zpf K K zbj)<|zL (zh zaC K zI)<|zas (fun H Q A C B S _ _=>(zm 0 (C.sub B) P zO K))<|zbq (.res (fun h' res_=>Sl zeg h' res_ ([(p.chapter)])) (fun _ _ _ hl f=>f.up hl)) ?_ ?_
 ·intro H Q A C B S _ _;have z:=St.start B;exact zA zeg [p.chapter] [iV p.chapter] z (Enc.cons (L:=zeg) (vs:=[iV p.chapter]) (x:=(p.chapter)) (h:=H) K Enc.nil) K zbx Tryz.info3 zch<|fun d7 d8 d9 c4 f37 a0=>zl ⟨_,_,K,a0,_,K,f37⟩
 refine zbq (.det (.bool (zey (([p.chapter])) 0 (((t.chapters.length:Int)-1))))) ?_ ?_
 ·intro H Q A C B S _ _ gv9_0 gf9_0;have g:=St.start B;refine zi g K zhJ (zhF g.sub _ _ gf9_0)<|fun e0 e1 e2 c5 a1 b6=>?_;subst b6;exact zl ⟨_,_,K,a1,(),K,trivial⟩
 refine zL (Run.lit (zpH K) T)<|zL (znK K)<|zgp ⟨rfl,(zks K)⟩<|zgp ⟨rfl,(zdH K)⟩<|zgp ⟨rfl,(zh zjW K zac)⟩<|zgp ⟨rfl,(zh zaY K zbW)⟩<|zjL (fun H Q A C B S _ _ _ _=>⟨rfl,(zm 0 (C.sub B) (t_c.up I) zcJ K)⟩)<|zgp ⟨rfl,(zh zaC K zI)⟩<|zjL (fun H Q A C B S _ _ _ _=>⟨rfl,(zm 0 (C.sub B) P zO K)⟩) ?_;refine zgp ⟨rfl,(zcD d rfl rfl (hk:=(show _=((p.chapter.toNat:Nat):Int) by omega)) (hu:=zaJ) (hz:=zbA))⟩ ?_;refine zgp ⟨rfl,(zh zaP K zcj)⟩<|zjL (fun H Q A C B S _ _ _ _=>⟨rfl,(zm 1 (C.sub B) e zdd K)⟩)<|zgp ⟨rfl,(zrE f33 K zaW)⟩<|zgp ⟨rfl,(zpf K K zbj)⟩<|zgp ⟨rfl,(zh zaC K zI)⟩<|zjL (fun H Q A C B S _ _ _ _=>⟨rfl,(zm 1 (C.sub B) P zO K)⟩)<|zbq (.res (fun h' res_=>Sl zeg h' res_ ([p.line])) (fun _ _ _ hl f=>f.up hl)) ?_ ?_
 ·intro H Q A C B S _ _ _ _;have a2:=St.start B;exact X K<|zA zeg [p.line] [iV p.line] a2 (Enc.cons (L:=zeg) (vs:=[iV p.line]) (x:=(p.line)) (h:=H) K Enc.nil) K zbx Tryz.info3 zch<|fun e3 e4 e5 c6 f51 a3=>zl ⟨_,_,K,a3,_,K,f51⟩
 refine zbq (.det (.bool (zey (([p.line])) 0 (((c.lines.length:Int)-1))))) ?_ ?_
 ·intro H Q A C B S _ _ gv27_0 gf27_0 _ _;have i:=St.start B;refine X K<|zi i K zhJ (zhF i.sub _ _ gf27_0)<|fun e6 e7 e8 c7 a4 b7=>?_;subst b7;exact zl ⟨_,_,K,a4,(),K,trivial⟩
 refine zgp ⟨rfl,(zpH K)⟩<|zL (zoe (v:=(.bool _)) K K)<|zdy<|fun j e9 _ F a _ _ _ _ _ _ _ _ _ _ _ _ _ _ _ _ _ _ gv9_0x66 gf9_0x66 _ _ _ _ _ _ _ _ _ _ _ _ _ _ _ _ _ _ _ _ _ _ _ _ _ _ _ _ _ _ _ _ _ _ gv27_0x66 gf27_0x66 _ _ _ _ _ _=>zbT.fin K<|zF<|zaD K (fun l=>?_) (fun l=>?_)
 ·refine zw<|zdD K K<|ze<|zN<|zf Tryz.results115<|⟨j,_,K,a.done,?_⟩;refine ⟨_,K,Sl.to (Sl.nil _ _) ?_⟩;have q:zdw t p=none:=zti hc (by
   have q:=l;simp[zey,inB] at q;omega)
  simp[q]
 refine zaS ?_;have q1:0≤p.chapter∧p.chapter<t.chapters.length∧0≤p.line∧p.line<c.lines.length:=by
  have q:=m;have q0:=l;simp[zey,inB] at q q0;omega
 refine zcY zbh zch (Cls j _) (Cls.drew a)<|zGJ K K<|zbf K K (fun _ _=>(zdH K))<|zz zjW K zac<|zz zaY K zbW<|have b8:=I.t F;zaT 0 (t_c.up b8) zcJ K<|zz zaC K zI<|zaT 0 (P.up F) zO K ?_;refine zbf rfl rfl (fun _ _=>(zcD d rfl rfl (hk:=(show _=((p.chapter.toNat:Nat):Int) by omega)) (hu:=zaJ) (hz:=zbA))) ?_;refine zz zaP K zcj<|zaT 1 (e.up F) zdd K<|zz zaC K zI<|zaT 1 (P.up F) zO K ?_;obtain ⟨ln,hln⟩:∃ y_,(c.lines)[p.line.toNat]?=some y_:=zdl zW;obtain ⟨g0,g1,_,a5,a6,hr_ln⟩:=Sl.elem (f33.up F) hln;obtain ⟨b9,rfl,f74⟩:=hr_ln;have b2:=f74.le;refine zbf rfl rfl (fun _ _=>(zcD a5 rfl rfl (hk:=(show _=((p.line.toNat:Nat):Int) by omega)) (hu:=zaW) (hz:=zeY))) ?_;refine zaT 0 a6 zfK K<|zAj (v:=b9) K K<|zci ?_;rintro g2 ⟨c0,a9⟩;have a7:=a.call0 a9;refine zF<|zky<|zf Tryz.results115<|⟨c0,_,K,a7.done,?_⟩;refine ⟨_,K,Sl.to (f74.up a9.le) ?_⟩;rw[zuZ hc q1.1 hln q1.2.2.1];rfl
theorem zwd (hs:Sub h w) {t:Text} (t_f0:Sl zaN h t_v0 t.chapters) (t_c:zaL h t_b 0 [t_v0]):Calls Tryz.prog 167 #[.pointer (some ⟨t_b,0,none⟩),.agg #[iV p.chapter,iV p.line,iV p.word]] w (zbH h w (fun _ _ res_=>res_=.bool (zeb t p))):=by
 refine zg 14 Tryz.func167 K<|have m:=zcu hs;have j:=t_f0.le;zw<|J [iV p.chapter,iV p.line,iV p.word] m K<|fun b1 w2 h3 I P n=>za K<|D<|zaM<|have qb:=zCF t_f0 p;ziZ (dsts:=(zbP 5 9++[4])) n zbh<|zL (zks K)<|zas (fun H Q A C B S=>(zaQ (C.sub B) P K zaE zR K))<|zbq (.res (fun h' res_=>Sl zea h' res_ (((zdw t p).getD []))) (fun _ _ _ hl f=>f.up hl)) ?_ ?_
 ·intro H Q A C B S _ _ _ _;have T:=St.start B;refine zi T K Tryz.call115 (zmc T.sub (t:=t) (t_f0.up (I.trans C)) (t_c.up (I.trans C)) (p:=p))<|fun r8 w9 a0 u a o=>?_;obtain ⟨a1,q,f15⟩:=o;rw[← q] at f15;have r:=f15.le;exact zl ⟨_,_,K,a,_,K,f15⟩
 refine zbq (.det (iV ((((zdw t p).getD [])).length:Int))) ?_ ?_
 ·intro H Q A C B S gv2_0 gf2_0;have b:=St.start B;exact zG gf2_0 zJ K<|zl ⟨_,_,K,b,(),K,trivial⟩
 refine zL (zpf K K zbj)<|zL (zh zaC K zI)<|zas (fun H Q A C B S _ _=>(zm 2 (C.sub B) P zO K))<|zbq (.res (fun h' res_=>Sl zeg h' res_ ([p.word])) (fun _ _ _ hl f=>f.up hl)) ?_ ?_
 ·intro H Q A C B S _ _;have c:=St.start B;exact zA zeg [p.word] [iV p.word] c (Enc.cons (L:=zeg) (vs:=[iV p.word]) (x:=(p.word)) (h:=H) K Enc.nil) K zbx Tryz.info3 zch<|fun a2 a3 a4 v f21 d=>zl ⟨_,_,K,d,_,K,f21⟩
 refine zbq (.det (.bool (zey (([p.word])) 0 ((((((zdw t p).getD [])).length:Int)-1))))) ?_ ?_
 ·intro H Q A C B S _ _ gv7_0 gf7_0 gv2_0 gf2_0;have F:=St.start B;refine zi F K zhJ (zhF F.sub _ _ gf7_0)<|fun a5 a6 a7 y e s=>?_;subst s;exact zl ⟨_,_,K,e,(),K,trivial⟩
 refine zL (zvG K)<|zdy<|fun g a8 _ z i _ _ _ _ gv2_0x36 gf2_0x36 _ _ _ _ _ _ _ _ gv7_0x36 gf7_0x36 _ _ _ _=>zbT.fin K<|zF<|zky<|zf Tryz.results167<|⟨g,_,K,i.done,?_⟩;refine zP ?_;rw[zrF];cases hq:zdw t p with
 | none=>simp[zey,inB];omega
 | some l=>simp[zey]
theorem zym (hs:Sub h w) {t:Text} (t_f0:Sl zaN h t_v0 t.chapters):Calls Tryz.prog 114 #[.agg #[t_v0],.agg #[iV p.chapter,iV p.line,iV p.word]] w (zbH h w (fun h' _ res_=>∃ u0,res_=.tuple #[u0,iV (if zcz t && zeb t p then 0 else if zcz t then 12 else 10)]∧Box zBw h' (zcz t && zeb t p) t u0)):=by
 refine zg 21 Tryz.func114 K<|have e:=zcu hs;have d:=t_f0.le;zw<|J [t_v0] e K<|fun b1 w2 h3 f g i=>J [iV p.chapter,iV p.line,iV p.word] i K<|fun b7 w8 h9 H Q B=>zfj K K<|U K<|D<|zw<|E B.sub (g.up H) zaX zac K<|have j:=f.t H;zi B K Tryz.call90 (zvO B.sub (t:=t) (t_f0.up j))<|fun r s l S A F=>?_
 rcases zbN (zcz (t)) with C|C
 ·simp only[C,if_true,if_false,zbd,reduceIte] at F;obtain ⟨u,rfl,f22⟩:=F;obtain ⟨v,q,rfl,I,T⟩:=f22;obtain ⟨x,rfl,f28⟩:=T;have m:=f28.le;refine zeZ K K<|zcv K<|zB K<|zlx K K<|U K<|D<|zav<|N K<|zar K<|D<|zaD K (fun a=>?_) (fun a=>?_)
  ·exact absurd a (by decide)
  refine zaS<|zw<|zno K K<|E A.sub (Q.up S) zaE zR K<|zi A K Tryz.call167 (zwd A.sub (t:=(t)) f28 I (p:=p))<|fun y z b L P n=>?_;subst n;refine zdJ K K<|D<|zaD K (fun o=>?_) (fun o=>?_)
  ·refine zw<|zfj K K<|U K<|ze<|zN<|zbu Tryz.results114<|⟨b,_,K,P.done,?_⟩;refine ⟨_,zfS K (zan ?_),Box.nil ?_⟩
   ·simp_all
   simp_all
  refine zgg<|zw<|zno K K<|zlx K K<|U K<|ze<|zbu Tryz.results114<|⟨b,_,K,P.done,?_⟩;refine ⟨_,zfS K (zan ?_),Box.some ?_ (I.up L) ⟨_,K,(f28.up L)⟩⟩
  ·simp_all
  simp_all
 simp only[C,if_true,if_false,zbd,reduceIte] at F;obtain ⟨a0,rfl,f38⟩:=F;subst f38;refine zeZ K K<|zdm K<|zB K<|zfj K K<|U K<|D<|zav<|N K<|zar K<|D<|zaD K (fun c=>?_) (fun c=>?_)
 ·refine zw<|N K<|zfj K K<|U K<|ze<|zN<|zbu Tryz.results114<|⟨l,_,K,A.done,?_⟩;refine ⟨_,zfS K (zan ?_),Box.nil ?_⟩
  ·simp_all
  simp_all
 exact absurd c (by decide)
theorem znX (hs:Sub h w) {t:Text} (t_f0:Sl zaN h t_v0 t.chapters):Calls Tryz.prog 66 #[.agg #[t_v0],.agg #[iV p.chapter,iV p.line,iV p.word]] w (zbH h w (fun _ _ res_=>res_=.tuple #[zae ((if zcz t then (znn t p).getD [] else [])),iV (if zcz t && zeb t p then 0 else if zcz t then 12 else 10)])):=by
 refine zg 24 Tryz.func66 K<|have a2:=zcu hs;have v:=t_f0.le;zw<|J [t_v0] a2 K<|fun b1 w2 h3 a3 a4 a5=>J [iV p.chapter,iV p.line,iV p.word] a5 K<|fun b7 w8 h9 P B A=>zhW K K<|U K<|D<|zw<|E A.sub (a4.up P) zaX zac K<|E A.sub B zaE zR K<|have a6:=a3.t P;zi A K Tryz.call114 (zym A.sub (t:=t) (t_f0.up a6) (p:=p))<|fun b5 b6 a7 Q S I=>?_
 rcases zbN (zcz (t) && zeb (t) (p)) with C|C
 ·simp only[C,if_true,if_false,zbd,reduceIte] at I;obtain ⟨b8,rfl,f22⟩:=I;obtain ⟨b9,b2,rfl,d,g⟩:=f22;obtain ⟨c0,rfl,f28⟩:=g;have a0:=f28.le;refine zeZ K K<|zcv K<|zB K<|zlx K K<|U K<|D<|zav<|N K<|zar K<|D<|zaD K (fun i=>?_) (fun i=>?_)
  ·exact absurd i (by decide)
  refine zaS ?_;have q1:zeb t p=true:=by simp_all
  have q2:=zrF t p;have q3:0≤p.word∧p.word<(((zdw t p).getD []).length:Int):=by
   rw[q1] at q2;simp[inB] at q2;omega
  obtain ⟨wd,hwd⟩:∃ y_,((((zdw ((t)) (p)).getD [])))[p.word.toNat]?=some y_:=zdl zW;refine ziZ (dsts:=(zbP 17 7++[4,5])) S zbh<|zL (zks K)<|zas (fun x y L T H z=>(zaQ (T.sub H) (B.up Q) K zaE zR K))<|zbq (.res (fun h' res_=>Sl zea h' res_ (((zdw ((t)) (p)).getD []))) (fun _ _ _ hl f=>f.up hl)) ?_ ?_
  ·intro x y L T H z _ _ _ _;have a:=St.start H;refine zi a K Tryz.call115 (zmc a.sub (t:=(t)) (f28.up T) (d.up T) (p:=p))<|fun c1 c2 c3 b3 j a8=>?_;obtain ⟨c4,a9,f38⟩:=a8;rw[← a9] at f38;have a1:=f38.le;exact zl ⟨_,_,K,j,_,K,f38⟩
  refine zL (zh zaC K zI)<|zas (fun x y L T H z _ _=>(zm 2 (T.sub H) (B.up Q) zO K)) ?_;refine zbq (.res (fun h' res_=>∃ b o,res_=.pointer (some ⟨b,o,none⟩)∧zaL h' b o [zae wd]) (by rintro _ _ _ hl ⟨b,o,e,c⟩;exact ⟨b,o,e,c.up hl⟩)) ?_ ?_
  ·intro x y L T H z gv2_0 gf2_0 _ _;have l:=St.start H;obtain ⟨b_,o_,_,he_,hc_,hr_⟩:=Sl.elem gf2_0 hwd;obtain ⟨rfl,m⟩:=hr_;simp only[big] at m;refine zax rfl rfl (zcD he_ rfl rfl (hk:=(show _=((p.word.toNat:Nat):Int) by omega)) (hu:=zJ) (hz:=zap)) ?_;exact zl ⟨_,_,K,l,_,K,_,_,K,hc_⟩
  refine zbq (.det (zae wd)) ?_ ?_
  ·intro x y L T H z gv5_ gf5_;obtain ⟨c5,c6,rfl,b0⟩:=gf5_;have n:=St.start H;exact Y 0 H b0 zaZ K<|zl ⟨_,_,K,n,(),K,trivial⟩
  refine zL (zCz K)<|zL (zqj K)<|zdy<|fun q c7 _ b4 r _ _ _ _ gv2_0x47 gf2_0x47 _ _ _ _ s F _ _ _ _ _ _=>?_;obtain ⟨gb5x47,go5x47,rfl,gc5x47⟩:=F;refine zbT.fin K<|zF<|zky<|zbu Tryz.results66<|⟨q,_,K,r.done,?_⟩;refine zfS (ziE ?_) (zan ?_)
  all_goals have qq:zcz t=true∧zeb t p=true:=by simp_all
  ·simp[qq.1,zyy qq.2 hwd]
  simp[qq.1,qq.2]
 simp only[C,if_true,if_false,zbd,reduceIte] at I;obtain ⟨c8,rfl,f49⟩:=I;subst f49;refine zeZ K K<|zdm K<|zB K<|zfj K K<|U K<|D<|zav<|N K<|zar K<|D<|zV K (fun u=>?_) (fun u=>?_)
 ·refine zw<|N K<|zhW K K<|U K<|ze<|zN<|zbu Tryz.results66<|⟨a7,_,K,S.done,?_⟩;refine zfS (ziE ?_) (zan ?_)
  all_goals have qq:zcz t=true→zeb t p=false:=by simp_all
  ·cases q0:zcz t
   ·rfl
   ·simp[zCY (qq q0)]
  cases q0:zcz t
  ·rfl
  simp[qq q0]
 exfalso;revert u;split <;> simp
theorem zsr (hlen:s.length≤281474976710656) {caps:List Value} (p:Int→Bool) (hp:∀ x:Int,128≤x→p x=true) (hf:∀ (x:Int) h w,Sub h w→Calls Tryz.prog g (.int .i32 x::caps).toArray w (zbH h w fun _ _ r=>r=.bool (p x))) (hg:∀ a w,(callFunc g a).run Tryz.prog w=.ok (.enter g a) w) (hs:Sub h w):
  Calls Tryz.prog 238 #[zae s,.func (.func g) #[] caps.toArray,.bool true] w (zbH h w fun _ _ r=>∃ k:Int,r=iV k∧(0≤k↔(s.any fun c=>p (c.toNat:Int))=true)):=by
 refine zg 21 Tryz.func238 K<|have I:=zcu hs;zw<|U K<|D<|zav<|zfv K K<|zBt I K zcc K<|fun b n L=>D<|zT ?_;refine zaI ([7,8]++zbP 11 10++[6]) (G:=Nat×Heap) (fun ⟨k,_⟩=>[]) (fun ⟨k,h'⟩ w'=>Le h h'∧St h w h' w' [[(b,.stringIter ⟨s.toArray⟩ k)]]∧k≤s.length∧∀ j c,j<k→s[j]?=some c→p (c.toNat:Int)=false) (fun ⟨k,_⟩=>s.length-k) ⟨0,h⟩ trivial ⟨Le.refl _,L,by omega,by intros;omega⟩ ?_;rintro ⟨k,S⟩ _ o ⟨P,A,hk,hall⟩
 rcases zcO k s.length with hlt|hge
 ·obtain ⟨c,hc⟩:∃ c,s[k]?=some c:=⟨_,zn hlt⟩;refine zw<|zCs A (k:=0) K K hc K<|fun m B=>?_;generalize hR:Utf8.decode ⟨s.toArray⟩ k=R at B;refine zcV K<|D<|zaM<|zaD K (fun C=>?_) (fun C=>?_)
  ·refine zbO ?_;refine zF<|zT<|zw<|zB K<|zB K<|U K<|U K<|D<|zw<|znJ K K<|N K ?_;refine zcG K K (zfk (fs:=[]) (cs:=caps) K K hg K) ((hf (R.1:Int) S m B.sub).mono ?_);rintro e u ⟨T,v,rfl,f,rfl⟩;refine ⟨_,K,?_⟩;have F:=B.call0 f;refine zp K<|zU K (zHi K K zez)<|D<|zaD K (fun Q=>?_) (fun Q=>?_)
   ·have H:p (R.1:Int)=true:=by simpa using Q
    refine zw<|N K<|U K<|ze ?_
    repeat (first|refine zgE ?_|refine zN ?_)
    refine zf Tryz.results238 ?_;refine ⟨T,_,rfl,F.done,(k:Int),rfl,⟨fun _=>?_,fun _=>by omega⟩⟩;rw[zbM];refine ⟨c,zD hc,?_⟩
    by_cases hl:c.toNat<128
    ·rw[zxi hc hl] at hR;subst hR;exact H
    ·exact hp _ zW
   ·have H:p (R.1:Int)=false:=by simpa using Q
    have hl:c.toNat<128:=by
     rcases zcO c.toNat 128 with i|i
     ·exact i
     ·have q:=zBf hc zW;rw[hR] at q;rw[hp _ zW] at H;cases H
    rw[zxi hc hl] at hR;subst hR;refine zbO<|zhQ ?_;refine ⟨⟨k+1,T⟩,trivial,?_,⟨P.trans f.le,F,by omega,?_⟩,?_⟩
    ·exact zba
    ·intro j d hj hd
     rcases zcO j k with l|l
     ·exact hall j d l hd
     ·obtain rfl:j=k:=by omega
      rw[hc] at hd;cases hd;exact H
    ·show s.length-(k+1)<s.length-k;omega
  ·cases C
 ·refine zaM ?_;refine zah<|zCu A (k:=0) K K hge K<|zcV K<|D<|zaM<|zaD K (fun C=>?_) (fun C=>?_)
  ·cases C
  ·refine zmO ?_;refine zfu<|zfu<|zls<|zF<|zw<|U K<|ze<|zf Tryz.results238 ?_;refine ⟨S,_,rfl,A.done,_,rfl,⟨fun q=>absurd q (by decide),fun q=>?_⟩⟩;rw[zbM] at q;obtain ⟨c,hc,hpc⟩:=q;obtain ⟨j,hj⟩:=k_List_mem_iff_getElem_.1 hc;have hjl:=(k_List_getElem__eq_some_iff.1 hj).1;rw[hall j c zW hj] at hpc;cases hpc
theorem zss (hlen:s.length≤281474976710656) {caps:List Value} (p:Int→Bool) (hp:∀ x:Int,128≤x→p x=true) (hf:∀ (x:Int) h w,Sub h w→Calls Tryz.prog g (.int .i32 x::caps).toArray w (zbH h w fun _ _ r=>r=.bool (p x))) (hg:∀ a w,(callFunc g a).run Tryz.prog w=.ok (.enter g a) w) (hs:Sub h w):
  Calls Tryz.prog 201 #[zae s,.func (.func g) #[] caps.toArray] w (zbH h w fun _ _ r=>∃ k:Int,r=iV k∧(0≤k↔(s.any fun c=>p (c.toNat:Int))=true)):=by
 refine zg 8 Tryz.func201 K<|have A:=zcu hs;zw<|U K<|D<|zw<|zfv K K<|znJ K K<|zi A K Tryz.call238 (zsr hlen p hp hf hg A.sub) ?_;rintro v H C F B ⟨k,rfl,hk⟩;exact U K<|ze<|zf Tryz.results201<|⟨C,_,K,B.done,k,K,hk⟩
theorem zqS (hlen:s.length≤281474976710656) {caps:List Value} (p:Int→Bool) (hp:∀ x:Int,128≤x→p x=true) (hf:∀ (x:Int) h w,Sub h w→Calls Tryz.prog g (.int .i32 x::caps).toArray w (zbH h w fun _ _ r=>r=.bool (p x))) (hg:∀ a w,(callFunc g a).run Tryz.prog w=.ok (.enter g a) w) (hs:Sub h w):
  Calls Tryz.prog 154 #[zae s,.func (.func g) #[] caps.toArray] w (zbH h w fun _ _ r=>r=.bool (s.any fun c=>p (c.toNat:Int))):=by
 refine zg 9 Tryz.func154 K<|have A:=zcu hs;zw<|za K<|D<|zw<|zfv K K<|znJ K K<|zi A K Tryz.call201 (zss hlen p hp hf hg A.sub) ?_;rintro v H C F B ⟨k,rfl,hk⟩;refine zoC K K K<|za K<|ze<|zf Tryz.results154<|⟨C,_,K,B.done,zP ?_⟩;rw[zdR,zX];exact hk
theorem zvh (hs:Sub h w) (c:Int):Calls Tryz.prog 155 #[.int .i32 c] w (zbH h w (fun _ _ res_=>res_=.bool ((decide (c<97) || decide (122<c))))):=by
 refine zg 9 Tryz.func155 K<|have A:=zcu hs;zw<|za K<|D<|zw<|N K<|zM K<|zp K<|zaK (d:=5) K (fun B=>?_) (fun B=>?_)
 ·refine zao 2 K<|zd K<|za K<|ze<|zf Tryz.results155<|⟨h,_,K,A.done,?_⟩;refine zP ?_
  first|(simp_all;done)|(simp_all;omega)
 refine X K<|N K<|X K<|zhn K K K<|zb K<|za K<|ze<|zf Tryz.results155<|⟨h,_,K,A.done,?_⟩;refine zP ?_
 first|(simp_all;done)|(simp_all;omega)
theorem zlG (hs:Sub h w) (s:Str) (s_le:s.length≤281474976710656) (lo:Int):Calls Tryz.prog 100 #[zae s,iV lo] w (zbH h w (fun _ _ res_=>res_=.bool (zgM s lo))):=by
 refine zg 15 Tryz.func100 K<|have F:=zcu hs;zw<|za K<|D<|zw<|N K<|zfv K K<|zfV K zcc K<|zA zeg [(s.length:Int)] [iV (s.length:Int)] F (Enc.cons (L:=zeg) (vs:=[iV (s.length:Int)]) (x:=(s.length:Int)) (h:=h) K Enc.nil) K zbx Tryz.info3 zch<|fun f g i a f3 B=>zi B K Tryz.call101 (zqq B.sub _ _ f3)<|fun j l b S A H=>?_;obtain rfl:=H;refine zp K<|zbX (d:=10) K (fun I=>?_) (fun I=>?_)
 ·refine X K<|zfv K K<|X K ?_;refine zau A rfl rfl rfl Tryz.call154 rfl (zqS (s:=s) zcn (fun x_:Int=>(decide ((x_)<97) || decide (122<x_))) (by intro x_ hx_;simp;omega) (fun x_ h_ w_ hs_=>zvh hs_ x_) Tryz.call155 A.sub) ?_;intro c e P T C Q;obtain rfl:=Q;refine X K<|zdJ K K<|zd K<|za K<|ze<|zf Tryz.results100<|⟨P,_,K,C.done,?_⟩;refine zP ?_;rw[zwX];simp_all[zey]
 refine zao 3 K<|zb K<|za K<|ze<|zf Tryz.results100<|⟨b,_,K,A.done,?_⟩;refine zP ?_;rw[zwX];simp_all[zey]
theorem zoR (hs:Sub h w) (hd_l1:hd.stem.length≤281474976710656) (hd_l2:0≤hd.mark∧hd.mark≤255):Calls Tryz.prog 131 #[.agg #[zae hd.stem,.int .u8 hd.mark]] w (zbH h w (fun _ _ res_=>res_=.bool (zlo hd))):=by
 refine zg 11 Tryz.func131 K<|have H:=zcu hs;zw<|J [zae hd.stem,.int .u8 hd.mark] H K<|fun S T a Q C B=>za K<|D<|zw<|Z zeD K zap<|Y 0 B.sub C zaZ K<|zi B K Tryz.call100 (zlG B.sub _ zcn _)<|fun b c P F A I=>?_;obtain rfl:=I;refine zp K<|zbX (d:=6) K (fun L=>?_) (fun L=>?_)
 ·refine X K<|Z zeD K zcg<|X K<|Y 1 A.sub (C.up F) zda K<|X K<|zU K (zpI K K)<|zd K<|za K<|ze<|zf Tryz.results131<|⟨P,_,K,A.done,?_⟩;refine zP ?_;rw[zCI _ zW];simp_all
 refine zao 3 K<|zb K<|za K<|ze<|zf Tryz.results131<|⟨P,_,K,A.done,?_⟩;refine zP ?_;rw[zCI _ zW];simp_all
def _root_.Go.Proofs.Tryz.glob1:List Value:=[.bool false,.bool false,.bool false,.bool false,.nilFunc,.bool true,.bool false,.bool true,.bool false,.func (.func 295) #[] #[],.bool true,.bool true,.bool true,.bool false,.func (.func 296) #[] #[],.bool false,.bool true,.bool true,.bool false,.func (.func 297) #[] #[],.bool false,.bool false,.bool false,.bool true,.func (.func 298) #[] #[]]
theorem zxt (hs:Sub h w) {t:Text} (t_f0:Sl zaN h t_v0 t.chapters) (d_l2:0≤d.kind∧d.kind≤255) (d_l3:d.form.length≤281474976710656) (d_l7:d.to.stem.length≤281474976710656) (d_l8:0≤d.to.mark∧d.to.mark≤255) (K1:zaL h 1 0 Tryz.glob1) (ht:zcz t=true):Calls Tryz.prog 104 #[.agg #[t_v0],.agg #[iV d.number,.int .u8 d.kind,zae d.form,iV d.at_.chapter,iV d.at_.line,iV d.at_.word,zae d.to.stem,.int .u8 d.to.mark,iV d.of_]] w (zbH h w (fun _ _ res_=>res_=.bool (zbE t d))):=by
 refine zg 104 Tryz.func104 K<|have o4:=zcu hs;have m2:=t_f0.le;zw<|J [t_v0] o4 K<|fun b1 w2 h3 j3 j4 o5=>J [iV d.number,.int .u8 d.kind,zae d.form,iV d.at_.chapter,iV d.at_.line,iV d.at_.word,zae d.to.stem,.int .u8 d.to.mark,iV d.of_] o5 K<|fun b7 w8 h9 s A d7=>za K<|D<|zav<|Z zQ K zcg<|Y 1 d7.sub A zda K ?_;refine zax rfl rfl (zkH rfl rfl zcW (IntWalk.i64_in _ zW)) ?_;refine zA zeg [d.kind] [iV d.kind] d7 (Enc.cons (L:=zeg) (vs:=[iV d.kind]) (x:=(d.kind)) (h:=h9) K Enc.nil) K zbx Tryz.info3 zch<|fun v1 v2 v3 I f15 d8=>zi d8 K Tryz.call101 (zqq d8.sub _ _ f15)<|fun v4 v5 m3 P c9 o6=>?_;subst o6;refine zdJ K K<|zp K<|zbX (d:=15) K (fun j6=>?_) (fun j6=>?_)
 ·refine zao 5 K<|zd K<|D<|zaD K (fun m4=>?_) (fun m4=>?_)
  ·refine zw<|za K<|ze<|zN<|zf zgf<|⟨m3,_,K,c9.done,?_⟩;refine zP ?_;have q:=j6;simp only[inAll_one,inB,zfp,zfN,zcw] at q;have q1:d.kind≠1:=by omega
   have q2:d.kind≠2:=by omega
   have q3:d.kind≠3:=by omega
   have q4:d.kind≠4:=by omega
   simp[zbE,q1,q2,q3,q4]
  cases m4
 refine X K<|Z zQ K zI<|X K<|Y 0 c9.sub (A.up (I.t P)) zO K<|X K<|zA zeg [d.number] [iV d.number] c9 (Enc.cons (L:=zeg) (vs:=[iV d.number]) (x:=(d.number)) (h:=m3) K Enc.nil) K zbx Tryz.info3 zch<|fun v6 v7 v8 a f29 d9=>X K<|zi d9 K Tryz.call101 (zqq d9.sub _ _ f29)<|fun v9 w0 o7 b Q o8=>?_;subst o8;refine X K<|zdJ K K<|zb K<|D<|zaD K (fun C=>?_) (fun C=>?_)
 ·refine zw<|za K<|ze<|zN<|zf zgf<|⟨o7,_,K,Q.done,?_⟩;refine zP ?_;have q:=C;simp only[inAll_one] at q;simp_all[zbE]
 refine zaS ?_
 rcases (show d.kind=1∨d.kind=2∨d.kind=3∨d.kind=4 by have q:=j6;simp[zey,inB] at q;omega) with B|B|B|B
 ·refine zah<|Z zQ K zcg<|have c3:=((I.t P).t a).t b;Y 1 Q.sub (A.up c3) zda K ?_;refine zax rfl rfl (zex rfl rfl (show _=((1:Nat):Int) by rw[B];rfl) rfl zfX zfO) ?_;have m5:=((((j3.t s).t I).t P).t a).t b;refine zr 5 [.bool true,.bool false,.bool true,.bool false,.func (.func 295) #[] #[]] Q.sub (K1.up m5) Tryz.isAgg267 zfO K<|zaf Q Tryz.zeroValue267 K K<|fun w1 w3 j8=>zq 0 j8 K zfO<|fun w4 j9=>?_;obtain ⟨w5,i,k0,d0⟩:=j9.freeze (k:=0) rfl;have u:=zaL.of k0;refine D<|zw<|Z zQ K zI<|Y 0 d0.sub (A.up (c3.t i)) zO K<|Z zQ K zcg<|Y 1 d0.sub (A.up (c3.t i)) zda K<|zU K (zdT (cs:=[iV d.number,.int .u8 d.kind,zae [],iV 0,iV 0,iV 0,zae [],.int .u8 0,iV 0]) zch)<|zaf d0 zfq K K<|fun w6 w7 k1=>zq 1 k1 K zaH<|fun w9 d1=>D<|zav<|Z zbn K zeJ<|Y 0 d1.sub u zfF K<|D<|zaD K (fun m6=>?_) (fun m6=>?_)
  ·refine zah<|Z zQ K zap<|Y 2 d1.sub (A.up (c3.t i)) zaZ K<|Z zQ K zap<|zaw 1 d1 K zap<|fun x0 c4=>D<|zav<|Z zbn K zeJ<|Y 1 c4.sub u zfF K<|D<|zaD K (fun m7=>?_) (fun m7=>?_)
   ·cases m7
   refine zaS<|zw<|Z zbn K zeJ<|Y 2 c4.sub u zfF K<|D<|zaD K (fun m8=>?_) (fun m8=>?_)
   ·refine zah<|Z zQ K zaj<|zr 6 [zae d.to.stem,.int .u8 d.to.mark] c4.sub (A.up (c3.t i)) zcm zaj K<|Z zQ K zaj<|zq 1 c4 K zaj<|fun x1 a8=>D<|zav<|Z zbn K zeJ<|Y 3 a8.sub u zfF K<|D<|zaD K (fun m9=>?_) (fun m9=>?_)
    ·cases m9
    refine zgg<|zw<|have o9:=((((s.t I).t P).t a).t b).t i;E a8.sub (j4.up o9) zaX zac K<|Z zQ K zR<|zr 3 [iV d.at_.chapter,iV d.at_.line,iV d.at_.word] a8.sub (A.up (c3.t i)) zaE zR K<|have p0:=m5.t i;zi a8 K Tryz.call66 (znX a8.sub (t:=t) (t_f0.up p0) (p:=d.at_))<|fun x2 x3 p1 z a2 p2=>?_;subst p2;refine zeZ K K<|zbl (zae _) K<|zB K<|zhW K K<|U K<|D<|zaM ?_;have qn:1≤d.number∧d.number≤999:=by
     have q:=C;simp[zey,inB] at q;omega
    refine zah<|E a2.sub (A.up ((c3.t i).t z)) zcs zaH K<|zem (a2.get (k:=1) K) K zcs zaH K K<|zU K (zjb K K zkx (Tryz.eq_Decision d (Decision.mk d.number d.kind d.form (Place.mk 0 0 0) (Head.mk d.to.stem d.to.mark) 0)))<|zp K<|zaK (d:=61) K (fun d6=>?_) (fun d6=>?_)
    ·refine X K<|Z zbn K zeJ<|X K<|Y 0 a2.sub (u.up z) zfF K<|X K<|zdJ K K<|X K<|zp K<|X K<|Z zQ K zap<|X K<|Y 2 a2.sub (A.up ((c3.t i).t z)) zaZ K<|X K<|zi a2 K Tryz.call100 (zlG a2.sub _ zcn _)<|fun x4 x5 p3 c5 a6 p4=>?_;subst p4;refine X K<|zb K<|zd K<|zp K<|zbX (d:=71) K (fun j5=>?_) (fun j5=>?_)
     ·refine X K<|Z zbn K zeJ<|X K<|Y 1 a6.sub (u.up (z.t c5)) zfF K<|X K<|zdJ K K<|X K<|zp K<|zao 2 K<|X K<|zd K<|zd K<|zp K<|X K<|Z zbn K zeJ<|X K<|Y 2 a6.sub (u.up (z.t c5)) zfF K<|X K<|zdJ K K<|X K<|zp K<|X K<|Z zQ K zaj<|X K<|have p5:=((c3.t i).t z).t c5;zr 6 [zae d.to.stem,.int .u8 d.to.mark] a6.sub (A.up p5) zcm zaj K<|X K<|zi a6 K Tryz.call131 (zoR a6.sub (hd:=d.to) zcn zfb)<|fun x6 x7 o0 k2 d2 p6=>?_;subst p6;refine X K<|zb K<|zd K<|zp K<|zbX (d:=90) K (fun j7=>?_) (fun j7=>?_)
      ·refine X K<|Z zbn K zeJ<|X K<|Y 3 d2.sub (u.up ((z.t c5).t k2)) zfF K<|X K<|zdJ K K<|X K<|zp K<|zao 7 K<|X K<|zd K<|zd K<|za K<|ze<|zf zgf<|⟨o0,_,K,d2.done,?_⟩;exact zP<|zHy ht B C d6 j5 j7
      refine zao 12 K<|zb K<|za K<|ze<|zf zgf<|⟨o0,_,K,d2.done,?_⟩;exact zP<|zGr ht B C d6 j5 j7
     refine zao 7 K<|zb K<|zp K<|zao 8 K<|zb K<|zp K<|zao 11 K ?_;refine zao 1 K<|zb K<|za K<|ze<|zf zgf<|⟨p3,_,K,a6.done,?_⟩;exact zP<|zGs ht B C d6 j5
    refine zao 8 K<|zb K<|zp K<|zao 7 K<|zb K<|zp K<|zao 8 K<|zb K<|zp K<|zao 1 K ?_;refine zao 11 K<|zb K<|za K<|ze<|zf zgf<|⟨p1,_,K,a2.done,?_⟩;exact zP<|zHz ht B C d6
   cases m8
  cases m6
 ·refine zah<|Z zQ K zcg<|have c2:=((I.t P).t a).t b;Y 1 Q.sub (A.up c2) zda K ?_;refine zax rfl rfl (zex rfl rfl (show _=((2:Nat):Int) by rw[B];rfl) rfl zfX zfO) ?_;have o1:=((((j3.t s).t I).t P).t a).t b;refine zr 10 [.bool true,.bool true,.bool true,.bool false,.func (.func 296) #[] #[]] Q.sub (K1.up o1) Tryz.isAgg267 zfO K<|zaf Q Tryz.zeroValue267 K K<|fun x8 x9 k3=>zq 0 k3 K zfO<|fun y0 k4=>?_;obtain ⟨y1,c,k5,b2⟩:=k4.freeze (k:=0) rfl;have e:=zaL.of k5;refine D<|zw<|Z zQ K zI<|Y 0 b2.sub (A.up (c2.t c)) zO K<|Z zQ K zcg<|Y 1 b2.sub (A.up (c2.t c)) zda K<|zU K (zdT (cs:=[iV d.number,.int .u8 d.kind,zae [],iV 0,iV 0,iV 0,zae [],.int .u8 0,iV 0]) zch)<|zaf b2 zfq K K<|fun p7 p8 g9=>zq 1 g9 K zaH<|fun p9 b3=>D<|zav<|Z zbn K zeJ<|Y 0 b3.sub e zfF K<|D<|zaD K (fun e0=>?_) (fun e0=>?_)
  ·refine zah<|Z zQ K zap<|Y 2 b3.sub (A.up (c2.t c)) zaZ K<|Z zQ K zap<|zaw 1 b3 K zap<|fun q0 b4=>D<|zav<|Z zbn K zeJ<|Y 1 b4.sub e zfF K<|D<|zaD K (fun e1=>?_) (fun e1=>?_)
   ·refine zah<|Z zQ K zR<|zr 3 [iV d.at_.chapter,iV d.at_.line,iV d.at_.word] b4.sub (A.up (c2.t c)) zaE zR K<|Z zQ K zR<|zq 1 b4 K zR<|fun q5 b5=>D<|zav<|Z zbn K zeJ<|Y 2 b5.sub e zfF K<|D<|zaD K (fun e2=>?_) (fun e2=>?_)
    ·refine zah<|Z zQ K zaj<|zr 6 [zae d.to.stem,.int .u8 d.to.mark] b5.sub (A.up (c2.t c)) zcm zaj K<|Z zQ K zaj<|zq 1 b5 K zaj<|fun q6 a0=>D<|zav<|Z zbn K zeJ<|Y 3 a0.sub e zfF K<|D<|zaD K (fun e3=>?_) (fun e3=>?_)
     ·cases e3
     refine zgg<|zw<|have k6:=((((s.t I).t P).t a).t b).t c;E a0.sub (j4.up k6) zaX zac K<|Z zQ K zR<|zr 3 [iV d.at_.chapter,iV d.at_.line,iV d.at_.word] a0.sub (A.up (c2.t c)) zaE zR K<|have k7:=o1.t c;zi a0 K Tryz.call66 (znX a0.sub (t:=t) (t_f0.up k7) (p:=d.at_))<|fun q7 q8 k8 j l k9=>?_;subst k9;refine zeZ K K<|zbl (zae _) K<|zB K<|zhW K K<|U K<|D<|zaM ?_;have qn:1≤d.number∧d.number≤999:=by
      have q:=C;simp[zey,inB] at q;omega
     refine zah<|E l.sub (A.up ((c2.t c).t j)) zcs zaH K<|zem (l.get (k:=1) K) K zcs zaH K K<|zU K (zjb K K zkx (Tryz.eq_Decision d (Decision.mk d.number d.kind d.form (Place.mk d.at_.chapter d.at_.line d.at_.word) (Head.mk d.to.stem d.to.mark) 0)))<|zp K<|zaK (d:=61) K (fun a7=>?_) (fun a7=>?_)
     ·refine X K<|Z zbn K zeJ<|X K<|Y 0 l.sub (e.up j) zfF K<|X K<|zdJ K K<|X K<|zp K<|X K<|Z zQ K zap<|X K<|Y 2 l.sub (A.up ((c2.t c).t j)) zaZ K<|X K<|zi l K Tryz.call100 (zlG l.sub _ zcn _)<|fun q9 r0 e4 a3 m l0=>?_;subst l0;refine X K<|zb K<|zd K<|zp K<|zbX (d:=71) K (fun a9=>?_) (fun a9=>?_)
      ·refine X K<|Z zbn K zeJ<|X K<|Y 1 m.sub (e.up (j.t a3)) zfF K<|X K<|zdJ K K<|X K<|zp K<|X K<|N K<|X K<|zgL K K K<|X K<|zb K<|zd K<|zp K<|zaK (d:=80) K (fun c6=>?_) (fun c6=>?_)
       ·refine X K<|Z zbn K zeJ<|X K<|Y 2 m.sub (e.up (j.t a3)) zfF K<|X K<|zdJ K K<|X K<|zp K<|X K<|Z zQ K zaj<|X K<|have l1:=((c2.t c).t j).t a3;zr 6 [zae d.to.stem,.int .u8 d.to.mark] m.sub (A.up l1) zcm zaj K<|X K<|zi m K Tryz.call131 (zoR m.sub (hd:=d.to) zcn zfb)<|fun r1 r2 e5 h0 b6 l2=>?_;subst l2;refine X K<|zb K<|zd K<|zp K<|zbX (d:=90) K (fun d3=>?_) (fun d3=>?_)
        ·refine X K<|Z zbn K zeJ<|X K<|Y 3 b6.sub (e.up ((j.t a3).t h0)) zfF K<|X K<|zdJ K K<|X K<|zp K<|zao 7 K<|X K<|zd K<|zd K<|za K<|ze<|zf zgf<|⟨e5,_,K,b6.done,?_⟩;exact zP<|zHw ht B C a7 a9 c6 d3
        refine zao 12 K<|zb K<|za K<|ze<|zf zgf<|⟨e5,_,K,b6.done,?_⟩;exact zP<|zGo ht B C a7 a9 c6 d3
       refine zao 8 K<|zb K<|zp K<|zao 12 K<|zb K<|za K<|ze<|zf zgf<|⟨e4,_,K,m.done,?_⟩;exact zP<|zGp ht B C a7 a9 c6
      refine zao 7 K<|zb K<|zp K<|zao 8 K<|zb K<|zp K<|zao 11 K ?_;refine zao 1 K<|zb K<|za K<|ze<|zf zgf<|⟨e4,_,K,m.done,?_⟩;exact zP<|zGq ht B C a7 a9
     refine zao 8 K<|zb K<|zp K<|zao 7 K<|zb K<|zp K<|zao 8 K<|zb K<|zp K<|zao 1 K ?_;refine zao 11 K<|zb K<|za K<|ze<|zf zgf<|⟨k8,_,K,l.done,?_⟩;exact zP<|zHx ht B C a7
    cases e2
   cases e1
  cases e0
 ·refine zah<|Z zQ K zcg<|have v:=((I.t P).t a).t b;Y 1 Q.sub (A.up v) zda K ?_;refine zax rfl rfl (zex rfl rfl (show _=((3:Nat):Int) by rw[B];rfl) rfl zfX zfO) ?_;have e6:=((((j3.t s).t I).t P).t a).t b;refine zr 15 [.bool false,.bool true,.bool true,.bool false,.func (.func 297) #[] #[]] Q.sub (K1.up e6) Tryz.isAgg267 zfO K<|zaf Q Tryz.zeroValue267 K K<|fun r3 r4 h1=>zq 0 h1 K zfO<|fun r5 h2=>?_;obtain ⟨r6,S,h4,b8⟩:=h2.freeze (k:=0) rfl;have f:=zaL.of h4;refine D<|zw<|Z zQ K zI<|Y 0 b8.sub (A.up (v.t S)) zO K<|Z zQ K zcg<|Y 1 b8.sub (A.up (v.t S)) zda K<|zU K (zdT (cs:=[iV d.number,.int .u8 d.kind,zae [],iV 0,iV 0,iV 0,zae [],.int .u8 0,iV 0]) zch)<|zaf b8 zfq K K<|fun r7 r8 h5=>zq 1 h5 K zaH<|fun r9 a4=>D<|zav<|Z zbn K zeJ<|Y 0 a4.sub f zfF K<|D<|zaD K (fun e7=>?_) (fun e7=>?_)
  ·cases e7
  refine zaS<|zw<|Z zbn K zeJ<|Y 1 a4.sub f zfF K<|D<|zaD K (fun e8=>?_) (fun e8=>?_)
  ·refine zah<|Z zQ K zR<|zr 3 [iV d.at_.chapter,iV d.at_.line,iV d.at_.word] a4.sub (A.up (v.t S)) zaE zR K<|Z zQ K zR<|zq 1 a4 K zR<|fun s0 b9=>D<|zav<|Z zbn K zeJ<|Y 2 b9.sub f zfF K<|D<|zaD K (fun e9=>?_) (fun e9=>?_)
   ·refine zah<|Z zQ K zaj<|zr 6 [zae d.to.stem,.int .u8 d.to.mark] b9.sub (A.up (v.t S)) zcm zaj K<|Z zQ K zaj<|zq 1 b9 K zaj<|fun s1 a1=>D<|zav<|Z zbn K zeJ<|Y 3 a1.sub f zfF K<|D<|zaD K (fun g0=>?_) (fun g0=>?_)
    ·cases g0
    refine zgg<|zw<|have l3:=((((s.t I).t P).t a).t b).t S;E a1.sub (j4.up l3) zaX zac K<|Z zQ K zR<|zr 3 [iV d.at_.chapter,iV d.at_.line,iV d.at_.word] a1.sub (A.up (v.t S)) zaE zR K<|have l4:=e6.t S;zi a1 K Tryz.call66 (znX a1.sub (t:=t) (t_f0.up l4) (p:=d.at_))<|fun s2 s3 g1 o F l5=>?_;subst l5;refine zeZ K K<|zbl (zae _) K<|zB K<|zhW K K<|U K<|D<|zaM ?_;have qn:1≤d.number∧d.number≤999:=by
     have q:=C;simp[zey,inB] at q;omega
    refine zah<|E F.sub (A.up ((v.t S).t o)) zcs zaH K<|zem (F.get (k:=1) K) K zcs zaH K K<|zU K (zjb K K zkx (Tryz.eq_Decision d (Decision.mk d.number d.kind ([]) (Place.mk d.at_.chapter d.at_.line d.at_.word) (Head.mk d.to.stem d.to.mark) 0)))<|zp K<|zaK (d:=61) K (fun b0=>?_) (fun b0=>?_)
    ·refine X K<|Z zbn K zeJ<|X K<|Y 0 F.sub (f.up o) zfF K<|X K<|zdJ K K<|X K<|zp K<|zao 3 K<|X K<|zd K<|zd K<|zp K<|X K<|Z zbn K zeJ<|X K<|Y 1 F.sub (f.up o) zfF K<|X K<|zdJ K K<|X K<|zp K<|X K<|N K<|X K<|zgL K K K<|X K<|zb K<|zd K ?_;refine zp K<|zaK (d:=80) K (fun c7=>?_) (fun c7=>?_)
     ·refine X K<|Z zbn K zeJ<|X K<|Y 2 F.sub (f.up o) zfF K<|X K<|zdJ K K<|X K<|zp K<|X K<|Z zQ K zaj<|X K<|zr 6 [zae d.to.stem,.int .u8 d.to.mark] F.sub (A.up ((v.t S).t o)) zcm zaj K<|X K<|zi F K Tryz.call131 (zoR F.sub (hd:=d.to) zcn zfb)<|fun s4 s5 g2 h6 c0 l6=>?_;subst l6;refine X K<|zb K<|zd K<|zp K<|zbX (d:=90) K (fun d4=>?_) (fun d4=>?_)
      ·refine X K<|Z zbn K zeJ<|X K<|Y 3 c0.sub (f.up (o.t h6)) zfF K<|X K<|zdJ K K<|X K<|zp K<|zao 7 K<|X K<|zd K<|zd K<|za K<|ze<|zf zgf<|⟨g2,_,K,c0.done,?_⟩;exact zP<|zHu ht B C b0 c7 d4
      refine zao 12 K<|zb K<|za K<|ze<|zf zgf<|⟨g2,_,K,c0.done,?_⟩;exact zP<|zGm ht B C b0 c7 d4
     refine zao 8 K<|zb K<|zp K<|zao 12 K<|zb K<|za K<|ze<|zf zgf<|⟨g1,_,K,F.done,?_⟩;exact zP<|zGn ht B C b0 c7
    refine zao 8 K<|zb K<|zp K<|zao 7 K<|zb K<|zp K<|zao 8 K<|zb K<|zp K<|zao 1 K ?_;refine zao 11 K<|zb K<|za K<|ze<|zf zgf<|⟨g1,_,K,F.done,?_⟩;exact zP<|zHv ht B C b0
   cases e9
  cases e8
 refine zah<|Z zQ K zcg<|have y:=((I.t P).t a).t b;Y 1 Q.sub (A.up y) zda K ?_;refine zax rfl rfl (zex rfl rfl (show _=((4:Nat):Int) by rw[B];rfl) rfl zfX zfO) ?_;have g3:=((((j3.t s).t I).t P).t a).t b;refine zr 20 [.bool false,.bool false,.bool false,.bool true,.func (.func 298) #[] #[]] Q.sub (K1.up g3) Tryz.isAgg267 zfO K<|zaf Q Tryz.zeroValue267 K K<|fun s6 s7 h7=>zq 0 h7 K zfO<|fun s8 h8=>?_;obtain ⟨s9,T,j0,c1⟩:=h8.freeze (k:=0) rfl;have g:=zaL.of j0;refine D<|zw<|Z zQ K zI<|Y 0 c1.sub (A.up (y.t T)) zO K<|Z zQ K zcg<|Y 1 c1.sub (A.up (y.t T)) zda K<|zU K (zdT (cs:=[iV d.number,.int .u8 d.kind,zae [],iV 0,iV 0,iV 0,zae [],.int .u8 0,iV 0]) zch)<|zaf c1 zfq K K<|fun t0 t1 j1=>zq 1 j1 K zaH<|fun t2 r=>D<|zav<|Z zbn K zeJ<|Y 0 r.sub g zfF K<|D<|zaD K (fun g4=>?_) (fun g4=>?_)
 ·cases g4
 refine zaS<|zw<|Z zbn K zeJ<|Y 1 r.sub g zfF K<|D<|zaD K (fun g5=>?_) (fun g5=>?_)
 ·cases g5
 refine zaS<|zw<|Z zbn K zeJ<|Y 2 r.sub g zfF K<|D<|zaD K (fun g6=>?_) (fun g6=>?_)
 ·cases g6
 refine zaS<|zw<|Z zbn K zeJ<|Y 3 r.sub g zfF K<|D<|zaD K (fun g7=>?_) (fun g7=>?_)
 ·refine zah<|Z zQ K zI<|Y 8 r.sub (A.up (y.t T)) zO K<|Z zQ K zI<|zaw 1 r K zI<|fun t3 a5=>D<|zw<|have l7:=((((s.t I).t P).t a).t b).t T;E a5.sub (j4.up l7) zaX zac K<|Z zQ K zR<|zr 3 [iV d.at_.chapter,iV d.at_.line,iV d.at_.word] a5.sub (A.up (y.t T)) zaE zR K<|have l8:=g3.t T;zi a5 K Tryz.call66 (znX a5.sub (t:=t) (t_f0.up l8) (p:=d.at_))<|fun t4 t5 g8 n H l9=>?_;subst l9;refine zeZ K K<|zbl (zae _) K<|zB K<|zhW K K<|U K<|D<|zaM ?_;have qn:1≤d.number∧d.number≤999:=by
   have q:=C;simp[zey,inB] at q;omega
  refine zah<|E H.sub (A.up ((y.t T).t n)) zcs zaH K<|zem (H.get (k:=1) K) K zcs zaH K K<|zU K (zjb K K zkx (Tryz.eq_Decision d (Decision.mk d.number d.kind ([]) (Place.mk 0 0 0) (Head.mk ([]) 0) d.of_)))<|zp K<|zaK (d:=61) K (fun d5=>?_) (fun d5=>?_)
  ·refine X K<|Z zbn K zeJ<|X K<|Y 0 H.sub (g.up n) zfF K<|X K<|zdJ K K<|X K<|zp K<|zao 3 K<|X K<|zd K<|zd K<|zp K<|X K<|Z zbn K zeJ<|X K<|Y 1 H.sub (g.up n) zfF K<|X K<|zdJ K K<|X K<|zp K<|zao 2 K<|X K<|zd K<|zd K<|zp K<|X K ?_;refine Z zbn K zeJ<|X K<|Y 2 H.sub (g.up n) zfF K<|X K<|zdJ K K<|X K<|zp K<|zao 3 K<|X K<|zd K<|zd K<|zp K<|X K<|Z zbn K zeJ<|X K<|Y 3 H.sub (g.up n) zfF K<|X K<|zdJ K K<|X K<|zp K<|X K<|Z zQ K zI<|X K<|Y 0 H.sub (A.up ((y.t T).t n)) zO K<|X K<|zja K K zbj K<|X K<|Z zQ K zI ?_;refine X K<|Y 8 H.sub (A.up ((y.t T).t n)) zO K<|X K<|zA zeg [d.of_] [iV d.of_] H (Enc.cons (L:=zeg) (vs:=[iV d.of_]) (x:=(d.of_)) (h:=g8) K Enc.nil) K zbx Tryz.info3 zch<|fun t6 t7 t8 o2 f218 c8=>X K<|zi c8 K Tryz.call101 (zqq c8.sub _ _ f218)<|fun t9 v0 m0 o3 j2 m1=>?_;subst m1;refine X K<|zb K<|zd K<|za K<|ze<|zf zgf<|⟨m0,_,K,j2.done,?_⟩;exact zP<|zHs ht B C d5
  refine zao 8 K<|zb K<|zp K<|zao 7 K<|zb K<|zp K<|zao 8 K<|zb K<|zp K<|zao 1 K ?_;refine zao 11 K<|zb K<|za K<|ze<|zf zgf<|⟨g8,_,K,H.done,?_⟩;exact zP<|zHt ht B C d5
 cases g7
end Go.Pk
