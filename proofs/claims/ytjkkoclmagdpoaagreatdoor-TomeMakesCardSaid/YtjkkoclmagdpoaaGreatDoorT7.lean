/- A PART OF THE PROOF: contracts of functions, each walked once (much of it printed by a program of the author's own). -/
import Derived.Test.YtjkkoclmagdpoaaGreatDoorT5
import Derived.Test.YtjkkoclmagdpoaaGreatDoorT4
set_option linter.unusedSimpArgs false
set_option linter.unusedVariables false
set_option maxRecDepth 4000
namespace Go.Pk
open Go Go.RowKit Go.Proofs
variable {h:Heap} {w:World} {r:Rule} {hd:Head} {t_v0 x_v0 x_v1 v all__v a_v0 b_v0:Value} {p:Place} {x:Lexicon} {xs:List Int} {g:FuncId} {lo_b hi_b t_b:Nat} {lo hi:Int} {all_:(List Int)} {s:Str}
theorem zcE (hs:Sub h w) (n:Int) (lo:Int) (hi:Int):Calls Tryz.prog 117 #[iV n,iV lo,iV hi] w (zbe h w (fun _ _ res_=>res_=.bool (inB n lo hi))):=by
 refine zl 15 Tryz.func117 Y<|have A:=zbM hs;zx<|zd Y<|zb<|zx<|za Y<|za Y<|zkU Y Y Y<|zt Y ?_;refine zaC (d:=10) Y (fun B=>?_) (fun B=>?_)
 ·refine Z Y<|za Y<|Z Y<|za Y<|Z Y<|zQ Y (zpG Y Y)<|zi Y<|zd Y<|zj<|zk Tryz.results117 ?_;refine ⟨h,_,Y,A.done,?_⟩;refine zM ?_;simp[inB, *]
 refine zaf 3 Y<|zh Y<|zd Y<|zj<|zk Tryz.results117 ?_;refine ⟨h,_,Y,A.done,?_⟩;refine zM ?_;simp[inB, *]
theorem zfN (hs:Sub h w) (n:Int) (lo:Int) (hi:Int):Calls Tryz.prog 138 #[iV n,iV lo,iV hi] w (zbe h w (fun _ _ res_=>res_=.bool (inB n lo hi))):=by
 refine zl 15 Tryz.func138 Y<|have A:=zbM hs;zx<|zd Y<|zb<|zx<|za Y<|za Y<|zkU Y Y Y<|zt Y ?_;refine zaC (d:=10) Y (fun B=>?_) (fun B=>?_)
 ·refine Z Y<|za Y<|Z Y<|za Y<|Z Y<|zQ Y (zpG Y Y)<|zi Y<|zd Y<|zj<|zk Tryz.results138 ?_;refine ⟨h,_,Y,A.done,?_⟩;refine zM ?_;simp[inB, *]
 refine zaf 3 Y<|zh Y<|zd Y<|zj<|zk Tryz.results138 ?_;refine ⟨h,_,Y,A.done,?_⟩;refine zM ?_;simp[inB, *]
theorem zfE (hs:Sub h w) (s:Str) (s_le:s.length≤281474976710656):Calls Tryz.prog 137 #[zae s] w (zbe h w (fun _ _ res_=>res_=.bool (zdI s))):=by
 refine zl 23 Tryz.func137 Y<|have H:=zbM hs;zx<|zd Y<|zb<|zat<|zc Y<|zb<|zT ?_;refine zaM (zcp 2 18) (G:=Nat×Heap) (fun ⟨k,B⟩=>[(3,iV (k:Int))]) (fun ⟨k,B⟩ w'=>Le h B∧St h w B w' []∧(k≤s.length)∧((s.take k).all isL=true)) (fun ⟨k,B⟩=>s.length-k) ⟨0,h⟩ ⟨rfl,trivial⟩ ⟨Le.refl _,H,zbm,zbm⟩ ?_;rintro ⟨k,B⟩ _ w4 ⟨I,A,hk,ht⟩;refine zat<|za Y<|zdc Y Y<|zdG Y zbx Y<|zN Y<|zb ?_;refine zS Y (fun T=>?_) (fun T=>?_)
 ·refine zaN<|zT<|zx<|zdc Y Y<|za Y ?_;obtain ⟨y6,C⟩:∃ y_,(s)[k]?=some y_:=zch zU;refine zQ Y (zlE Y Y (hk:=Y) (hb:=C) (hu:=zbx))<|zN Y<|zt Y ?_;refine zaC (d:=14) Y (fun g7=>?_) (fun g7=>?_)
  ·refine zaf 4 Y<|zi Y<|zb ?_;refine zap Y (fun Q=>?_) (fun Q=>?_)
   ·refine zx<|zd Y<|zj<|zan<|zJ<|zan<|zk Tryz.results137 ?_;refine ⟨B,_,Y,A.done,?_⟩;refine zM ?_;have hn:=zcO (p:=isL) (by assumption) (by simp[isL];omega);simp[zdI,zed,hn]
   cases Q
  refine Z Y<|zdc Y Y<|Z Y<|za Y<|Z Y<|zQ Y (zlE Y Y (hk:=Y) (hb:=C) (hu:=zbx))<|Z Y<|zfe Y Y Y<|zh Y<|zb ?_;refine zS Y (fun c9=>?_) (fun c9=>?_)
  ·refine zx<|zd Y<|zj<|zan<|zJ<|zan<|zk Tryz.results137 ?_;refine ⟨B,_,Y,A.done,?_⟩;refine zM ?_;have hn:=zcO (p:=isL) (by assumption) (by simp[isL];omega);simp[zdI,zed,hn]
  refine zbj<|zaF<|za Y<|zy Y zaS<|zc Y<|zb ?_;refine ⟨⟨k+1,B⟩,⟨rfl,trivial⟩,?_,⟨I,A,?_,?_⟩,?_⟩
  ·exact zaR
  ·first|omega|(simp;omega)
  ·exact zcY ht (by assumption) (by simp[isL, *];omega)
  show s.length-((k+1))<s.length-k;omega
 refine zcC<|zz<|zx<|zdc Y Y<|zdG Y zbx Y<|zn A Y zgo (zcE A.sub _ _ _)<|fun a0 a1 L S F P=>?_;obtain rfl:=P;refine zd Y<|zj<|zk Tryz.results137 ?_;refine ⟨L,_,Y,F.done,?_⟩;refine zM ?_;have hn:=zcs ht zU;simp[zdI,zed,hn]
theorem zjX (hs:Sub h w) (s:Str) (s_le:s.length≤281474976710656) (lo:Int):Calls Tryz.prog 204 #[zae s,iV lo] w (zbe h w (fun _ _ res_=>res_=.bool (zed s lo))):=by
 refine zl 26 Tryz.func204 Y<|have H:=zbM hs;zx<|zd Y<|zb<|zat<|zc Y<|zb<|zT ?_;refine zaM (zcp 4 18) (G:=Nat×Heap) (fun ⟨k,B⟩=>[(5,iV (k:Int))]) (fun ⟨k,B⟩ w'=>Le h B∧St h w B w' []∧(k≤s.length)∧((s.take k).all isL=true)) (fun ⟨k,B⟩=>s.length-k) ⟨0,h⟩ ⟨rfl,trivial⟩ ⟨Le.refl _,H,zbm,zbm⟩ ?_;rintro ⟨k,B⟩ _ w4 ⟨I,A,hk,ht⟩;refine zat<|za Y<|zdc Y Y<|zdG Y zbx Y<|zN Y<|zb ?_;refine zS Y (fun T=>?_) (fun T=>?_)
 ·refine zaN<|zT<|zx<|zdc Y Y<|za Y ?_;obtain ⟨y6,C⟩:∃ y_,(s)[k]?=some y_:=zch zU;refine zQ Y (zlE Y Y (hk:=Y) (hb:=C) (hu:=zbx))<|zN Y<|zt Y ?_;refine zaC (d:=16) Y (fun g7=>?_) (fun g7=>?_)
  ·refine zaf 4 Y<|zi Y<|zb ?_;refine zap Y (fun Q=>?_) (fun Q=>?_)
   ·refine zx<|zd Y<|zj<|zan<|zJ<|zan<|zk Tryz.results204 ?_;refine ⟨B,_,Y,A.done,?_⟩;refine zM ?_;have hn:=zcO (p:=isL) (by assumption) (by simp[isL];omega);simp[zdI,zed,hn]
   cases Q
  refine Z Y<|zdc Y Y<|Z Y<|za Y<|Z Y<|zQ Y (zlE Y Y (hk:=Y) (hb:=C) (hu:=zbx))<|Z Y<|zfe Y Y Y<|zh Y<|zb ?_;refine zS Y (fun c9=>?_) (fun c9=>?_)
  ·refine zx<|zd Y<|zj<|zan<|zJ<|zan<|zk Tryz.results204 ?_;refine ⟨B,_,Y,A.done,?_⟩;refine zM ?_;have hn:=zcO (p:=isL) (by assumption) (by simp[isL];omega);simp[zdI,zed,hn]
  refine zbj<|zaF<|za Y<|zy Y zaS<|zc Y<|zb ?_;refine ⟨⟨k+1,B⟩,⟨rfl,trivial⟩,?_,⟨I,A,?_,?_⟩,?_⟩
  ·exact zaR
  ·first|omega|(simp;omega)
  ·exact zcY ht (by assumption) (by simp[isL, *];omega)
  show s.length-((k+1))<s.length-k;omega
 refine zcC<|zz<|zx<|zdc Y Y<|zdG Y zbx Y<|za Y<|zn A Y Tryz.call138 (zfN A.sub _ _ _)<|fun a0 a1 L S F P=>?_;obtain rfl:=P;refine zd Y<|zj<|zk Tryz.results204 ?_;refine ⟨L,_,Y,F.done,?_⟩;refine zM ?_;have hn:=zcs ht zU;simp[zdI,zed,hn]
theorem zpd (hs:Sub h w) (r_l1:r.cut.length≤281474976710656) (r_l2:r.put.length≤281474976710656):Calls Tryz.prog 161 #[.agg #[zae r.cut,zae r.put,iV r.least]] w (zbe h w (fun _ _ res_=>res_=.bool (ziH r))):=by
 refine zl 23 Tryz.func161 Y<|have Q:=zbM hs;zx<|ze [zae (r.cut),zae (r.put),iV (r.least)] Q Y<|fun b1 w2 h3 a6 F I=>zd Y<|zb<|zx<|U zcg Y zaj<|M 0 I.sub F zaK Y<|zn I Y Tryz.call204 (zjX I.sub _ zbq _)<|fun r7 w8 h9 B C S=>?_;obtain rfl:=S;refine zt Y ?_;refine zbp (d:=6) Y (fun T=>?_) (fun T=>?_)
 ·refine Z Y<|U zcg Y zaj<|Z Y<|M 1 C.sub (F.up B) zaK Y<|Z Y<|zn C Y Tryz.call204 (zjX C.sub _ zbq _)<|fun a7 a8 L H A a0=>?_;subst a0;refine zi Y<|zt Y ?_;refine zbp (d:=11) Y (fun a1=>?_) (fun a1=>?_)
  ·refine Z Y<|U zcg Y zaj<|Z Y<|M 0 A.sub (F.up (B.t H)) zaK Y<|Z Y<|U zcg Y zaj<|Z Y<|M 1 A.sub (F.up (B.t H)) zaK Y<|Z Y<|zQ Y (zkz Y Y)<|zi Y<|zt Y ?_;refine zaC (d:=18) Y (fun a2=>?_) (fun a2=>?_)
   ·refine Z Y<|U zcg Y zG<|Z Y<|M 2 A.sub (F.up (B.t H)) zO Y<|Z Y<|zn A Y Tryz.call138 (zfN A.sub _ _ _)<|fun a9 b0 a3 a5 P a4=>?_;subst a4;refine zi Y<|zd Y<|zj<|zk Tryz.results161 ?_;refine ⟨a3,_,Y,P.done,?_⟩;refine zM ?_;simp_all[ziH]
   refine zaf 3 Y<|zh Y<|zd Y<|zj<|zk Tryz.results161 ?_;refine ⟨L,_,Y,A.done,?_⟩;refine zM ?_;simp_all[ziH]
  refine zaf 5 Y<|zh Y<|zt Y<|zaf 3 Y<|zh Y<|zd Y<|zj<|zk Tryz.results161 ?_;refine ⟨L,_,Y,A.done,?_⟩;refine zM ?_;simp_all[ziH]
 refine zaf 3 Y<|zh Y<|zt Y<|zaf 5 Y<|zh Y<|zt Y<|zaf 3 Y<|zh Y<|zd Y<|zj<|zk Tryz.results161 ?_;refine ⟨h9,_,Y,C.done,?_⟩;refine zM ?_;simp_all[ziH]
theorem zhm (hs:Sub h w) (hd_l1:hd.stem.length≤281474976710656) (hd_l2:0≤hd.mark∧hd.mark≤255):Calls Tryz.prog 87 #[.agg #[zae hd.stem,.int .u8 hd.mark]] w (zbe h w (fun _ _ res_=>res_=.bool (zhK hd))):=by
 refine zl 12 Tryz.func87 Y<|have I:=zbM hs;zx<|ze [zae (hd.stem),.int .u8 (hd.mark)] I Y<|fun b1 w2 h3 a0 C B=>zd Y<|zb<|zx<|U zcU Y zaj<|M 0 B.sub C zaK Y<|zn B Y Tryz.call137 (zfE B.sub _ zbq)<|fun r7 w8 h9 F A L=>?_;obtain rfl:=L;refine zt Y ?_;refine zbp (d:=6) Y (fun P=>?_) (fun P=>?_)
 ·refine Z Y<|U zcU Y zbn<|Z Y<|M 1 A.sub (C.up F) zbO Y<|Z Y ?_;refine zar rfl rfl (zhi rfl rfl zcu (IntWalk.i64_in _ zU)) ?_;refine Z Y<|zn A Y Tryz.call138 (zfN A.sub _ _ _)<|fun a1 a2 Q T H S=>?_;obtain rfl:=S;refine zi Y<|zd Y<|zj<|zk Tryz.results87 ?_;refine ⟨Q,_,Y,H.done,?_⟩;refine zM ?_;simp_all[zhK]
 refine zaf 4 Y<|zh Y<|zd Y<|zj<|zk Tryz.results87 ?_;refine ⟨h9,_,Y,A.done,?_⟩;refine zM ?_;simp_all[zhK]
theorem zic (hs:Sub h w) {a:Place} {b:Place}:Calls Tryz.prog 165 #[.agg #[iV a.chapter,iV a.line,iV a.word],.agg #[iV b.chapter,iV b.line,iV b.word]] w (zbe h w (fun _ _ res_=>res_=.bool (zdw a b))):=by
 refine zl 30 Tryz.func165 Y<|have H:=zbM hs;zx<|ze [iV (a.chapter),iV (a.line),iV (a.word)] H Y<|fun T w2 h3 S F I=>ze [iV (b.chapter),iV (b.line),iV (b.word)] I Y<|fun b7 w8 L B C A=>zd Y<|zb<|zat<|U zal Y zG<|M 0 A.sub (F.up B) zO Y<|U zal Y zG<|M 0 A.sub C zO Y<|zao Y<|zb ?_;refine zS Y (fun P=>?_) (fun P=>?_)
 ·refine zx<|U zal Y zG<|M 0 A.sub (F.up B) zO Y<|U zal Y zG<|M 0 A.sub C zO Y<|zN Y<|zd Y<|zj<|zJ<|zk Tryz.results165 ?_;refine ⟨L,_,Y,A.done,?_⟩;refine zM ?_;simp_all[zdw]
 refine zaN<|zx<|U zal Y zG<|M 1 A.sub (F.up B) zO Y<|U zal Y zG<|M 1 A.sub C zO Y<|zao Y<|zb ?_;refine zS Y (fun Q=>?_) (fun Q=>?_)
 ·refine zx<|U zal Y zG<|M 1 A.sub (F.up B) zO Y<|U zal Y zG<|M 1 A.sub C zO Y<|zN Y<|zd Y<|zj<|zJ<|zk Tryz.results165 ?_;refine ⟨L,_,Y,A.done,?_⟩;refine zM ?_;simp_all[zdw]
 refine zdF<|zx<|U zal Y zG<|M 2 A.sub (F.up B) zO Y<|U zal Y zG<|M 2 A.sub C zO Y<|zN Y<|zd Y<|zj<|zk Tryz.results165 ?_;refine ⟨L,_,Y,A.done,?_⟩;refine zM ?_;simp_all[zdw]
theorem zlp (hs:Sub h w) {t:Text} (t_f0:Sl zax h t_v0 t.chapters):Calls Tryz.prog 109 #[.agg #[t_v0]] w (zbe h w (fun _ _ res_=>res_=.bool (zbF t))):=by
 refine zl 85 Tryz.func109 Y<|have g0:=zbM hs;have e1:=t_f0.le;zx<|ze [t_v0] g0 Y<|fun b1 w2 h3 e2 c1 c4=>zd Y<|zb<|zat<|U zaI Y zbi<|M 0 c4.sub c1 zbI Y<|zK (t_f0.up e2) zav Y<|zn c4 Y zgo (zcE c4.sub _ _ _)<|fun r7 w8 h9 a0 b4 g1=>?_;subst g1;refine zcq Y Y<|zb ?_;refine zap Y (fun g2=>?_) (fun g2=>?_)
 ·refine zx<|zd Y<|zj<|zJ<|zk zho ?_;refine ⟨h9,_,Y,b4.done,?_⟩;refine zM ?_;simp_all[zbF]
 refine zaN<|zx<|zc Y<|zb<|zT ?_;refine zaM (zcp 2 6++zcp 13 72) (G:=Nat×Heap) (fun ⟨i,b0⟩=>[(3,iV (i:Int))]) (fun ⟨i,b0⟩ w'=>Le h9 b0∧St h w b0 w' []∧(i≤t.chapters.length)∧((t.chapters.take i).all zcN=true)∧(((t.chapters.take i).map (·.id)).Nodup)) (fun ⟨i,b0⟩=>t.chapters.length-i) ⟨0,h9⟩ ⟨rfl,trivial⟩ ⟨Le.refl _,b4,zbm,zbm,zbm⟩ ?_;rintro ⟨i,b0⟩ _ j3 ⟨Q,S,hi,hA,hN⟩;refine zat<|za Y<|U zaI Y zbi<|M 0 S.sub (c1.up (a0.t Q)) zbI Y<|have c5:=(e2.t a0).t Q;zK (t_f0.up c5) zav Y<|zN Y<|zb ?_;refine zS Y (fun g3=>?_) (fun g3=>?_)
 ·refine zaN<|zT<|zx<|U zaI Y zbi<|M 0 S.sub (c1.up (a0.t Q)) zbI Y<|za Y ?_;obtain ⟨c,hc⟩:∃ y_,(t.chapters)[i]?=some y_:=zch zU;obtain ⟨j4,j5,_,c8,c9,hr_c⟩:=Sl.elem (t_f0.up c5) hc;obtain ⟨j6,rfl,f25⟩:=hr_c;have e7:=f25.le;refine zL c8 zav zbb Y<|zg S.sub c9 zgw zbb Y<|zad S zeu Y Y<|fun j7 j8 d0=>zbE d0 (k:=0) Y Y Y (zaX Y (zaX f25.one zdv)) zbb Y Y Y<|fun j9 d1=>?_;obtain ⟨k0,T,d2,a5⟩:=d1.freeze (k:=0) rfl;have F:=zay.of d2;refine zb<|zat<|U zaz Y zG<|M 0 a5.sub F zO Y<|zn a5 Y zgo (zcE a5.sub _ _ _)<|fun k4 k5 g4 A a1 g5=>?_;subst g5;refine zcq Y Y<|zt Y ?_;refine zbp (d:=29) Y (fun g6=>?_) (fun g6=>?_)
  ·refine zaf 5 Y<|zi Y<|zb ?_;refine zap Y (fun e3=>?_) (fun e3=>?_)
   ·refine zx<|zd Y<|zj<|zJ<|zan<|zJ<|zan<|zk zho ?_;refine ⟨g4,_,Y,a1.done,?_⟩;refine zM ?_;have q0:zcN c=false:=by simp_all[zcN]
    have q:=zcO (p:=zcN) hc q0;simp[zbF,q]
   cases e3
  refine Z Y<|U zaz Y zbu<|Z Y<|M 1 a1.sub (F.up A) zbS Y<|Z Y<|zK (f25.up (T.t A)) zaJ Y<|Z Y<|zn a1 Y zgo (zcE a1.sub _ _ _)<|fun k6 k7 c6 L b5 g7=>?_;subst g7;refine Z Y<|zcq Y Y<|zh Y<|zb ?_;refine zap Y (fun g8=>?_) (fun g8=>?_)
  ·refine zx<|zd Y<|zj<|zJ<|zan<|zJ<|zan<|zk zho ?_;refine ⟨c6,_,Y,b5.done,?_⟩;refine zM ?_;have q0:zcN c=false:=by simp_all[zcN]
   have q:=zcO (p:=zcN) hc q0;simp[zbF,q]
  refine zaN<|zx<|zc Y<|zb<|zT ?_;refine zaM ([2,5]++zcp 36 14) (G:=Nat×Heap) (fun ⟨k1,a3⟩=>[(5,iV (k1:Int))]) (fun ⟨k1,a3⟩ w'=>Le c6 a3∧St h w a3 w' [[]]∧(k1≤i)∧(∀ j c2,j<k1→t.chapters[j]?=some c2→c2.id≠c.id)) (fun ⟨k1,a3⟩=>i-k1) ⟨0,c6⟩ ⟨rfl,trivial⟩ ⟨Le.refl _,b5,zbm,(by intro j _ hj;omega)⟩ ?_;rintro ⟨k1,a3⟩ _ k8 ⟨H,a6,k9,hd⟩;refine zat<|za Y<|za Y<|zN Y<|zb ?_;refine zS Y (fun g9=>?_) (fun g9=>?_)
  ·refine zaN<|zT<|zaH<|zbZ Tryz.mixed zbL (Cls a3 _) (Cls.drew a6)<|zD zaI Y zbi<|have h0:=((((a0.t Q).t T).t A).t L).t H;zp Y (fun _ hC=>(zX (j:=0) hC.sub (c1.up h0) Y Y Y zbI))<|zcW Y Y ?_;obtain ⟨cc,hcc⟩:∃ y_,(t.chapters)[k1]?=some y_:=zch zU;have h4:=(((c5.t T).t A).t L).t H;obtain ⟨l0,l1,_,d3,d4,hr_cc⟩:=Sl.elem (t_f0.up h4) hcc;obtain ⟨l2,rfl,f63⟩:=hr_cc;have e8:=f63.le;refine zaq d3 zav zbb Y<|zD zaz Y zG<|zp Y (fun _ hC=>(zX (j:=0) hC.sub d4 Y Y Y zO))<|zD zaz Y zG<|zp Y (fun _ hC=>(zX (j:=0) hC.sub (F.up ((A.t L).t H)) Y Y Y zO))<|znl Y Y Y<|zbl ?_;rintro l3 ⟨e4,e5⟩;have b6:=a6.call0 e5;refine zz ?_;refine zS Y (fun h5=>?_) (fun h5=>?_)
   ·refine zx<|zd Y<|zj<|zan<|zJ<|zan<|zan<|zJ<|zan<|zk zho ?_;refine ⟨e4,_,Y,b6.done,?_⟩;refine zM ?_;have q:=zmd (f:=(·.id)) hcc hc zU (by assumption);simp[zbF,q]
   refine zbj<|zaF<|za Y<|zy Y zaS<|zc Y<|zb ?_;refine ⟨⟨k1+1,e4⟩,⟨rfl,trivial⟩,?_,⟨(H.trans e5.le),b6,?_,?_⟩,?_⟩
   ·exact zaR
   ·first|omega|(simp;omega)
   ·intro j c2 h1 h2
    rcases Nat.lt_or_ge j k1 with h3|h3
    ·exact hd j c2 h3 h2
    ·obtain rfl:j=k1:=by omega
     rw[h2] at hcc;cases hcc;assumption
   show i-((k1+1))<i-k1;omega
  refine zcC<|zz<|zx<|zc Y<|zb<|zT ?_;refine zaM ([2,6,7]++zcp 50 35) (G:=Nat×Heap) (fun ⟨k2,b2⟩=>[(6,iV (k2:Int))]) (fun ⟨k2,b2⟩ w'=>Le a3 b2∧St h w b2 w' [[]]∧(k2≤c.lines.length)∧((c.lines.take k2).all ziz=true)) (fun ⟨k2,b2⟩=>c.lines.length-k2) ⟨0,a3⟩ ⟨rfl,trivial⟩ ⟨Le.refl _,a6,zbm,zbm⟩ ?_;rintro ⟨k2,b2⟩ _ l4 ⟨a2,P,l5,hl⟩;refine zat<|za Y<|U zaz Y zbu<|have c3:=((A.t L).t H).t a2;M 1 P.sub (F.up c3) zbS Y<|have e6:=(((T.t A).t L).t H).t a2;zK (f25.up e6) zaJ Y<|zN Y<|zb ?_;refine zS Y (fun h6=>?_) (fun h6=>?_)
  ·refine zaN<|zT<|zat<|U zaz Y zbu<|M 1 P.sub (F.up c3) zbS Y<|za Y ?_;obtain ⟨ln,hln⟩:∃ y_,(c.lines)[k2]?=some y_:=zch zU;obtain ⟨l6,l7,_,a7,a8,hr_ln⟩:=Sl.elem (f25.up e6) hln;obtain ⟨l8,rfl,f81⟩:=hr_ln;have e9:=f81.le;refine zL a7 zaJ zdd Y<|M 0 P.sub a8 zdx Y<|zK f81 zC Y<|zn P Y zgo (zcE P.sub _ _ _)<|fun l9 m0 c7 I b7 h7=>?_;subst h7;refine zcq Y Y<|zb ?_;refine zap Y (fun h8=>?_) (fun h8=>?_)
   ·refine zx<|zd Y<|zj<|zJ<|zan<|zJ<|zeJ<|zan<|zJ<|zan<|zk zho ?_;refine ⟨c7,_,Y,b7.done,?_⟩;refine zM ?_;have q1:ziz ln=false:=by simp_all[ziz]
    have q2:=zcO (p:=ziz) hln q1;have q0:zcN c=false:=by simp[zcN,q2]
    have q:=zcO (p:=zcN) hc q0;simp[zbF,q]
   refine zdF<|zx<|zc Y<|zb<|zT ?_;refine zaM ([2,7]++zcp 65 20) (G:=Nat×Heap) (fun ⟨k3,b3⟩=>[(7,iV (k3:Int))]) (fun ⟨k3,b3⟩ w'=>Le c7 b3∧St h w b3 w' [[]]∧(k3≤ln.length)∧((ln.take k3).all zdI=true)) (fun ⟨k3,b3⟩=>ln.length-k3) ⟨0,c7⟩ ⟨rfl,trivial⟩ ⟨Le.refl _,b7,zbm,zbm⟩ ?_;rintro ⟨k3,b3⟩ _ m1 ⟨B,C,m2,hw⟩;refine zat<|za Y<|U zaz Y zbu<|M 1 C.sub (F.up ((c3.t I).t B)) zbS Y<|za Y<|zL a7 zaJ zdd Y<|M 0 C.sub (a8.up (I.t B)) zdx Y<|zK (f81.up (I.t B)) zC Y<|zN Y<|zb ?_;refine zS Y (fun j0=>?_) (fun j0=>?_)
   ·refine zaN<|zT<|zx<|U zaz Y zbu<|M 1 C.sub (F.up ((c3.t I).t B)) zbS Y<|za Y<|zL a7 zaJ zdd Y<|M 0 C.sub (a8.up (I.t B)) zdx Y<|za Y ?_;obtain ⟨m3,d5⟩:∃ y_,(ln)[k3]?=some y_:=zch zU;obtain ⟨m4,m5,_,d6,d7,a9⟩:=Sl.elem (f81.up (I.t B)) d5;obtain ⟨rfl,d8⟩:=a9;simp only[big] at d8;refine zL d6 zC zaj Y<|M 0 C.sub d7 zaK Y<|zn C Y Tryz.call137 (zfE C.sub _ zbq)<|fun j1 j2 b8 c0 a4 d9=>?_;subst d9;refine zcq Y Y<|zb ?_;refine zap Y (fun b9=>?_) (fun b9=>?_)
    ·refine zx<|zd Y<|zj<|zan<|zJ<|zeJ<|zan<|zJ<|zeJ<|zan<|zJ<|zan<|zk zho ?_;refine ⟨b8,_,Y,a4.done,?_⟩;refine zM ?_;have q3:=zcO (p:=zdI) (by assumption) (by simpa using b9);have q1:ziz ln=false:=by simp[ziz,q3]
     have q2:=zcO (p:=ziz) hln q1;have q0:zcN c=false:=by simp[zcN,q2]
     have q:=zcO (p:=zcN) hc q0;simp[zbF,q]
    refine zbj<|zaF<|za Y<|zy Y zaS<|zc Y<|zb ?_;refine ⟨⟨k3+1,b8⟩,⟨rfl,trivial⟩,?_,⟨(B.t c0),a4,?_,?_⟩,?_⟩
    ·exact zaR
    ·first|omega|(simp;omega)
    ·exact zcY hw (by assumption) (by simp_all)
    show ln.length-((k3+1))<ln.length-k3;omega
   refine zcC<|zaF<|za Y<|zy Y zaS<|zc Y<|zb ?_;refine ⟨⟨k2+1,b3⟩,⟨rfl,trivial⟩,?_,⟨((a2.t I).t B),C,?_,?_⟩,?_⟩
   ·exact zaR
   ·first|omega|(simp;omega)
   ·exact zcY hl hln (by simp_all[ziz,zcs hw zU])
   show c.lines.length-((k2+1))<c.lines.length-k2;omega
  refine zcC<|zaF<|za Y<|zy Y zaS<|zc Y<|zb ?_;have HCH:zcN c=true:=by
   have q:=zcs hl zU;simp_all[zcN]
  have e0:=((((Q.t T).t A).t L).t H).t a2;refine ⟨⟨i+1,b2⟩,⟨rfl,trivial⟩,?_,⟨e0,P.take 0,?_,?_,?_⟩,?_⟩
  ·exact zaR
  ·first|omega|(simp;omega)
  ·exact zcY hA hc HCH
  ·exact zmY hN hc zU (fun j c2 h1 h2=>hd j c2 zU h2)
  show t.chapters.length-((i+1))<t.chapters.length-i;omega
 refine zcC<|zz<|zx<|zd Y<|zj<|zk zho ?_;refine ⟨b0,_,Y,S.done,?_⟩;refine zM ?_;have q:=zcs hA zU;have q2:t.chapters.take i=t.chapters:=List.take_of_length_le zU;rw[q2] at hN;simp_all[zbF]
theorem zkJ (hs:Sub h w) {t:Text} (t_f0:Sl zax h t_v0 t.chapters):Calls Tryz.prog 106 #[.agg #[t_v0]] w (zbe h w (fun _ _ res_=>res_=iV ((if zbF t then 0 else 10)))):=by
 refine zl 6 Tryz.func106 Y<|have F:=zbM hs;have C:=t_f0.le;zx<|ze [t_v0] F Y<|fun T w2 h3 H I B=>zc Y<|zb<|zat<|zg B.sub I zaG zab Y<|zn B Y Tryz.call109 (zlp B.sub (t:=t) (t_f0.up H))<|fun r7 w8 Q S A L=>?_;obtain rfl:=L;refine zcq Y Y<|zb ?_;refine zap Y (fun P=>?_) (fun P=>?_)
 ·refine zx<|zc Y<|zj<|zJ<|zk Tryz.results106 ?_;refine ⟨Q,_,Y,A.done,?_⟩;refine zaB ?_;simp_all
 refine zdF<|zx<|zc Y<|zj<|zk Tryz.results106 ?_;refine ⟨Q,_,Y,A.done,?_⟩;refine zaB ?_;simp_all
theorem zlo (hs:Sub h w) {t:Text} (t_f0:Sl zax h t_v0 t.chapters):Calls Tryz.prog 116 #[.agg #[t_v0],.agg #[iV p.chapter,iV p.line,iV p.word]] w (zbe h w (fun h' _ res_=>∃ u0,res_=.tuple #[u0,.bool ((zcc t p).isSome)]∧Sl zcn h' u0 ((zcc t p).getD []))):=by
 refine zl 40 Tryz.func116 Y<|have b2:=zbM hs;have a4:=t_f0.le;zx<|ze [t_v0] b2 Y<|fun b1 w2 h3 b3 Q b4=>ze [iV (p.chapter),iV (p.line),iV (p.word)] b4 Y<|fun b7 w8 h9 B A F=>zcP Y Y<|zd Y<|zb<|zaH<|zaH<|zbZ Tryz.mixed zbL (Cls h9 _) (Cls.drew F)<|zD zal Y zG<|zp Y (fun _ hC=>(zX (j:=0) hC.sub A Y Y Y zO))<|zD zaI Y zbi<|zp Y (fun _ hC=>(zX (j:=0) hC.sub (Q.up B) Y Y Y zbI))<|have a5:=b3.t B;zpu (t_f0.up a5) Y zav Y<|zkV Y Y zaS Y<|zcl Y Y (fun _=>zbJ Y zgo Y) (fun _ hC=>zbe.quiet hC (zcE hC.sub _ _ _))<|zmc Y Y<|zdl Y Y ?_;refine zfd (d:=14) Y (fun S=>?_) (fun S=>?_)
 ·refine zbT 13 Y<|zaw Y<|zbl ?_;rintro c0 ⟨b5,b6⟩;have a0:=F.call0 b6;refine zz ?_;refine zap Y (fun a6=>?_) (fun a6=>?_)
  ·refine zx<|zcP Y Y<|zd Y<|zj<|zJ<|zbs Tryz.results116 ?_;refine ⟨b5,_,Y,a0.done,?_⟩;refine ⟨_,zdz Y (zM ?_),Sl.to (Sl.nil _ _) ?_⟩
   all_goals have q:=S
   all_goals simp[inB] at q
   ·have I:zcc t p=none:=zoQ zU;simp[I]
   have I:zcc t p=none:=zoQ zU;simp[I]
  cases a6
 refine zf Y<|zD zal Y zG<|zf Y<|zp Y (fun _ hC=>(zX (j:=1) hC.sub A Y Y Y zO))<|zf Y<|zD zaI Y zbi<|zf Y<|zp Y (fun _ hC=>(zX (j:=0) hC.sub (Q.up B) Y Y Y zbI))<|zf Y<|zD zal Y zG<|zf Y<|zp Y (fun _ hC=>(zX (j:=0) hC.sub A Y Y Y zO))<|zf Y ?_;have q1:0≤p.chapter∧p.chapter<t.chapters.length:=by
  have q:=S;simp[inB] at q;omega
 obtain ⟨c,hc⟩:∃ y_,(t.chapters)[p.chapter.toNat]?=some y_:=zch zU;obtain ⟨c1,c2,_,L,P,hr_c⟩:=Sl.elem (t_f0.up a5) hc;obtain ⟨c3,rfl,f25⟩:=hr_c;have a9:=f25.le;refine zbU rfl rfl (fun _ _=>(zbz L rfl rfl (hk:=(show _=((p.chapter.toNat:Nat):Int) by omega)) (hu:=zav) (hz:=zbb))) ?_;refine zf Y<|zD zaz Y zbu<|zf Y<|zp Y (fun _ hC=>(zX (j:=1) hC.sub P Y Y Y zbS))<|zf Y<|zpu f25 Y zaJ Y<|zf Y<|zkV Y Y zaS Y<|zf Y<|zcl Y Y (fun _=>zbJ Y zgo Y) (fun _ hC=>zbe.quiet hC (zcE hC.sub _ _ _))<|zf Y<|zmc Y Y<|zZ Y<|zbl ?_;rintro c4 ⟨a7,C⟩;have H:=F.call0 C;refine zz ?_;refine zap Y (fun T=>?_) (fun T=>?_)
 ·refine zx<|zcP Y Y<|zd Y<|zj<|zJ<|zbs Tryz.results116 ?_;refine ⟨a7,_,Y,H.done,?_⟩;refine ⟨_,zdz Y (zM ?_),Sl.to (Sl.nil _ _) ?_⟩
  all_goals have q:=T
  all_goals simp[inB] at q
  ·have I:zcc t p=none:=zoP hc zU;simp[I]
  have I:zcc t p=none:=zoP hc zU;simp[I]
 refine zaN ?_;have I:0≤p.line∧p.line<c.lines.length:=by
  have q:=T;simp[inB] at q;omega
 refine zbZ Tryz.mixed zbL (Cls a7 _) (Cls.drew H)<|zD zaI Y zbi<|zp Y (fun _ hC=>(zX (j:=0) hC.sub (Q.up (B.trans C.le)) Y Y Y zbI))<|zD zal Y zG<|zp Y (fun _ hC=>(zX (j:=0) hC.sub (A.up C.le) Y Y Y zO)) ?_;refine zbU rfl rfl (fun _ _=>(zbz L rfl rfl (hk:=(show _=((p.chapter.toNat:Nat):Int) by omega)) (hu:=zav) (hz:=zbb))) ?_;refine zD zaz Y zbu<|zp Y (fun _ hC=>(zX (j:=1) hC.sub (P.up C.le) Y Y Y zbS))<|zD zal Y zG<|zp Y (fun _ hC=>(zX (j:=1) hC.sub (A.up C.le) Y Y Y zO)) ?_;obtain ⟨ln,hln⟩:∃ y_,(c.lines)[p.line.toNat]?=some y_:=zch zU;obtain ⟨c5,c6,_,a1,a2,hr_ln⟩:=Sl.elem (f25.up C.le) hln;obtain ⟨b8,rfl,f36⟩:=hr_ln;have b0:=f36.le;refine zbU rfl rfl (fun _ _=>(zbz a1 rfl rfl (hk:=(show _=((p.line.toNat:Nat):Int) by omega)) (hu:=zaJ) (hz:=zdd))) ?_;refine zp Y (fun _ hC=>(zX (j:=0) hC.sub a2 Y Y Y zdx))<|zvE (v:=b8) Y Y<|zjS Y Y<|zbl ?_;rintro c7 ⟨b9,a8⟩;have a3:=H.call0 a8;refine zz<|zfS<|zbs Tryz.results116 ?_;refine ⟨b9,_,Y,a3.done,?_⟩;refine ⟨_,zdz Y (zM ?_),Sl.to (f36.up a8.le) ?_⟩
 ·simp[zqw hc q1.1 hln I.1]
 simp[zqw hc q1.1 hln I.1]
theorem zkH (hs:Sub h w) {t:Text} (t_f0:Sl zax h t_v0 t.chapters):Calls Tryz.prog 68 #[.agg #[t_v0],.agg #[iV p.chapter,iV p.line,iV p.word]] w (zbe h w (fun _ _ res_=>res_=.bool (zcz t p))):=by
 refine zl 22 Tryz.func68 Y<|have Q:=zbM hs;have P:=t_f0.le;zx<|ze [t_v0] Q Y<|fun b1 w2 h3 S T a1=>ze [iV (p.chapter),iV (p.line),iV (p.word)] a1 Y<|fun b7 w8 h9 C F A=>zd Y<|zb<|zx<|zg A.sub (T.up C) zaG zab Y<|zg A.sub F zaE zP Y<|have a2:=S.t C;zn A Y Tryz.call116 (zlo A.sub (t:=t) (t_f0.up a2) (p:=p))<|fun a9 b0 a3 I B a4=>?_;obtain ⟨H,rfl,f21⟩:=a4;have a0:=f21.le;refine zdy Y Y<|zaL H Y<|zbK Y<|zH H Y<|zd Y<|zb<|zx<|zt Y<|zt Y ?_;refine zbp (d:=14) Y (fun a5=>?_) (fun a5=>?_)
 ·refine Z Y<|U zal Y zG<|Z Y<|M 2 B.sub (F.up I) zO Y<|Z Y<|zq H Y<|Z Y<|zK f21 zC Y<|Z Y<|zfG Y Y zaS Y<|Z Y<|zn B Y zgo (zcE B.sub _ _ _)<|fun b2 b3 a6 a8 L a7=>?_;subst a7;refine zi Y<|zd Y<|zj<|zk Tryz.results68 ?_;refine ⟨a6,_,Y,L.done,?_⟩;refine zM ?_;simp_all[znt]
 refine zaf 6 Y<|zh Y<|zd Y<|zj<|zk Tryz.results68 ?_;refine ⟨a3,_,Y,B.done,?_⟩;refine zM ?_;simp_all[znt]
theorem zmL (hs:Sub h w) {t:Text} (t_f0:Sl zax h t_v0 t.chapters) {d:Decision} (d_l2:0≤d.kind∧d.kind≤255) (d_l3:d.form.length≤281474976710656) (d_l7:d.to.stem.length≤281474976710656) (d_l8:0≤d.to.mark∧d.to.mark≤255):Calls Tryz.prog 162 #[.agg #[t_v0],.agg #[iV d.number,.int .u8 d.kind,zae d.form,iV d.at_.chapter,iV d.at_.line,iV d.at_.word,zae d.to.stem,.int .u8 d.to.mark,iV d.of_]] w (zbe h w (fun _ _ res_=>res_=.bool (zaZ t d))):=by
 refine zl 102 Tryz.func162 Y<|have d0:=zbM hs;have c3:=t_f0.le;zx<|ze [t_v0] d0 Y<|fun b1 w2 h3 d1 d2 d3=>ze [iV (d.number),.int .u8 (d.kind),zae (d.form),iV (d.at_.chapter),iV (d.at_.line),iV (d.at_.word),zae (d.to.stem),.int .u8 (d.to.mark),iV (d.of_)] d3 Y<|fun b7 w8 h9 a3 B S=>zd Y<|zb<|zat<|U zI Y zG<|M 0 S.sub B zO Y<|zn S Y Tryz.call138 (zfN S.sub _ _ _)<|fun h2 h4 d4 L H d5=>?_;subst d5;refine zcq Y Y<|zb ?_;refine zap Y (fun c4=>?_) (fun c4=>?_)
 ·refine zx<|zd Y<|zj<|zJ<|zk zdq ?_;refine ⟨d4,_,Y,H.done,?_⟩;refine zM ?_;simp_all[zaZ]
 have qn:1≤d.number∧d.number≤999:=by
  have q:=c4;simp[inB] at q;omega
 refine zdF<|zx<|zQ Y (zce (cs:=[iV 0,iV 0,iV 0]) zbL)<|zQ Y (zce (cs:=[zae [],.int .u8 0]) zbL)<|zg H.sub (d2.up (a3.t L)) zaG zab Y<|U zI Y zP<|zw 3 [iV (d.at_.chapter),iV (d.at_.line),iV (d.at_.word)] H.sub (B.up L) zaE zP Y<|have d6:=(d1.t a3).t L;zn H Y Tryz.call68 (zkH H.sub (t:=t) (t_f0.up d6) (p:=d.at_))<|fun h5 h6 h7 a6 a7 d7=>?_;subst d7;refine zad a7 zgj Y Y<|fun h8 j0 a8=>zad a8 Tryz.zeroValue38 Y Y<|fun j1 j2 a9=>zo 0 a9 Y zP<|fun j3 b0=>?_;obtain ⟨j4,b2,b3,b4⟩:=b0.freeze (k:=0) rfl;have a4:=zay.of b3;refine zo 1 b4 Y zac<|fun j5 b5=>?_;obtain ⟨Q,T,b6,A⟩:=b5.freeze (k:=1) rfl;have b8:=zay.of b6;refine zd Y<|zb<|zat<|U zI Y zbn<|have C:=((L.t a6).t b2).t T;M 1 A.sub (B.up C) zbO Y<|zb<|zT<|zx<|zeb Y Y Y<|zd Y<|zb ?_;refine zS Y (fun d8=>?_) (fun d8=>?_)
 ·refine zx<|U zI Y zaj<|M 2 A.sub (B.up C) zaK Y<|zn A Y Tryz.call137 (zfE A.sub _ zbq)<|fun j6 j7 c5 P F d9=>?_;subst d9;refine zt Y ?_;refine zbp (d:=25) Y (fun e0=>?_) (fun e0=>?_)
  ·refine Z Y<|U zI Y zP<|Z Y<|zw 3 [iV (d.at_.chapter),iV (d.at_.line),iV (d.at_.word)] F.sub (B.up (C.t P)) zaE zP Y<|Z Y<|zg F.sub (a4.up (T.t P)) zaE zP Y<|Z Y<|zQ Y (zgK Y Y zeX (Tryz.eq_Place d.at_ zfK))<|zi Y<|zt Y ?_;refine zaC (d:=31) Y (fun e1=>?_) (fun e1=>?_)
   ·refine Z Y<|U zI Y zac<|Z Y<|zw 6 [zae (d.to.stem),.int .u8 (d.to.mark)] F.sub (B.up (C.t P)) zbr zac Y<|Z Y<|zn F Y Tryz.call87 (zhm F.sub (hd:=d.to) zbq zdb)<|fun j8 j9 c6 b9 a0 e2=>?_;subst e2;refine zi Y<|zt Y ?_;refine zbp (d:=36) Y (fun e3=>?_) (fun e3=>?_)
    ·refine Z Y<|U zI Y zG<|Z Y<|M 8 a0.sub (B.up ((C.t P).t b9)) zO Y<|Z Y<|zeb Y Y Y<|zi Y<|zd Y<|zj<|zan<|zk zdq ?_;refine ⟨c6,_,Y,a0.done,?_⟩;refine zM ?_;simp_all[zaZ]
    refine zaf 3 Y<|zh Y<|zd Y<|zj<|zan<|zk zdq ?_;refine ⟨c6,_,Y,a0.done,?_⟩;refine zM ?_;simp_all[zaZ]
   refine zaf 3 Y<|zh Y<|zt Y<|zaf 3 Y<|zh Y<|zd Y<|zj<|zan<|zk zdq ?_;refine ⟨c5,_,Y,F.done,?_⟩;refine zM ?_;simp_all[zaZ]
  refine zaf 4 Y<|zh Y<|zt Y<|zaf 3 Y<|zh Y<|zt Y<|zaf 3 Y<|zh Y<|zd Y<|zj<|zan<|zk zdq ?_;refine ⟨c5,_,Y,F.done,?_⟩;refine zM ?_;simp_all[zaZ]
 refine zx<|zeb Y Y Y<|zd Y<|zb ?_;refine zS Y (fun e4=>?_) (fun e4=>?_)
 ·refine zx<|U zI Y zaj<|M 2 A.sub (B.up C) zaK Y<|zn A Y Tryz.call137 (zfE A.sub _ zbq)<|fun k0 k1 c7 a5 I e5=>?_;subst e5;refine zt Y ?_;refine zbp (d:=46) Y (fun e6=>?_) (fun e6=>?_)
  ·refine Z Y<|zt Y<|zi Y<|zt Y ?_;refine zbp (d:=49) Y (fun e7=>?_) (fun e7=>?_)
   ·refine Z Y<|U zI Y zac<|Z Y<|zw 6 [zae (d.to.stem),.int .u8 (d.to.mark)] I.sub (B.up (C.t a5)) zbr zac Y<|Z Y<|zn I Y Tryz.call87 (zhm I.sub (hd:=d.to) zbq zdb)<|fun k2 k3 c8 c0 a1 e8=>?_;subst e8;refine zi Y<|zt Y ?_;refine zbp (d:=54) Y (fun e9=>?_) (fun e9=>?_)
    ·refine Z Y<|U zI Y zG<|Z Y<|M 8 a1.sub (B.up ((C.t a5).t c0)) zO Y<|Z Y<|zeb Y Y Y<|zi Y<|zd Y<|zj<|zan<|zk zdq ?_;refine ⟨c8,_,Y,a1.done,?_⟩;refine zM ?_;simp_all[zaZ]
    refine zaf 3 Y<|zh Y<|zd Y<|zj<|zan<|zk zdq ?_;refine ⟨c8,_,Y,a1.done,?_⟩;refine zM ?_;simp_all[zaZ]
   refine zaf 3 Y<|zh Y<|zt Y<|zaf 3 Y<|zh Y<|zd Y<|zj<|zan<|zk zdq ?_;refine ⟨c7,_,Y,I.done,?_⟩;refine zM ?_;simp_all[zaZ]
  refine zaf 1 Y<|zh Y<|zt Y<|zaf 3 Y<|zh Y<|zt Y<|zaf 3 Y<|zh Y<|zd Y<|zj<|zan<|zk zdq ?_;refine ⟨c7,_,Y,I.done,?_⟩;refine zM ?_;simp_all[zaZ]
 refine zx<|zeb Y Y Y<|zd Y<|zb ?_;refine zS Y (fun g0=>?_) (fun g0=>?_)
 ·refine zx<|U zI Y zaj<|M 2 A.sub (B.up C) zaK Y<|ziO Y Y Y<|zt Y ?_;refine zaC (d:=64) Y (fun g1=>?_) (fun g1=>?_)
  ·refine Z Y<|zt Y<|zi Y<|zt Y ?_;refine zbp (d:=67) Y (fun g2=>?_) (fun g2=>?_)
   ·refine Z Y<|U zI Y zac<|Z Y<|zw 6 [zae (d.to.stem),.int .u8 (d.to.mark)] A.sub (B.up C) zbr zac Y<|Z Y<|zn A Y Tryz.call87 (zhm A.sub (hd:=d.to) zbq zdb)<|fun k4 k5 c9 c1 a2 g3=>?_;subst g3;refine zi Y<|zt Y ?_;refine zbp (d:=72) Y (fun g4=>?_) (fun g4=>?_)
    ·refine Z Y<|U zI Y zG<|Z Y<|M 8 a2.sub (B.up (C.t c1)) zO Y<|Z Y<|zeb Y Y Y<|zi Y<|zd Y<|zj<|zan<|zk zdq ?_;refine ⟨c9,_,Y,a2.done,?_⟩;refine zM ?_;simp_all[zaZ]
    refine zaf 3 Y<|zh Y<|zd Y<|zj<|zan<|zk zdq ?_;refine ⟨c9,_,Y,a2.done,?_⟩;refine zM ?_;simp_all[zaZ]
   refine zaf 3 Y<|zh Y<|zt Y<|zaf 3 Y<|zh Y<|zd Y<|zj<|zan<|zk zdq ?_;refine ⟨Q,_,Y,A.done,?_⟩;refine zM ?_;simp_all[zaZ]
  refine zaf 1 Y<|zh Y<|zt Y<|zaf 3 Y<|zh Y<|zt Y<|zaf 3 Y<|zh Y<|zd Y<|zj<|zan<|zk zdq ?_;refine ⟨Q,_,Y,A.done,?_⟩;refine zM ?_;simp_all[zaZ]
 refine zx<|zeb Y Y Y<|zd Y<|zb ?_;refine zS Y (fun g5=>?_) (fun g5=>?_)
 ·refine zx<|U zI Y zaj<|M 2 A.sub (B.up C) zaK Y<|ziO Y Y Y<|zt Y ?_;refine zaC (d:=82) Y (fun g6=>?_) (fun g6=>?_)
  ·refine Z Y<|U zI Y zP<|Z Y<|zw 3 [iV (d.at_.chapter),iV (d.at_.line),iV (d.at_.word)] A.sub (B.up C) zaE zP Y<|Z Y<|zg A.sub (a4.up T) zaE zP Y<|Z Y<|zQ Y (zgK Y Y zeX (Tryz.eq_Place d.at_ zfK))<|zi Y<|zt Y ?_;refine zaC (d:=88) Y (fun g7=>?_) (fun g7=>?_)
   ·refine Z Y<|U zI Y zac<|Z Y<|zw 6 [zae (d.to.stem),.int .u8 (d.to.mark)] A.sub (B.up C) zbr zac Y<|Z Y<|zg A.sub b8 zbr zac Y<|Z Y<|zQ Y (zgK Y Y zeY (Tryz.eq_Head d.to zhb))<|zi Y<|zt Y ?_;refine zaC (d:=94) Y (fun g8=>?_) (fun g8=>?_)
    ·refine Z Y<|U zI Y zG<|Z Y<|M 8 A.sub (B.up C) zO Y<|Z Y<|U zI Y zG<|Z Y<|M 0 A.sub (B.up C) zO Y<|Z Y<|zfG Y Y zaS Y<|Z Y<|zn A Y Tryz.call138 (zfN A.sub _ _ _)<|fun k6 k7 g9 h1 c2 h0=>?_;subst h0;refine zi Y<|zd Y<|zj<|zan<|zk zdq ?_;refine ⟨g9,_,Y,c2.done,?_⟩;refine zM ?_;simp_all[zaZ]
    refine zaf 6 Y<|zh Y<|zd Y<|zj<|zan<|zk zdq ?_;refine ⟨Q,_,Y,A.done,?_⟩;refine zM ?_;simp_all[zaZ]
   refine zaf 4 Y<|zh Y<|zt Y<|zaf 6 Y<|zh Y<|zd Y<|zj<|zan<|zk zdq ?_;refine ⟨Q,_,Y,A.done,?_⟩;refine zM ?_;simp_all[zaZ]
  refine zaf 4 Y<|zh Y<|zt Y<|zaf 4 Y<|zh Y<|zt Y<|zaf 6 Y<|zh Y<|zd Y<|zj<|zan<|zk zdq ?_;refine ⟨Q,_,Y,A.done,?_⟩;refine zM ?_;simp_all[zaZ]
 refine zbj<|zeT<|zz<|zx<|zd Y<|zj<|zk zdq ?_;refine ⟨Q,_,Y,A.done,?_⟩;refine zM ?_;simp_all[zaZ]
theorem znd (hs:Sub h w) {t:Text} (t_f0:Sl zax h t_v0 t.chapters) (x_f0:Sl zcS h x_v0 x.rules) (x_f1:Sl zau h x_v1 x.decisions):Calls Tryz.prog 107 #[.agg #[t_v0],.agg #[x_v0,x_v1]] w (zbe h w (fun _ _ res_=>res_=.bool (zdm t x))):=by
 refine zl 65 Tryz.func107 Y<|have d7:=zbM hs;have c7:=t_f0.le;have c8:=x_f0.le;have c9:=x_f1.le;zx<|ze [t_v0] d7 Y<|fun b1 w2 h3 d8 d9 e0=>ze [x_v0,x_v1] e0 Y<|fun b7 w8 h9 a1 A H=>zd Y<|zb<|zat<|U zaY Y zdR<|M 0 H.sub A zeO Y<|have a8:=d8.t a1;zK (x_f0.up a8) zcm Y<|zfe Y Y Y<|zt Y ?_;refine zaC (d:=12) Y (fun d0=>?_) (fun d0=>?_)
 ·refine zaf 4 Y<|zi Y<|zb ?_;refine zap Y (fun d1=>?_) (fun d1=>?_)
  ·refine zx<|zd Y<|zj<|zJ<|zk zix ?_;refine ⟨h9,_,Y,H.done,?_⟩;refine zM ?_;have q:=d0;simp[zdm]
   intros
   omega
  cases d1
 refine Z Y<|U zaY Y zdp<|Z Y<|M 1 H.sub A zei Y<|Z Y<|zK (x_f1.up a8) zbg Y<|Z Y<|zfe Y Y Y<|zh Y<|zb ?_;refine zS Y (fun d2=>?_) (fun d2=>?_)
 ·refine zx<|zd Y<|zj<|zJ<|zk zix ?_;refine ⟨h9,_,Y,H.done,?_⟩;refine zM ?_;have q:=d2;simp[zdm]
  intros
  omega
 refine zaN<|zx<|zc Y<|zb<|zT ?_;refine zaM ([4,5]++zcp 18 14) (G:=Nat×Heap) (fun ⟨i,L⟩=>[(5,iV (i:Int))]) (fun ⟨i,L⟩ w'=>Le h9 L∧St h w L w' []∧(i≤x.rules.length)∧((x.rules.take i).all ziH=true)) (fun ⟨i,L⟩=>x.rules.length-i) ⟨0,h9⟩ ⟨rfl,trivial⟩ ⟨Le.refl _,H,zbm,zbm⟩ ?_;rintro ⟨i,L⟩ _ g1 ⟨B,C,hi,hR⟩;refine zat<|za Y<|U zaY Y zdR<|M 0 C.sub (A.up B) zeO Y<|have a9:=a8.t B;zK (x_f0.up a9) zcm Y<|zN Y<|zb ?_;refine zS Y (fun e1=>?_) (fun e1=>?_)
 ·refine zaN<|zT<|zx<|U zaY Y zdR<|M 0 C.sub (A.up B) zeO Y<|za Y ?_;obtain ⟨r,hr⟩:∃ y_,(x.rules)[i]?=some y_:=zch zU;obtain ⟨g2,g3,_,b4,b5,hr_r⟩:=Sl.elem (x_f0.up a9) hr;obtain ⟨rfl,b6,b8⟩:=hr_r;simp only[big] at b6;simp only[big] at b8;refine zL b4 zcm zdX Y<|zg C.sub b5 zjd zdX Y<|zn C Y Tryz.call161 (zpd C.sub (r:=r) zbq zbq)<|fun g4 g5 d3 b9 a2 e2=>?_;subst e2;refine zcq Y Y<|zb ?_;refine zap Y (fun b0=>?_) (fun b0=>?_)
  ·refine zx<|zd Y<|zj<|zan<|zJ<|zan<|zk zix ?_;refine ⟨d3,_,Y,a2.done,?_⟩;refine zM ?_;have q:=zcO (p:=ziH) hr (by simpa using b0);simp[zdm,q]
  refine zbj<|zaF<|za Y<|zy Y zaS<|zc Y<|zb ?_;refine ⟨⟨i+1,d3⟩,⟨rfl,trivial⟩,?_,⟨(B.t b9),a2,?_,?_⟩,?_⟩
  ·exact zaR
  ·first|omega|(simp;omega)
  ·exact zcY hR hr (by simpa using b0)
  show x.rules.length-((i+1))<x.rules.length-i;omega
 refine zcC<|zz<|zat<|zc Y<|zb<|zT ?_;refine zaM ([4,6,7]++zcp 32 33) (G:=Nat×Heap) (fun ⟨i,P⟩=>[(6,iV (i:Int))]) (fun ⟨i,P⟩ w'=>Le L P∧St h w P w' []∧(i≤x.decisions.length)∧((x.decisions.take i).all (zaZ t)=true)∧(((x.decisions.take i).map (·.number)).Nodup)) (fun ⟨i,P⟩=>x.decisions.length-i) ⟨0,L⟩ ⟨rfl,trivial⟩ ⟨Le.refl _,C,zbm,zbm,zbm⟩ ?_;rintro ⟨i,P⟩ _ g6 ⟨F,S,hi,hD,hN⟩;refine zat<|za Y<|U zaY Y zdp<|M 1 S.sub (A.up (B.t F)) zei Y<|have a7:=a9.t F;zK (x_f1.up a7) zbg Y<|zN Y<|zb ?_;refine zS Y (fun e3=>?_) (fun e3=>?_)
 ·refine zaN<|zT<|zaH<|zaH<|zbZ Tryz.mixed zbL (Cls P _) (Cls.drew S)<|zp Y (fun _ hC=>(zW hC.sub (d9.up ((a1.t B).t F)) Y zaG zab Y))<|zD zaY Y zdp<|zp Y (fun _ hC=>(zX (j:=1) hC.sub (A.up (B.t F)) Y Y Y zei))<|zcW Y Y ?_;obtain ⟨d,hd⟩:∃ y_,(x.decisions)[i]?=some y_:=zch zU;obtain ⟨g7,g8,_,a3,a4,hr_d⟩:=Sl.elem (x_f1.up a7) hd;obtain ⟨rfl,e7,c0,c1,e8⟩:=hr_d;simp only[big] at c0;simp only[big] at c1;refine zaq a3 zbg zas Y<|zp Y (fun _ hC=>(zW hC.sub a4 Y zbB zas Y))<|zcl Y Y (fun _=>zbJ Y Tryz.call162 Y) (fun _ hC=>zbe.quiet hC (zmL hC.sub (t:=t) (t_f0.up a7) (d:=d) zdb zbq zbq zdb))<|zmc Y Y<|zbl ?_;rintro g9 ⟨b2,T⟩;have a5:=S.call0 T;refine zz ?_;refine zap Y (fun b3=>?_) (fun b3=>?_)
  ·refine zx<|zd Y<|zj<|zJ<|zan<|zJ<|zan<|zk zix ?_;refine ⟨b2,_,Y,a5.done,?_⟩;refine zM ?_;have q:=zcO (p:=zaZ t) hd (by simpa using b3);simp[zdm,q]
  refine zdF<|zx<|zc Y<|zb<|zT ?_;refine zaM ([4,7]++zcp 47 18) (G:=Nat×Heap) (fun ⟨k,Q⟩=>[(7,iV (k:Int))]) (fun ⟨k,Q⟩ w'=>Le b2 Q∧St h w Q w' []∧(k≤i)∧(∀ j c2,j<k→x.decisions[j]?=some c2→c2.number≠d.number)) (fun ⟨k,Q⟩=>i-k) ⟨0,b2⟩ ⟨rfl,trivial⟩ ⟨Le.refl _,a5,zbm,(by intro j _ hj;omega)⟩ ?_;rintro ⟨k,Q⟩ _ h0 ⟨I,a0,hk,hq⟩;refine zat<|za Y<|za Y<|zN Y<|zb ?_;refine zS Y (fun e4=>?_) (fun e4=>?_)
  ·refine zaN<|zT<|zaH<|zbZ Tryz.mixed zbL (Cls Q _) (Cls.drew a0)<|zD zaY Y zdp<|have d4:=((B.t F).trans T.le).t I;zp Y (fun _ hC=>(zX (j:=1) hC.sub (A.up d4) Y Y Y zei))<|zcW Y Y ?_;obtain ⟨e,he⟩:∃ y_,(x.decisions)[k]?=some y_:=zch zU;have e5:=(a7.trans T.le).t I;obtain ⟨h4,h5,_,c3,c4,hr_e⟩:=Sl.elem (x_f1.up e5) he;obtain ⟨rfl,e9,c5,c6,g0⟩:=hr_e;simp only[big] at c5;simp only[big] at c6;refine zaq c3 zbg zas Y<|zD zI Y zG<|zp Y (fun _ hC=>(zX (j:=0) hC.sub c4 Y Y Y zO))<|zD zaY Y zdp<|zp Y (fun _ hC=>(zX (j:=1) hC.sub (A.up d4) Y Y Y zei))<|zcW Y Y<|zaq a3 zbg zas Y<|zD zI Y zG<|zp Y (fun _ hC=>(zX (j:=0) hC.sub (a4.up (T.le.t I)) Y Y Y zO))<|znl Y Y Y<|zbl ?_;rintro h6 ⟨d5,d6⟩;have a6:=a0.call0 d6;refine zz ?_;refine zS Y (fun e6=>?_) (fun e6=>?_)
   ·refine zx<|zd Y<|zj<|zan<|zJ<|zeJ<|zan<|zJ<|zan<|zk zix ?_;refine ⟨d5,_,Y,a6.done,?_⟩;refine zM ?_;have q:=zmd (f:=(·.number)) he hd zU (by assumption);simp[zdm,q]
   refine zbj<|zaF<|za Y<|zy Y zaS<|zc Y<|zb ?_;refine ⟨⟨k+1,d5⟩,⟨rfl,trivial⟩,?_,⟨(I.trans d6.le),a6,?_,?_⟩,?_⟩
   ·exact zaR
   ·first|omega|(simp;omega)
   ·intro j c2 h1 h2
    rcases Nat.lt_or_ge j k with h3|h3
    ·exact hq j c2 h3 h2
    ·obtain rfl:j=k:=by omega
     rw[h2] at he;cases he;assumption
   show i-((k+1))<i-k;omega
  refine zcC<|zaF<|za Y<|zy Y zaS<|zc Y<|zb ?_;have HD:zaZ t d=true:=by simpa using b3
  refine ⟨⟨i+1,Q⟩,⟨rfl,trivial⟩,?_,⟨((F.trans T.le).t I),a0,?_,?_,?_⟩,?_⟩
  ·exact zaR
  ·first|omega|(simp;omega)
  ·exact zcY hD hd HD
  ·exact zmY hN hd zU (fun j c2 h1 h2=>hq j c2 zU h2)
  show x.decisions.length-((i+1))<x.decisions.length-i;omega
 refine zcC<|zz<|zx<|zd Y<|zj<|zk zix ?_;refine ⟨P,_,Y,S.done,?_⟩;refine zM ?_;have q1:=zcs hR zU;have q2:=zcs hD zU;have q3:x.decisions.take i=x.decisions:=List.take_of_length_le zU;rw[q3] at hN;simp[zdm,q1,q2,hN];omega
theorem ziF (hs:Sub h w) {t:Text} (t_f0:Sl zax h t_v0 t.chapters) (x_f0:Sl zcS h x_v0 x.rules) (x_f1:Sl zau h x_v1 x.decisions):Calls Tryz.prog 53 #[.agg #[t_v0],.agg #[x_v0,x_v1]] w (zbe h w (fun _ _ res_=>res_=iV (zbG t x))):=by
 refine zl 15 Tryz.func53 Y<|have a2:=zbM hs;have T:=t_f0.le;have a0:=x_f0.le;have a1:=x_f1.le;zx<|ze [t_v0] a2 Y<|fun b1 w2 h3 a3 L a4=>ze [x_v0,x_v1] a4 Y<|fun b7 w8 h9 B P C=>zc Y<|zb<|zat<|zg C.sub (L.up B) zaG zab Y<|have Q:=a3.t B;zn C Y Tryz.call106 (zkJ C.sub (t:=t) (t_f0.up Q))<|fun b2 b3 a5 F A a6=>?_;subst a6;refine zc Y<|zb<|zx<|za Y<|zao Y<|zb ?_;refine zS Y (fun a7=>?_) (fun a7=>?_)
 ·refine zx<|za Y<|zc Y<|zj<|zJ<|zk Tryz.results53 ?_;refine ⟨a5,_,Y,A.done,?_⟩;refine zaB ?_;simp_all[zbG]
 refine zaN<|zx<|zg A.sub (L.up (B.t F)) zaG zab Y<|zg A.sub (P.up F) zcG zbv Y<|have I:=Q.t F;zn A Y Tryz.call107 (znd A.sub (t:=t) (t_f0.up I) (x:=x) (x_f0.up I) (x_f1.up I))<|fun b4 b5 S b0 H a8=>?_;subst a8;refine zcq Y Y<|zb ?_;refine zap Y (fun a9=>?_) (fun a9=>?_)
 ·refine zx<|zc Y<|zj<|zJ<|zk Tryz.results53 ?_;refine ⟨S,_,Y,H.done,?_⟩;refine zaB ?_;simp_all[zbG]
 refine zdF<|zx<|zc Y<|zj<|zk Tryz.results53 ?_;refine ⟨S,_,Y,H.done,?_⟩;refine zaB ?_;simp_all[zbG]
theorem zpe (hs:Sub h w) (r_l1:r.cut.length≤281474976710656) (r_l2:r.put.length≤281474976710656) (word:Str) (word_le:word.length≤281474976710656) (hr1:1≤r.least):Calls Tryz.prog 235 #[.agg #[zae r.cut,zae r.put,iV r.least],zae word] w (zbe h w (fun _ _ res_=>res_=.tuple #[zae ((zhN r word).getD []),.bool ((zhN r word).isSome)])):=by
 refine zl 39 Tryz.func235 Y<|have a1:=zbM hs;zx<|ze [zae (r.cut),zae (r.put),iV (r.least)] a1 Y<|fun b1 w2 h3 a8 A B=>zff Y Y<|zd Y<|zb<|zx<|zdc Y Y<|zdG Y zbx Y<|U zcg Y zaj<|M 0 B.sub A zaK Y<|zdG Y zbx Y<|zfG Y Y zaS Y<|zc Y<|zb<|zaH<|zaH<|zbZ Tryz.mixed zbL (Cls h3 _) (Cls.drew B)<|zcW Y Y<|zD zcg Y zG<|zp Y (fun _ hC=>(zX (j:=2) hC.sub A Y Y Y zO))<|zBU Y Y Y<|zdl Y Y ?_;refine zeI (d:=17) Y (fun g7=>?_) (fun g7=>?_)
 ·refine zbT 6 Y<|zaw Y<|zdl Y Y<|zbT 6 Y<|zaw Y<|zbl ?_;rintro w8 ⟨h9,a2⟩;have F:=B.call0 a2;refine zz ?_;refine zap Y (fun H=>?_) (fun H=>?_)
  ·refine zx<|zff Y Y<|zd Y<|zj<|zJ<|zbs Tryz.results235 ?_;have q:zhN r word=none:=by
    unfold zhN;rw[if_neg];rintro ⟨q1,q2,I,q4⟩
    first|omega|exact absurd I (by assumption)
   refine ⟨h9,_,Y,F.done,?_⟩;refine zdz (zfa ?_) (zM ?_)
   all_goals simp[q]
  cases H
 refine zf Y<|zzn Y Y<|zf Y<|zcW Y Y<|zf Y ?_;refine zbU rfl rfl (fun _ _=>(zpE rfl rfl (hk:=(show _=((word.length-r.cut.length:Nat):Int) by omega)) (hle:=by omega) (hu:=zbx))) ?_;refine zf Y<|zD zcg Y zaj<|zf Y<|zp Y (fun _ hC=>(zX (j:=0) hC.sub A Y Y Y zaK))<|zf Y<|zp Y (fun _ _=>(zkz Y Y))<|zZ Y<|zdl Y Y ?_;refine zeI (d:=25) Y (fun L=>?_) (fun L=>?_)
 ·refine zbT 6 Y<|zaw Y<|zbl ?_;rintro a9 ⟨a3,a4⟩;have P:=B.call0 a4;refine zz ?_;refine zap Y (fun Q=>?_) (fun Q=>?_)
  ·refine zx<|zff Y Y<|zd Y<|zj<|zJ<|zbs Tryz.results235 ?_;have q:zhN r word=none:=by
    unfold zhN;rw[if_neg];rintro ⟨q1,q2,I,q4⟩
    first|omega|exact absurd I (by assumption)
   refine ⟨a3,_,Y,P.done,?_⟩;refine zdz (zfa ?_) (zM ?_)
   all_goals simp[q]
  cases Q
 refine zf Y<|zcW Y Y<|zf Y<|zD zcg Y zaj<|zf Y<|zp Y (fun _ hC=>(zX (j:=1) hC.sub A Y Y Y zaK))<|zf Y<|zyl Y zbx Y<|zf Y<|zzo Y Y zaS Y<|zf Y<|zBV Y Y Y<|zZ Y<|zbl ?_;rintro b0 ⟨S,T⟩;have C:=B.call0 T;refine zz ?_;refine zS Y (fun a5=>?_) (fun a5=>?_)
 ·refine zx<|zff Y Y<|zd Y<|zj<|zJ<|zbs Tryz.results235 ?_;have q:zhN r word=none:=by
   unfold zhN;rw[if_neg];rintro ⟨q1,q2,I,q4⟩
   first|omega|exact absurd I (by assumption)
  refine ⟨S,_,Y,C.done,?_⟩;refine zdz (zfa ?_) (zM ?_)
  all_goals simp[q]
 refine zaN<|zbZ Tryz.mixed zbL (Cls S _) (Cls.drew C)<|zzn Y Y<|zcW Y Y ?_;refine zbU rfl rfl (fun _ _=>(zsk rfl rfl (hk:=(show _=((word.length-r.cut.length:Nat):Int) by omega)) (hle:=by omega) (hu:=zbx))) ?_;refine zD zcg Y zaj<|zp Y (fun _ hC=>(zX (j:=1) hC.sub (A.up T.le) Y Y Y zaK))<|zp Y (fun _ _=>(zzJ Y Y zaS))<|zvF Y Y<|zjS Y Y<|zbl ?_;rintro b2 ⟨a6,a7⟩;have a0:=C.call0 a7;refine zz<|zfS<|zbs Tryz.results235 ?_;have q:zhN r word=some (word.take (word.length-r.cut.length)++r.put):=by
  unfold zhN;rw[if_pos ⟨by omega,by omega,by simpa using L,by omega⟩]
 refine ⟨a6,_,Y,a0.done,?_⟩;refine zdz (zfa ?_) (zM ?_)
 all_goals simp[q]
theorem zon (hs:Sub h w) (x_f0:Sl zcS h x_v0 x.rules) (x_f1:Sl zau h x_v1 x.decisions) (word:Str) (word_le:word.length≤281474976710656) (hx:∀ r∈x.rules,1≤r.least) (hw:word.length≤12):Calls Tryz.prog 188 #[.agg #[x_v0,x_v1],zae word] w (zbe h w (fun h' _ res_=>∃ u0,res_=u0∧Sl zcn h' u0 (zec x.rules 4 word))):=by
 refine zl 49 Tryz.func188 Y<|have c9:=zbM hs;have c2:=x_f0.le;have c3:=x_f1.le;zx<|ze [x_v0,x_v1] c9 Y<|fun b1 w2 h3 d0 c4 d1=>zcP Y Y<|zb<|zx<|zdc Y Y<|znQ (L:=zcn) (xs:=[word]) (cs:=[zae word]) d1 (Enc.cons (L:=zcn) (vs:=[zae word]) (x:=word) (h:=h3) (⟨rfl,zbq⟩) Enc.nil) Y Y Y zC Tryz.info9 Y Y Y Y zbL<|fun v7 d2 w8 f9 a9=>zH v7 Y<|zb<|zat<|zc Y<|zb<|zT ?_;refine zaM (zcp 5 6++zcp 13 35) (G:=Nat×List Str×Str×Value×List (Nat×Obj)×Heap) (fun ⟨turn,ini,la,A,C,F⟩=>[(5,A),(6,iV (turn:Int))]) (fun ⟨turn,ini,la,A,C,F⟩ w'=>Le h3 F∧St h w F w' [C]∧(OSl zcn 9 F A (ini++[la]) C)∧(turn≤4)∧(ini.length=turn)∧(la.length≤12)∧(zec x.rules 4 word=ini++zec x.rules (4-turn) la)) (fun ⟨turn,ini,la,A,C,F⟩=>4-turn) ⟨0,[],word,v7,d2,h3⟩ ⟨rfl,rfl,trivial⟩ ⟨Le.refl _,a9,(OSl.to f9 (by rfl)),zbm,zbm,zbm,(by rfl)⟩ ?_;rintro ⟨turn,ini,la,A,C,F⟩ _ e5 ⟨Q,T,B,ht,hn,hla,hq⟩;refine zat<|za Y<|zN Y<|zb ?_;refine zS Y (fun d3=>?_) (fun d3=>?_)
 ·refine zaN<|zT<|zx<|zff Y Y<|zb<|zat<|U zaY Y zdR<|M 0 T.sub (c4.up Q) zeO Y<|have c5:=d0.t Q;zK (x_f0.up c5) zcm Y<|zfG Y Y zaS Y<|zc Y<|zb<|zT ?_;refine zaM ([5,7,8,9,10]++zcp 21 21) (G:=Nat×Str×Value×List (Nat×Obj)×Heap) (fun ⟨m,nx,A,C,H⟩=>[(5,A),(7,zae nx),(8,iV ((m:Int)-1))]) (fun ⟨m,nx,A,C,H⟩ w'=>Le F H∧St h w H w' [C]∧(OSl zcn 9 H A (ini++[la]) C)∧(m≤x.rules.length)∧(nx.length≤12)∧(nx=(zgp (x.rules.drop m) la).getD [])) (fun ⟨m,nx,A,C,H⟩=>m) ⟨x.rules.length,[],A,C,F⟩ ⟨rfl,rfl,rfl,trivial⟩ ⟨Le.refl _,T,(OSl.to B (by rfl)),zbm,zbm,(by simp[zgp])⟩ ?_;rintro ⟨m,nx,A,C,H⟩ _ e6 ⟨I,P,B,hm,hl,hnx⟩;refine zat<|za Y<|zkU Y Y Y<|zb ?_;refine zS Y (fun d4=>?_) (fun d4=>?_)
  ·refine zaN<|zT<|zaH<|zbZ Tryz.mixed zbL (Cls H _) (Cls.drew P)<|zD zaY Y zdR<|zp Y (fun _ hC=>(zX (j:=0) hC.sub (c4.up (Q.t I)) Y Y Y zeO))<|zcW Y Y ?_;obtain ⟨r,hr⟩:∃ y_,(x.rules)[m-1]?=some y_:=zch zU;have d5:=c5.t I;obtain ⟨e7,e8,_,b0,b2,hr_r⟩:=Sl.elem (x_f0.up d5) hr;obtain ⟨rfl,b3,b4⟩:=hr_r;simp only[big] at b3;simp only[big] at b4;refine zbU rfl rfl (fun _ _=>(zbz b0 rfl rfl (hk:=(show _=((m-1:Nat):Int) by omega)) (hu:=zcm) (hz:=zdX))) ?_;refine zp Y (fun _ hC=>(zW hC.sub b2 Y zjd zdX Y))<|zbc A Y<|zbc A Y<|zym B Y zC Y<|zkV Y Y zaS Y ?_;obtain ⟨S,a1⟩:∃ y_,(ini++[la])[(ini++[la]).length-1]?=some y_:=zch (by simp);obtain ⟨c6,e9,a0,_,d6,b5,a2,b6⟩:=OSl.elem B a1;subst d6;obtain ⟨rfl,b7⟩:=a2;simp only[big] at b7;refine zbU rfl rfl (fun _ _=>(zbz b5 rfl rfl (hk:=(show _=(((ini++[la]).length-1:Nat):Int) by simp)) (hu:=zC) (hz:=zaj))) ?_;refine zp Y (fun _ hC=>(zgi (j:=0) (hC.block (P.get (k:=0) Y)) b6 Y Y Y zaK)) ?_;refine zcl rfl rfl (fun _=>zbJ rfl Tryz.call235 rfl) (fun _ hC=>zbe.quiet hC (zpe hC.sub (r:=r) zbq zbq _ zbq (by exact hx r (List.mem_of_getElem? hr)))) ?_;refine zBS Y Y<|znR (v:=(zae _)) Y Y Y<|znR (v:=(.bool _)) Y Y Y<|zvF Y Y<|zjS Y Y<|zbl ?_;rintro g0 ⟨c7,a3⟩;have a4:=P.call0 a3;refine zz<|zx<|zt Y<|zb ?_;refine zap Y (fun a6=>?_) (fun a6=>?_)
   ·refine zag<|zdc Y Y<|zff Y Y<|zB<|zaF<|za Y<|zfG Y Y zaS Y<|zc Y<|zb ?_;have hE:S=la:=by simpa using a1.symm
    have hD:=zhA hr;rw[show m-1+1=m by omega] at hD;have hC:=a6;refine ⟨⟨m-1,(zhN r S).getD [],A,[(c6,.cells a0 9)],c7⟩,⟨rfl,Y,?_,trivial⟩,?_,⟨(I.trans a3.le),a4,?_,?_,?_,?_⟩,?_⟩
    ·exact zaB zU
    ·exact zaR
    ·refine OSl.to (B.up a3.le) ?_;rfl
    ·first|omega|(simp;omega)
    ·cases e:zhN r S with
     | none=>simp
     | some q=>simpa using zsv e
    ·rw[hD,zno,← hE];cases e:zhN r S with
     | none=>simp[e] at hC
     | some q=>simp
    show ((m-1))<m;omega
   refine zbj<|zaF<|za Y<|zfG Y Y zaS Y<|zc Y<|zb ?_;have hE:S=la:=by simpa using a1.symm
   have hD:=zhA hr;rw[show m-1+1=m by omega] at hD;have hC:=a6;refine ⟨⟨m-1,nx,A,[(c6,.cells a0 9)],c7⟩,⟨rfl,Y,?_,trivial⟩,?_,⟨(I.trans a3.le),a4,?_,?_,?_,?_⟩,?_⟩
   ·exact zaB zU
   ·exact zaR
   ·refine OSl.to (B.up a3.le) ?_;rfl
   ·first|omega|(simp;omega)
   ·first|omega|(simp;omega)
   ·rw[hD,zno,← hE];cases e:zhN r S with
    | none=>simpa [hE] using hnx
    | some q=>simp[e] at hC
   show ((m-1))<m;omega
  refine zcC<|zz<|zat<|zdc Y Y<|ziO Y Y Y<|zb ?_;refine zS Y (fun a7=>?_) (fun a7=>?_)
  ·refine zhq<|zcV<|zim Y<|zcV<|zcV<|zgg<|zz<|zx<|zq A Y<|zH A Y<|zj<|zk Tryz.results188 ?_;obtain ⟨d7,e3,f45,b8⟩:=OSl.freeze (k:=0) P B rfl zaS;refine ⟨d7,_,Y,b8.done,?_⟩;refine ⟨_,Y,Sl.to f45 ?_⟩;have a8:m=0:=by omega
   subst a8;have d8:zgp x.rules la=none:=by
    cases e:zgp x.rules la with
    | none=>rfl
    | some q=>simp[e] at hnx;exact absurd (hnx.symm.trans a7) (zwV hx e)
   rw[hq,zqX d8]
  refine zdF<|zag<|zq A Y<|zdc Y Y<|zA zcn [nx] [zae nx] P (Enc.cons (L:=zcn) (vs:=[zae nx]) (x:=nx) (h:=H) (⟨rfl,zbq⟩) Enc.nil) Y zC Tryz.info9 zbL<|fun g1 g2 d9 a5 f49 b9=>?_;refine zaO (k:=0) (nb:=16) b9 (B.up a5) rfl f49 rfl rfl rfl zC Tryz.info9 rfl rfl rfl (by decide) rfl zaS zaS ?_;intro c8 e0 g3 _ e1 f57 c0;subst e1;refine zH c8 Y<|zB<|zaF<|za Y<|zy Y zaS<|zc Y<|zb ?_;have HS:zgp x.rules la=some nx:=by
   have a8:m=0:=by omega
   subst a8;cases e:zgp x.rules la with
   | none=>simp[e] at hnx;exact absurd hnx a7
   | some q=>simp[e] at hnx;rw[hnx]
  refine ⟨⟨turn+1,ini++[la],nx,c8,e0,d9⟩,⟨rfl,Y,trivial⟩,?_,⟨((Q.t I).t a5),c0,?_,?_,?_,?_,?_⟩,?_⟩
  ·exact zaR
  ·refine OSl.to f57 ?_;rfl
  ·first|omega|(simp;omega)
  ·first|omega|(simp;omega)
  ·first|omega|(simp;omega)
  ·rw[hq,zqW (show 4-turn=(4-(turn+1))+1 by omega) HS];simp
  show 4-((turn+1))<4-turn;omega
 refine zcC<|zz<|zx<|zq A Y<|zH A Y<|zj<|zk Tryz.results188 ?_;obtain ⟨e2,e4,f61,c1⟩:=OSl.freeze (k:=0) T B rfl zaS;refine ⟨e2,_,Y,c1.done,?_⟩;refine ⟨_,Y,Sl.to f61 ?_⟩;rw[hq,show 4-turn=0 by omega];rfl
theorem znF:∀ (n_:Nat) {h:Heap} {w:World} (hs:Sub h w) {x:Lexicon} {x_v0:Value} (x_f0:Sl zcS h x_v0 x.rules) {x_v1:Value} (x_f1:Sl zau h x_v1 x.decisions) {d:Decision} (d_l2:0≤d.kind∧d.kind≤255) (d_l3:d.form.length≤281474976710656) (d_l7:d.to.stem.length≤281474976710656) (d_l8:0≤d.to.mark∧d.to.mark≤255) (hv:∀ v∈x.decisions,v.number≤999∧(v.kind=4→v.of_<v.number)) (hn:999<d.number+n_),Calls Tryz.prog 187 #[.agg #[x_v0,x_v1],.agg #[iV d.number,.int .u8 d.kind,zae d.form,iV d.at_.chapter,iV d.at_.line,iV d.at_.word,zae d.to.stem,.int .u8 d.to.mark,iV d.of_]] w (zbe h w (fun _ _ res_=>res_=.bool (zgT x n_ d))):=by
 intro n_
 induction n_ using Nat.strongRecOn with
 | _ n_ ih_=>
 intro h w hs x x_v0 x_f0 x_v1 x_f1 d d_l2 d_l3 d_l7 d_l8 hv hn;refine zl 34 Tryz.func187 Y<|have c2:=zbM hs;have b2:=x_f0.le;have b3:=x_f1.le;zx<|ze [x_v0,x_v1] c2 Y<|fun b1 w2 h3 c3 S c4=>ze [iV (d.number),.int .u8 (d.kind),zae (d.form),iV (d.at_.chapter),iV (d.at_.line),iV (d.at_.word),zae (d.to.stem),.int .u8 (d.to.mark),iV (d.of_)] c4 Y<|fun b7 w8 h9 H a1 a2=>zd Y<|zb<|zat<|zc Y<|zb<|zT ?_;refine zaM (zcp 4 30) (G:=Nat×Heap) (fun ⟨i,I⟩=>[(5,iV (i:Int))]) (fun ⟨i,I⟩ w'=>Le h9 I∧St h w I w' []∧(i≤x.decisions.length)∧((x.decisions.take i).all (zni x n_ d)=true)) (fun ⟨i,I⟩=>x.decisions.length-i) ⟨0,h9⟩ ⟨rfl,trivial⟩ ⟨Le.refl _,a2,zbm,zbm⟩ ?_;rintro ⟨i,I⟩ _ d0 ⟨B,F,hi,hA⟩;refine zat<|za Y<|U zaY Y zdp<|M 1 F.sub (S.up (H.t B)) zei Y<|have T:=(c3.t H).t B;zK (x_f1.up T) zbg Y<|zN Y<|zb ?_;refine zS Y (fun c5=>?_) (fun c5=>?_)
 ·refine zaN<|zT<|zx<|U zaY Y zdp<|M 1 F.sub (S.up (H.t B)) zei Y<|za Y ?_;obtain ⟨v1,L⟩:∃ y_,(x.decisions)[i]?=some y_:=zch zU;obtain ⟨d1,d2,_,a3,a4,a0⟩:=Sl.elem (x_f1.up T) L;obtain ⟨rfl,c8,a5,a6,c9⟩:=a0;simp only[big] at a5;simp only[big] at a6;refine zL a3 zbg zas Y<|zg F.sub a4 zbB zas Y<|zad F zdg Y Y<|fun d3 d4 a7=>zo 0 a7 Y zas<|fun d5 a8=>?_;obtain ⟨b4,C,a9,A⟩:=a8.freeze (k:=0) rfl;have P:=zay.of a9;refine zb<|zx<|U zI Y zbn<|M 1 A.sub P zbO Y<|zeb Y Y Y<|zt Y ?_;refine zaC (d:=22) Y (fun b5=>?_) (fun b5=>?_)
  ·refine Z Y<|U zI Y zG<|Z Y<|M 8 A.sub P zO Y<|Z Y<|U zI Y zG<|Z Y<|M 0 A.sub (a1.up (B.t C)) zO Y<|Z Y<|zeb Y Y Y<|zi Y<|zt Y ?_;refine zaC (d:=29) Y (fun b6=>?_) (fun b6=>?_)
   ·refine Z Y<|zg A.sub (S.up ((H.t B).t C)) zcG zbv Y<|Z Y<|zg A.sub P zbB zas Y<|Z Y ?_;have q1:=hv v1 (List.mem_of_getElem? L);have q2:=q1.2 b5;have q3:=b6;have b8:=T.t C;refine zaD A rfl rfl rfl Tryz.call187 rfl (ih_ (n_-1) zU A.sub (x:=x) (x_f0.up b8) (x_f1.up b8) (d:=v1) zdb zbq zbq zdb (by exact hv) zU) ?_;intro d6 d7 b9 b0 Q c6;subst c6;refine zi Y<|zb ?_;refine zap Y (fun c7=>?_) (fun c7=>?_)
    ·refine zx<|zd Y<|zj<|zan<|zJ<|zan<|zk Tryz.results187 ?_;rw[zkX hv hn];refine ⟨b9,_,Y,Q.done,?_⟩;refine zM ?_;exact (zcO L (by simp_all[zni])).symm
    refine zbj<|zaF<|za Y<|zy Y zaS<|zc Y<|zb ?_;refine ⟨⟨i+1,b9⟩,⟨rfl,trivial⟩,?_,⟨((B.t C).t b0),Q.take 0,?_,?_⟩,?_⟩
    ·exact zaR
    ·first|omega|(simp;omega)
    ·exact zcY hA L (by simp_all[zni])
    show x.decisions.length-((i+1))<x.decisions.length-i;omega
   refine zaf 3 Y<|zh Y<|zb ?_;refine zap Y (fun c0=>?_) (fun c0=>?_)
   ·cases c0
   refine zbj<|zaF<|za Y<|zy Y zaS<|zc Y<|zb ?_;refine ⟨⟨i+1,b4⟩,⟨rfl,trivial⟩,?_,⟨(B.t C),A.take 0,?_,?_⟩,?_⟩
   ·exact zaR
   ·first|omega|(simp;omega)
   ·exact zcY hA L (by simp_all[zni])
   show x.decisions.length-((i+1))<x.decisions.length-i;omega
  refine zaf 5 Y<|zh Y<|zt Y<|zaf 3 Y<|zh Y<|zb ?_;refine zap Y (fun c1=>?_) (fun c1=>?_)
  ·cases c1
  refine zbj<|zaF<|za Y<|zy Y zaS<|zc Y<|zb ?_;refine ⟨⟨i+1,b4⟩,⟨rfl,trivial⟩,?_,⟨(B.t C),A.take 0,?_,?_⟩,?_⟩
  ·exact zaR
  ·first|omega|(simp;omega)
  ·exact zcY hA L (by simp_all[zni])
  show x.decisions.length-((i+1))<x.decisions.length-i;omega
 refine zcC<|zz<|zx<|zd Y<|zj<|zk Tryz.results187 ?_;rw[zkX hv hn];refine ⟨I,_,Y,F.done,?_⟩;refine zM ?_;exact (zcs hA zU).symm
theorem zmK (hs:Sub h w) (x_f0:Sl zcS h x_v0 x.rules) (x_f1:Sl zau h x_v1 x.decisions) (hv:∀ v∈x.decisions,v.number≤999∧(v.kind=4→v.of_<v.number)) (hv1:∀ v∈x.decisions,1≤v.number) (hl20:x.decisions.length≤20):Calls Tryz.prog 139 #[.agg #[x_v0,x_v1]] w (zbe h w (fun h' _ res_=>∃ u0,res_=u0∧Sl zau h' u0 (zeh x))):=by
 refine zl 37 Tryz.func139 Y<|have c4:=zbM hs;have b7:=x_f0.le;have b8:=x_f1.le;zx<|ze [x_v0,x_v1] c4 Y<|fun b1 w2 h3 c5 a3 c6=>zcP Y Y<|zb<|zx<|zcP Y Y<|zb<|zat<|zc Y<|zb<|zT ?_;have a5:=c6.snoc;have f11:=OSl.nil zau 163 h3;refine zaM (zcp 3 33) (G:=Nat×Value×List (Nat×Obj)×Heap) (fun ⟨n,A,B,h7⟩=>[(3,A),(4,iV ((n:Int)+1))]) (fun ⟨n,A,B,h7⟩ w'=>Le h3 h7∧St h w h7 w' [B]∧(OSl zau 163 h7 A ((List.range n).flatMap (ziM x)) B)∧(n≤999)) (fun ⟨n,A,B,h7⟩=>999-n) ⟨0,(.slice none 0 0),[],h3⟩ ⟨rfl,rfl,trivial⟩ ⟨Le.refl _,a5,(OSl.to f11 (by rfl)),zbm⟩ ?_;rintro ⟨n,A,B,h7⟩ _ e1 ⟨T,b9,H,hn⟩;refine zat<|za Y<|zQ Y (zpG Y Y)<|zb ?_;refine zS Y (fun c7=>?_) (fun c7=>?_)
 ·refine zaN<|zT<|zx<|zc Y<|zb<|zT ?_;refine zaM ([3,5,6]++zcp 11 25) (G:=Nat×Value×List (Nat×Obj)×Heap) (fun ⟨i,A,B,S⟩=>[(3,A),(5,iV (i:Int))]) (fun ⟨i,A,B,S⟩ w'=>Le h7 S∧St h w S w' [B]∧(OSl zau 163 S A ((List.range n).flatMap (ziM x)++(x.decisions.take i).filter (zmt x n)) B)∧(i≤x.decisions.length)) (fun ⟨i,A,B,S⟩=>x.decisions.length-i) ⟨0,A,B,h7⟩ ⟨rfl,rfl,trivial⟩ ⟨Le.refl _,b9,(OSl.to H (by simp)),zbm⟩ ?_;rintro ⟨i,A,B,S⟩ _ e2 ⟨C,P,H,hi⟩;refine zat<|za Y<|U zaY Y zdp<|M 1 P.sub (a3.up (T.t C)) zei Y<|have a4:=(c5.t T).t C;zK (x_f1.up a4) zbg Y<|zN Y<|zb ?_;refine zS Y (fun c8=>?_) (fun c8=>?_)
  ·refine zaN<|zT<|zx<|U zaY Y zdp<|M 1 P.sub (a3.up (T.t C)) zei Y<|za Y ?_;obtain ⟨d,hd⟩:∃ y_,(x.decisions)[i]?=some y_:=zch zU;obtain ⟨e3,e4,_,a6,a7,hr_d⟩:=Sl.elem (x_f1.up a4) hd;obtain ⟨rfl,d8,a8,a9,d9⟩:=hr_d;simp only[big] at a8;simp only[big] at a9;refine zL a6 zbg zas Y<|zg P.sub a7 zbB zas Y<|zad P zdg Y Y<|fun e5 e6 b0=>zo 1 b0 Y zas<|fun e7 b2=>?_;obtain ⟨c9,F,b3,I⟩:=b2.freeze (k:=1) rfl;have a0:=zay.of b3;refine zb<|zx<|U zI Y zG<|M 0 I.sub a0 zO Y<|za Y<|zeb Y Y Y<|zt Y ?_;refine zaC (d:=27) Y (fun d0=>?_) (fun d0=>?_)
   ·refine Z Y<|zg I.sub (a3.up ((T.t C).t F)) zcG zbv Y<|Z Y<|zg I.sub a0 zbB zas Y<|Z Y ?_;have c0:=a4.t F;refine zaD I rfl rfl rfl Tryz.call187 rfl (znF (1000) I.sub (x:=x) (x_f0.up c0) (x_f1.up c0) (d:=d) zdb zbq zbq zdb (by exact hv) (by have q:=(hv1 d (List.mem_of_getElem? hd));omega)) ?_;intro e8 e9 c1 Q a1 d1;subst d1;refine zi Y<|zb ?_;refine zap Y (fun d2=>?_) (fun d2=>?_)
    ·refine zag<|zq A Y<|zg a1.sub (a0.up Q) zbB zas Y<|zA zau [d] [iV (d.number),.int .u8 (d.kind),zae (d.form),iV (d.at_.chapter),iV (d.at_.line),iV (d.at_.word),zae (d.to.stem),.int .u8 (d.to.mark),iV (d.of_)] a1 (Enc.cons (L:=zau) (vs:=[iV (d.number),.int .u8 (d.kind),zae (d.form),iV (d.at_.chapter),iV (d.at_.line),iV (d.at_.word),zae (d.to.stem),.int .u8 (d.to.mark),iV (d.of_)]) (x:=d) (h:=c1) (⟨rfl,zdb,zbq,zbq,zdb⟩) Enc.nil) Y zbg Tryz.info163 zbL<|fun g0 g1 d3 a2 f49 b4=>?_;refine zaO (k:=0) (nb:=88) b4 (H.up ((F.t Q).t a2)) rfl f49 rfl rfl rfl zbg Tryz.info163 rfl rfl rfl (by decide) rfl (by have q:=zqq n hl20;have q2:=List.length_filter_le (zmt x n) (x.decisions.take i);rw[List.length_take] at q2;simp only[List.length_append,List.length_cons,List.length_nil];omega) (by have q:=zqq n hl20;have q2:=List.length_filter_le (zmt x n) (x.decisions.take i);rw[List.length_take] at q2;simp only[List.length_append,List.length_cons,List.length_nil];omega) ?_;intro c2 d4 g2 _ d5 f57 b5;subst d5;refine zH c2 Y<|zB<|zaF<|za Y<|zy Y zaS<|zc Y<|zb ?_;have d6:=((C.t F).t Q).t a2;refine ⟨⟨i+1,c2,d4,d3⟩,⟨rfl,Y,trivial⟩,?_,⟨d6,b5.take 1,?_,?_⟩,?_⟩
     ·exact zaR
     ·refine OSl.to f57 ?_;rw[zaQ hd,List.filter_append,List.append_assoc];simp_all[zmt]
     ·first|omega|(simp;omega)
     show x.decisions.length-((i+1))<x.decisions.length-i;omega
    refine zbj<|zaF<|za Y<|zy Y zaS<|zc Y<|zb ?_;refine ⟨⟨i+1,A,B,c1⟩,⟨rfl,Y,trivial⟩,?_,⟨((C.t F).t Q),a1.take 1,?_,?_⟩,?_⟩
    ·exact zaR
    ·refine OSl.to (H.up (F.t Q)) ?_;rw[zaQ hd,List.filter_append];simp_all[zmt]
    ·first|omega|(simp;omega)
    show x.decisions.length-((i+1))<x.decisions.length-i;omega
   refine zaf 3 Y<|zh Y<|zb ?_;refine zap Y (fun c3=>?_) (fun c3=>?_)
   ·cases c3
   refine zbj<|zaF<|za Y<|zy Y zaS<|zc Y<|zb ?_;refine ⟨⟨i+1,A,B,c9⟩,⟨rfl,Y,trivial⟩,?_,⟨(C.t F),I.take 1,?_,?_⟩,?_⟩
   ·exact zaR
   ·refine OSl.to (H.up F) ?_;rw[zaQ hd,List.filter_append];simp_all[zmt]
   ·first|omega|(simp;omega)
   show x.decisions.length-((i+1))<x.decisions.length-i;omega
  refine zcC<|zaF<|za Y<|zy Y zaS<|zc Y<|zb ?_;refine ⟨⟨n+1,A,B,S⟩,⟨rfl,Y,trivial⟩,?_,⟨(T.t C),P,?_,?_⟩,?_⟩
  ·exact zaR
  ·refine OSl.to H ?_;rw[List.range_succ,List.flatMap_append];simp[ziM,List.take_of_length_le (show x.decisions.length≤i by omega)]
  ·first|omega|(simp;omega)
  show 999-((n+1))<999-n;omega
 refine zcC<|zz<|zx<|zq A Y<|zH A Y<|zj<|zk Tryz.results139 ?_;obtain ⟨d7,e0,f63,b6⟩:=OSl.freeze (k:=0) b9 H rfl (by have q:=zqq n hl20;omega);refine ⟨d7,_,Y,b6.done,?_⟩;refine ⟨_,Y,Sl.to f63 ?_⟩;have q:n=999:=by omega
 subst q;rfl
theorem zhG {xs:List Copy} {caps:List Value} (S:Nat→Heap→World→Prop) (p:Nat→Bool) (hS:∀ k h w,S k h w→Sub h w∧Sl zeS h v xs) (hf:∀ k x h w vs,S k h w→xs[k]?=some x→zeS.R h vs x→∀ u,u=.agg vs.toArray→Calls Tryz.prog g (u::caps).toArray w (fun e w'=>∃ h',e=.returned (.bool (p k))∧S (k+1) h' w')) (hg:∀ a w,(callFunc g a).run Tryz.prog w=.ok (.enter g a) w) (h0:S 0 h w):
  Calls Tryz.prog 141 #[v,.func (.func g) #[] caps.toArray] w (fun e w'=>∃ h' k,e=.returned (iV (if k<xs.length then (k:Int) else -1))∧k≤xs.length∧(∀ j,j<k→p j=false)∧(k<xs.length→p k=true)∧S (if k<xs.length then k+1 else k) h' w'):=by
 refine zl 19 Tryz.func141 Y<|have hb:=(hS 0 h w h0).2.le;zx<|zc Y<|zb<|zat<|zq v Y<|zK (hS 0 h w h0).2 zcv Y<|za Y<|zb<|zT ?_;refine zaM ([4,5]++zcp 8 11) (G:=Nat×Heap) (fun ⟨k,_⟩=>[(8,iV (k:Int))]) (fun ⟨k,h'⟩ w'=>S k h' w'∧k≤xs.length∧∀ j,j<k→p j=false) (fun ⟨k,_⟩=>xs.length-k) ⟨0,h⟩ ⟨rfl,trivial⟩ ⟨h0,by omega,by intros;omega⟩ ?_;rintro ⟨k,F⟩ _ I ⟨A,hk,hp⟩;obtain ⟨hsub,hsl⟩:=hS k F I A;refine zx<|zN Y<|zb<|zaH ?_;refine zap Y (fun B=>?_) (fun B=>?_)
 ·replace B:=zrT B;refine zaN<|zT<|zx<|za Y<|zc Y<|zb<|zx<|zjR Y Y<|zq v Y<|za Y ?_;have hy:∃ y,xs[k]?=some y:=⟨_,List.getElem?_eq_getElem zU⟩;obtain ⟨y,hy⟩:=hy;obtain ⟨b,o,vs,he,hc,hr⟩:=Sl.elem hsl hy;refine zL he zcv zdP Y<|zhQ hsub hc Y zgG zdP (zeS.len hr) Y ?_;refine zbN Y Y (zde (fs:=[]) (cs:=caps) Y Y hg Y) ((hf k y F I _ A hy hr _ Y).mono ?_);rintro e Q ⟨L,rfl,C⟩;refine ⟨_,Y,?_⟩;refine zb ?_;refine zap Y (fun H=>?_) (fun H=>?_)
  ·refine zaH ?_;refine zag<|za Y<|zc Y<|zj ?_
   repeat (first|refine zeJ ?_|refine zJ ?_)
   refine zk Tryz.results141 ?_;have hlt:k<xs.length:=by omega
   exact ⟨L,k,by rw[if_pos hlt];rfl,hk,hp,fun _=>H,by rw[if_pos hlt];exact C⟩
  ·refine zbj ?_;refine zaF ?_;refine zar rfl rfl (zjC rfl rfl zU) ?_;refine za Y<|zb ?_;refine ⟨⟨k+1,L⟩,⟨rfl,trivial⟩,?_,⟨C,by omega,?_⟩,?_⟩
   ·exact zaR
   ·intro j hj
    rcases Nat.lt_or_ge j k with P|P
    ·exact hp j P
    ·obtain rfl:j=k:=by omega
     exact H
   ·show xs.length-(k+1)<xs.length-k;omega
 ·replace B:=zrU B;refine zcC<|zz<|zx<|zc Y<|zj<|zk Tryz.results141 ?_;have hlt:¬ k<xs.length:=by omega
  exact ⟨F,k,by rw[if_neg hlt];rfl,hk,hp,fun q=>absurd q hlt,by rw[if_neg hlt];exact A⟩
theorem zha {xs:List Copy} {caps:List Value} (S:Nat→Heap→World→Prop) (p:Nat→Bool) (hS:∀ k h w,S k h w→Sub h w∧Sl zeS h v xs) (hf:∀ k x h w vs,S k h w→xs[k]?=some x→zeS.R h vs x→∀ u,u=.agg vs.toArray→Calls Tryz.prog g (u::caps).toArray w (fun e w'=>∃ h',e=.returned (.bool (p k))∧S (k+1) h' w')) (hg:∀ a w,(callFunc g a).run Tryz.prog w=.ok (.enter g a) w) (h0:S 0 h w):
  Calls Tryz.prog 91 #[v,.func (.func g) #[] caps.toArray] w (fun e w'=>∃ h' k,e=.returned (.bool (decide (k<xs.length)))∧k≤xs.length∧(∀ j,j<k→p j=false)∧(k<xs.length→p k=true)∧S (if k<xs.length then k+1 else k) h' w'):=by
 refine zl 9 Tryz.func91 Y<|zx<|zd Y<|zb<|zx<|zq v Y<|zjR Y Y ?_;refine zbN Y Y (zbJ Y Tryz.call141 Y) ((zhG S p hS hf hg h0).mono ?_);rintro e I ⟨A,k,rfl,B,C,F,H⟩;refine ⟨_,Y,?_⟩;refine zkU Y Y Y<|zd Y<|zj<|zk Tryz.results91 ?_;refine ⟨A,k,congrArg Ending.returned (zM ?_),B,C,F,H⟩
 by_cases hlt:k<xs.length
 ·simp[hlt]
 ·simp[hlt]
theorem zfB {xs:List Copy} {caps:List Value} (hs:Sub h w) (hx:Sl zeS h v xs) (q:Copy→Bool) (hg:∀ a w,(callFunc g a).run Tryz.prog w=.ok (.enter g a) w) (hf:∀ x h' w' vs,Le h h'→Sub h' w'→x∈xs→zeS.R h' vs x→∀ u,u=.agg vs.toArray→Calls Tryz.prog g (u::caps).toArray w' (zbe h' w' fun _ _ r=>r=.bool (q x))):
  Calls Tryz.prog 91 #[v,.func (.func g) #[] caps.toArray] w (zbe h w fun _ _ r=>r=.bool (xs.any q)):=by
 refine (zha (fun k h' w'=>St h w h' w' []∧k≤xs.length) (fun k=>((xs[k]?).map q).getD false) (fun k h' w' hk=>⟨hk.1.sub,hx.up hk.1.le⟩) ?_ hg ⟨St.start hs,Nat.zero_le _⟩).mono ?_
 ·rintro k x h' w' vs ⟨st,_⟩ hk hr u hu;refine (hf x h' w' vs st.le st.sub (List.mem_of_getElem? hk) hr u hu).mono ?_;rintro e w'' ⟨h'',r,rfl,s,rfl⟩;obtain ⟨hlt,_⟩:=List.getElem?_eq_some_iff.1 hk;exact ⟨h'',by simp[hk],st.call0 s,hlt⟩
 ·rintro e w' ⟨h',k,rfl,H,B,C,F⟩;refine ⟨h',_,Y,F.1,zM ?_⟩
  by_cases hlt:k<xs.length
  ·have A:=C hlt;rw[List.getElem?_eq_getElem hlt] at A;simp only[Option.map_some,Option.getD_some] at A;have:xs.any q=true:=List.any_eq_true.2 ⟨_,List.getElem_mem hlt,A⟩;simp[hlt,this]
  ·have:xs.any q=false:=by
    rw[List.any_eq_false];intro x hx';obtain ⟨j,hj⟩:=List.mem_iff_getElem?.1 hx';obtain ⟨I,_⟩:=List.getElem?_eq_some_iff.1 hj;have:=B j zU;simpa [hj] using this
   simp[hlt,this]
theorem zhZ {xs:List (List Str)} {caps:List Value} (S:Nat→Heap→World→Prop) (p:Nat→Bool) (hS:∀ k h w,S k h w→Sub h w∧Sl (LSl zcn) h v xs) (hf:∀ k x h w vs,S k h w→xs[k]?=some x→(LSl zcn).R h vs x→∀ u,vs=[u]→Calls Tryz.prog g (u::caps).toArray w (fun e w'=>∃ h',e=.returned (.bool (p k))∧S (k+1) h' w')) (hg:∀ a w,(callFunc g a).run Tryz.prog w=.ok (.enter g a) w) (h0:S 0 h w):
  Calls Tryz.prog 196 #[v,.func (.func g) #[] caps.toArray] w (fun e w'=>∃ h' k,e=.returned (iV (if k<xs.length then (k:Int) else -1))∧k≤xs.length∧(∀ j,j<k→p j=false)∧(k<xs.length→p k=true)∧S (if k<xs.length then k+1 else k) h' w'):=by
 refine zl 19 Tryz.func196 Y<|have hb:=(hS 0 h w h0).2.le;zx<|zc Y<|zb<|zat<|zq v Y<|zK (hS 0 h w h0).2 zaJ Y<|za Y<|zb<|zT ?_;refine zaM ([4,5]++zcp 8 11) (G:=Nat×Heap) (fun ⟨k,_⟩=>[(8,iV (k:Int))]) (fun ⟨k,h'⟩ w'=>S k h' w'∧k≤xs.length∧∀ j,j<k→p j=false) (fun ⟨k,_⟩=>xs.length-k) ⟨0,h⟩ ⟨rfl,trivial⟩ ⟨h0,by omega,by intros;omega⟩ ?_;rintro ⟨k,F⟩ _ I ⟨A,hk,hp⟩;obtain ⟨hsub,hsl⟩:=hS k F I A;refine zx<|zN Y<|zb<|zaH ?_;refine zap Y (fun B=>?_) (fun B=>?_)
 ·replace B:=zrT B;refine zaN<|zT<|zx<|za Y<|zc Y<|zb<|zx<|zjR Y Y<|zq v Y<|za Y ?_;have hy:∃ y,xs[k]?=some y:=⟨_,List.getElem?_eq_getElem zU⟩;obtain ⟨y,hy⟩:=hy;obtain ⟨b,o,vs,he,hc,hr⟩:=Sl.elem hsl hy;refine zL he zaJ zdd Y ?_;obtain ⟨u,rfl⟩:∃ u,vs=[u]:=by
   have q:=(LSl zcn).len hr
   match vs,q with
   | [u],_=>exact ⟨u,rfl⟩
  refine M 0 hsub hc zdx Y ?_;refine zbN Y Y (zde (fs:=[]) (cs:=caps) Y Y hg Y) ((hf k y F I _ A hy hr _ Y).mono ?_);rintro e Q ⟨L,rfl,C⟩;refine ⟨_,Y,?_⟩;refine zb ?_;refine zap Y (fun H=>?_) (fun H=>?_)
  ·refine zaH ?_;refine zag<|za Y<|zc Y<|zj ?_
   repeat (first|refine zeJ ?_|refine zJ ?_)
   refine zk Tryz.results196 ?_;have hlt:k<xs.length:=by omega
   exact ⟨L,k,by rw[if_pos hlt];rfl,hk,hp,fun _=>H,by rw[if_pos hlt];exact C⟩
  ·refine zbj ?_;refine zaF ?_;refine zar rfl rfl (zjC rfl rfl zU) ?_;refine za Y<|zb ?_;refine ⟨⟨k+1,L⟩,⟨rfl,trivial⟩,?_,⟨C,by omega,?_⟩,?_⟩
   ·exact zaR
   ·intro j hj
    rcases Nat.lt_or_ge j k with P|P
    ·exact hp j P
    ·obtain rfl:j=k:=by omega
     exact H
   ·show xs.length-(k+1)<xs.length-k;omega
 ·replace B:=zrU B;refine zcC<|zz<|zx<|zc Y<|zj<|zk Tryz.results196 ?_;have hlt:¬ k<xs.length:=by omega
  exact ⟨F,k,by rw[if_neg hlt];rfl,hk,hp,fun q=>absurd q hlt,by rw[if_neg hlt];exact A⟩
theorem zhs {xs:List (List Str)} {caps:List Value} (S:Nat→Heap→World→Prop) (p:Nat→Bool) (hS:∀ k h w,S k h w→Sub h w∧Sl (LSl zcn) h v xs) (hf:∀ k x h w vs,S k h w→xs[k]?=some x→(LSl zcn).R h vs x→∀ u,vs=[u]→Calls Tryz.prog g (u::caps).toArray w (fun e w'=>∃ h',e=.returned (.bool (p k))∧S (k+1) h' w')) (hg:∀ a w,(callFunc g a).run Tryz.prog w=.ok (.enter g a) w) (h0:S 0 h w):
  Calls Tryz.prog 146 #[v,.func (.func g) #[] caps.toArray] w (fun e w'=>∃ h' k,e=.returned (.bool (decide (k<xs.length)))∧k≤xs.length∧(∀ j,j<k→p j=false)∧(k<xs.length→p k=true)∧S (if k<xs.length then k+1 else k) h' w'):=by
 refine zl 9 Tryz.func146 Y<|zx<|zd Y<|zb<|zx<|zq v Y<|zjR Y Y ?_;refine zbN Y Y (zbJ Y Tryz.call196 Y) ((zhZ S p hS hf hg h0).mono ?_);rintro e I ⟨A,k,rfl,B,C,F,H⟩;refine ⟨_,Y,?_⟩;refine zkU Y Y Y<|zd Y<|zj<|zk Tryz.results146 ?_;refine ⟨A,k,congrArg Ending.returned (zM ?_),B,C,F,H⟩
 by_cases hlt:k<xs.length
 ·simp[hlt]
 ·simp[hlt]
theorem zia {xs:List (List Str)} {caps:List Value} (hs:Sub h w) (hx:Sl (LSl zcn) h v xs) (q:(List Str)→Bool) (hg:∀ a w,(callFunc g a).run Tryz.prog w=.ok (.enter g a) w) (hf:∀ x h' w' vs,Le h h'→Sub h' w'→x∈xs→(LSl zcn).R h' vs x→∀ u,vs=[u]→Calls Tryz.prog g (u::caps).toArray w' (zbe h' w' fun _ _ r=>r=.bool (q x))):
  Calls Tryz.prog 146 #[v,.func (.func g) #[] caps.toArray] w (zbe h w fun _ _ r=>r=.bool (xs.any q)):=by
 refine (zhs (fun k h' w'=>St h w h' w' []∧k≤xs.length) (fun k=>((xs[k]?).map q).getD false) (fun k h' w' hk=>⟨hk.1.sub,hx.up hk.1.le⟩) ?_ hg ⟨St.start hs,Nat.zero_le _⟩).mono ?_
 ·rintro k x h' w' vs ⟨st,_⟩ hk hr u hu;refine (hf x h' w' vs st.le st.sub (List.mem_of_getElem? hk) hr u hu).mono ?_;rintro e w'' ⟨h'',r,rfl,s,rfl⟩;obtain ⟨hlt,_⟩:=List.getElem?_eq_some_iff.1 hk;exact ⟨h'',by simp[hk],st.call0 s,hlt⟩
 ·rintro e w' ⟨h',k,rfl,H,B,C,F⟩;refine ⟨h',_,Y,F.1,zM ?_⟩
  by_cases hlt:k<xs.length
  ·have A:=C hlt;rw[List.getElem?_eq_getElem hlt] at A;simp only[Option.map_some,Option.getD_some] at A;have:xs.any q=true:=List.any_eq_true.2 ⟨_,List.getElem_mem hlt,A⟩;simp[hlt,this]
  ·have:xs.any q=false:=by
    rw[List.any_eq_false];intro x hx';obtain ⟨j,hj⟩:=List.mem_iff_getElem?.1 hx';obtain ⟨I,_⟩:=List.getElem?_eq_some_iff.1 hj;have:=B j zU;simpa [hj] using this
   simp[hlt,this]
theorem zgb {xs:List Str} {caps:List Value} (S:Nat→Heap→World→Prop) (p:Nat→Bool) (hS:∀ k h w,S k h w→Sub h w∧Sl zcn h v xs) (hf:∀ k x h w vs,S k h w→xs[k]?=some x→zcn.R h vs x→∀ u,vs=[u]→Calls Tryz.prog g (u::caps).toArray w (fun e w'=>∃ h',e=.returned (.bool (p k))∧S (k+1) h' w')) (hg:∀ a w,(callFunc g a).run Tryz.prog w=.ok (.enter g a) w) (h0:S 0 h w):
  Calls Tryz.prog 197 #[v,.func (.func g) #[] caps.toArray] w (fun e w'=>∃ h' k,e=.returned (iV (if k<xs.length then (k:Int) else -1))∧k≤xs.length∧(∀ j,j<k→p j=false)∧(k<xs.length→p k=true)∧S (if k<xs.length then k+1 else k) h' w'):=by
 refine zl 19 Tryz.func197 Y<|have hb:=(hS 0 h w h0).2.le;zx<|zc Y<|zb<|zat<|zq v Y<|zK (hS 0 h w h0).2 zC Y<|za Y<|zb<|zT ?_;refine zaM ([4,5]++zcp 8 11) (G:=Nat×Heap) (fun ⟨k,_⟩=>[(8,iV (k:Int))]) (fun ⟨k,h'⟩ w'=>S k h' w'∧k≤xs.length∧∀ j,j<k→p j=false) (fun ⟨k,_⟩=>xs.length-k) ⟨0,h⟩ ⟨rfl,trivial⟩ ⟨h0,by omega,by intros;omega⟩ ?_;rintro ⟨k,F⟩ _ I ⟨A,hk,hp⟩;obtain ⟨hsub,hsl⟩:=hS k F I A;refine zx<|zN Y<|zb<|zaH ?_;refine zap Y (fun B=>?_) (fun B=>?_)
 ·replace B:=zrT B;refine zaN<|zT<|zx<|za Y<|zc Y<|zb<|zx<|zjR Y Y<|zq v Y<|za Y ?_;have hy:∃ y,xs[k]?=some y:=⟨_,List.getElem?_eq_getElem zU⟩;obtain ⟨y,hy⟩:=hy;obtain ⟨b,o,vs,he,hc,hr⟩:=Sl.elem hsl hy;refine zL he zC zaj Y ?_;obtain ⟨u,rfl⟩:∃ u,vs=[u]:=by
   have q:=zcn.len hr
   match vs,q with
   | [u],_=>exact ⟨u,rfl⟩
  refine M 0 hsub hc zaK Y ?_;refine zbN Y Y (zde (fs:=[]) (cs:=caps) Y Y hg Y) ((hf k y F I _ A hy hr _ Y).mono ?_);rintro e Q ⟨L,rfl,C⟩;refine ⟨_,Y,?_⟩;refine zb ?_;refine zap Y (fun H=>?_) (fun H=>?_)
  ·refine zaH ?_;refine zag<|za Y<|zc Y<|zj ?_
   repeat (first|refine zeJ ?_|refine zJ ?_)
   refine zk Tryz.results197 ?_;have hlt:k<xs.length:=by omega
   exact ⟨L,k,by rw[if_pos hlt];rfl,hk,hp,fun _=>H,by rw[if_pos hlt];exact C⟩
  ·refine zbj ?_;refine zaF ?_;refine zar rfl rfl (zjC rfl rfl zU) ?_;refine za Y<|zb ?_;refine ⟨⟨k+1,L⟩,⟨rfl,trivial⟩,?_,⟨C,by omega,?_⟩,?_⟩
   ·exact zaR
   ·intro j hj
    rcases Nat.lt_or_ge j k with P|P
    ·exact hp j P
    ·obtain rfl:j=k:=by omega
     exact H
   ·show xs.length-(k+1)<xs.length-k;omega
 ·replace B:=zrU B;refine zcC<|zz<|zx<|zc Y<|zj<|zk Tryz.results197 ?_;have hlt:¬ k<xs.length:=by omega
  exact ⟨F,k,by rw[if_neg hlt];rfl,hk,hp,fun q=>absurd q hlt,by rw[if_neg hlt];exact A⟩
theorem zhP {xs:List Str} {caps:List Value} (S:Nat→Heap→World→Prop) (p:Nat→Bool) (hS:∀ k h w,S k h w→Sub h w∧Sl zcn h v xs) (hf:∀ k x h w vs,S k h w→xs[k]?=some x→zcn.R h vs x→∀ u,vs=[u]→Calls Tryz.prog g (u::caps).toArray w (fun e w'=>∃ h',e=.returned (.bool (p k))∧S (k+1) h' w')) (hg:∀ a w,(callFunc g a).run Tryz.prog w=.ok (.enter g a) w) (h0:S 0 h w):
  Calls Tryz.prog 149 #[v,.func (.func g) #[] caps.toArray] w (fun e w'=>∃ h' k,e=.returned (.bool (decide (k<xs.length)))∧k≤xs.length∧(∀ j,j<k→p j=false)∧(k<xs.length→p k=true)∧S (if k<xs.length then k+1 else k) h' w'):=by
 refine zl 9 Tryz.func149 Y<|zx<|zd Y<|zb<|zx<|zq v Y<|zjR Y Y ?_;refine zbN Y Y (zbJ Y Tryz.call197 Y) ((zgb S p hS hf hg h0).mono ?_);rintro e I ⟨A,k,rfl,B,C,F,H⟩;refine ⟨_,Y,?_⟩;refine zkU Y Y Y<|zd Y<|zj<|zk Tryz.results149 ?_;refine ⟨A,k,congrArg Ending.returned (zM ?_),B,C,F,H⟩
 by_cases hlt:k<xs.length
 ·simp[hlt]
 ·simp[hlt]
theorem ziD {xs:List Str} {caps:List Value} (hs:Sub h w) (hx:Sl zcn h v xs) (q:Str→Bool) (hg:∀ a w,(callFunc g a).run Tryz.prog w=.ok (.enter g a) w) (hf:∀ x h' w' vs,Le h h'→Sub h' w'→x∈xs→zcn.R h' vs x→∀ u,vs=[u]→Calls Tryz.prog g (u::caps).toArray w' (zbe h' w' fun _ _ r=>r=.bool (q x))):
  Calls Tryz.prog 149 #[v,.func (.func g) #[] caps.toArray] w (zbe h w fun _ _ r=>r=.bool (xs.any q)):=by
 refine (zhP (fun k h' w'=>St h w h' w' []∧k≤xs.length) (fun k=>((xs[k]?).map q).getD false) (fun k h' w' hk=>⟨hk.1.sub,hx.up hk.1.le⟩) ?_ hg ⟨St.start hs,Nat.zero_le _⟩).mono ?_
 ·rintro k x h' w' vs ⟨st,_⟩ hk hr u hu;refine (hf x h' w' vs st.le st.sub (List.mem_of_getElem? hk) hr u hu).mono ?_;rintro e w'' ⟨h'',r,rfl,s,rfl⟩;obtain ⟨hlt,_⟩:=List.getElem?_eq_some_iff.1 hk;exact ⟨h'',by simp[hk],st.call0 s,hlt⟩
 ·rintro e w' ⟨h',k,rfl,H,B,C,F⟩;refine ⟨h',_,Y,F.1,zM ?_⟩
  by_cases hlt:k<xs.length
  ·have A:=C hlt;rw[List.getElem?_eq_getElem hlt] at A;simp only[Option.map_some,Option.getD_some] at A;have:xs.any q=true:=List.any_eq_true.2 ⟨_,List.getElem_mem hlt,A⟩;simp[hlt,this]
  ·have:xs.any q=false:=by
    rw[List.any_eq_false];intro x hx';obtain ⟨j,hj⟩:=List.mem_iff_getElem?.1 hx';obtain ⟨I,_⟩:=List.getElem?_eq_some_iff.1 hj;have:=B j zU;simpa [hj] using this
   simp[hlt,this]
theorem zhF {xs:List Rule} {caps:List Value} (S:Nat→Heap→World→Prop) (p:Nat→Bool) (hS:∀ k h w,S k h w→Sub h w∧Sl zcS h v xs) (hf:∀ k x h w vs,S k h w→xs[k]?=some x→zcS.R h vs x→∀ u,u=.agg vs.toArray→Calls Tryz.prog g (u::caps).toArray w (fun e w'=>∃ h',e=.returned (.bool (p k))∧S (k+1) h' w')) (hg:∀ a w,(callFunc g a).run Tryz.prog w=.ok (.enter g a) w) (h0:S 0 h w):
  Calls Tryz.prog 200 #[v,.func (.func g) #[] caps.toArray] w (fun e w'=>∃ h' k,e=.returned (iV (if k<xs.length then (k:Int) else -1))∧k≤xs.length∧(∀ j,j<k→p j=false)∧(k<xs.length→p k=true)∧S (if k<xs.length then k+1 else k) h' w'):=by
 refine zl 19 Tryz.func200 Y<|have hb:=(hS 0 h w h0).2.le;zx<|zc Y<|zb<|zat<|zq v Y<|zK (hS 0 h w h0).2 zcm Y<|za Y<|zb<|zT ?_;refine zaM ([4,5]++zcp 8 11) (G:=Nat×Heap) (fun ⟨k,_⟩=>[(8,iV (k:Int))]) (fun ⟨k,h'⟩ w'=>S k h' w'∧k≤xs.length∧∀ j,j<k→p j=false) (fun ⟨k,_⟩=>xs.length-k) ⟨0,h⟩ ⟨rfl,trivial⟩ ⟨h0,by omega,by intros;omega⟩ ?_;rintro ⟨k,F⟩ _ I ⟨A,hk,hp⟩;obtain ⟨hsub,hsl⟩:=hS k F I A;refine zx<|zN Y<|zb<|zaH ?_;refine zap Y (fun B=>?_) (fun B=>?_)
 ·replace B:=zrT B;refine zaN<|zT<|zx<|za Y<|zc Y<|zb<|zx<|zjR Y Y<|zq v Y<|za Y ?_;have hy:∃ y,xs[k]?=some y:=⟨_,List.getElem?_eq_getElem zU⟩;obtain ⟨y,hy⟩:=hy;obtain ⟨b,o,vs,he,hc,hr⟩:=Sl.elem hsl hy;refine zL he zcm zdX Y<|zhQ hsub hc Y zjd zdX (zcS.len hr) Y ?_;refine zbN Y Y (zde (fs:=[]) (cs:=caps) Y Y hg Y) ((hf k y F I _ A hy hr _ Y).mono ?_);rintro e Q ⟨L,rfl,C⟩;refine ⟨_,Y,?_⟩;refine zb ?_;refine zap Y (fun H=>?_) (fun H=>?_)
  ·refine zaH ?_;refine zag<|za Y<|zc Y<|zj ?_
   repeat (first|refine zeJ ?_|refine zJ ?_)
   refine zk Tryz.results200 ?_;have hlt:k<xs.length:=by omega
   exact ⟨L,k,by rw[if_pos hlt];rfl,hk,hp,fun _=>H,by rw[if_pos hlt];exact C⟩
  ·refine zbj ?_;refine zaF ?_;refine zar rfl rfl (zjC rfl rfl zU) ?_;refine za Y<|zb ?_;refine ⟨⟨k+1,L⟩,⟨rfl,trivial⟩,?_,⟨C,by omega,?_⟩,?_⟩
   ·exact zaR
   ·intro j hj
    rcases Nat.lt_or_ge j k with P|P
    ·exact hp j P
    ·obtain rfl:j=k:=by omega
     exact H
   ·show xs.length-(k+1)<xs.length-k;omega
 ·replace B:=zrU B;refine zcC<|zz<|zx<|zc Y<|zj<|zk Tryz.results200 ?_;have hlt:¬ k<xs.length:=by omega
  exact ⟨F,k,by rw[if_neg hlt];rfl,hk,hp,fun q=>absurd q hlt,by rw[if_neg hlt];exact A⟩
theorem zgZ {xs:List Rule} {caps:List Value} (S:Nat→Heap→World→Prop) (p:Nat→Bool) (hS:∀ k h w,S k h w→Sub h w∧Sl zcS h v xs) (hf:∀ k x h w vs,S k h w→xs[k]?=some x→zcS.R h vs x→∀ u,u=.agg vs.toArray→Calls Tryz.prog g (u::caps).toArray w (fun e w'=>∃ h',e=.returned (.bool (p k))∧S (k+1) h' w')) (hg:∀ a w,(callFunc g a).run Tryz.prog w=.ok (.enter g a) w) (h0:S 0 h w):
  Calls Tryz.prog 152 #[v,.func (.func g) #[] caps.toArray] w (fun e w'=>∃ h' k,e=.returned (.bool (decide (k<xs.length)))∧k≤xs.length∧(∀ j,j<k→p j=false)∧(k<xs.length→p k=true)∧S (if k<xs.length then k+1 else k) h' w'):=by
 refine zl 9 Tryz.func152 Y<|zx<|zd Y<|zb<|zx<|zq v Y<|zjR Y Y ?_;refine zbN Y Y (zbJ Y Tryz.call200 Y) ((zhF S p hS hf hg h0).mono ?_);rintro e I ⟨A,k,rfl,B,C,F,H⟩;refine ⟨_,Y,?_⟩;refine zkU Y Y Y<|zd Y<|zj<|zk Tryz.results152 ?_;refine ⟨A,k,congrArg Ending.returned (zM ?_),B,C,F,H⟩
 by_cases hlt:k<xs.length
 ·simp[hlt]
 ·simp[hlt]
theorem zkc {caps:List Value} (S:Nat→Heap→World→Prop) (p:Nat→Bool) (hS:∀ k h w,S k h w→Sub h w∧Sl zcy h v xs) (hf:∀ k x h w vs,S k h w→xs[k]?=some x→zcy.R h vs x→∀ u,vs=[u]→Calls Tryz.prog g (u::caps).toArray w (fun e w'=>∃ h',e=.returned (.bool (p k))∧S (k+1) h' w')) (hg:∀ a w,(callFunc g a).run Tryz.prog w=.ok (.enter g a) w) (h0:S 0 h w):
  Calls Tryz.prog 202 #[v,.func (.func g) #[] caps.toArray] w (fun e w'=>∃ h' k,e=.returned (iV (if k<xs.length then (k:Int) else -1))∧k≤xs.length∧(∀ j,j<k→p j=false)∧(k<xs.length→p k=true)∧S (if k<xs.length then k+1 else k) h' w'):=by
 refine zl 19 Tryz.func202 Y<|have hb:=(hS 0 h w h0).2.le;zx<|zc Y<|zb<|zat<|zq v Y<|zK (hS 0 h w h0).2 zaV Y<|za Y<|zb<|zT ?_;refine zaM ([4,5]++zcp 8 11) (G:=Nat×Heap) (fun ⟨k,_⟩=>[(8,iV (k:Int))]) (fun ⟨k,h'⟩ w'=>S k h' w'∧k≤xs.length∧∀ j,j<k→p j=false) (fun ⟨k,_⟩=>xs.length-k) ⟨0,h⟩ ⟨rfl,trivial⟩ ⟨h0,by omega,by intros;omega⟩ ?_;rintro ⟨k,F⟩ _ I ⟨A,hk,hp⟩;obtain ⟨hsub,hsl⟩:=hS k F I A;refine zx<|zN Y<|zb<|zaH ?_;refine zap Y (fun B=>?_) (fun B=>?_)
 ·replace B:=zrT B;refine zaN<|zT<|zx<|za Y<|zc Y<|zb<|zx<|zjR Y Y<|zq v Y<|za Y ?_;have hy:∃ y,xs[k]?=some y:=⟨_,List.getElem?_eq_getElem zU⟩;obtain ⟨y,hy⟩:=hy;obtain ⟨b,o,vs,he,hc,hr⟩:=Sl.elem hsl hy;refine zL he zaV zG Y ?_;obtain ⟨u,rfl⟩:∃ u,vs=[u]:=by
   have q:=zcy.len hr
   match vs,q with
   | [u],_=>exact ⟨u,rfl⟩
  refine M 0 hsub hc zO Y ?_;refine zbN Y Y (zde (fs:=[]) (cs:=caps) Y Y hg Y) ((hf k y F I _ A hy hr _ Y).mono ?_);rintro e Q ⟨L,rfl,C⟩;refine ⟨_,Y,?_⟩;refine zb ?_;refine zap Y (fun H=>?_) (fun H=>?_)
  ·refine zaH ?_;refine zag<|za Y<|zc Y<|zj ?_
   repeat (first|refine zeJ ?_|refine zJ ?_)
   refine zk Tryz.results202 ?_;have hlt:k<xs.length:=by omega
   exact ⟨L,k,by rw[if_pos hlt];rfl,hk,hp,fun _=>H,by rw[if_pos hlt];exact C⟩
  ·refine zbj ?_;refine zaF ?_;refine zar rfl rfl (zjC rfl rfl zU) ?_;refine za Y<|zb ?_;refine ⟨⟨k+1,L⟩,⟨rfl,trivial⟩,?_,⟨C,by omega,?_⟩,?_⟩
   ·exact zaR
   ·intro j hj
    rcases Nat.lt_or_ge j k with P|P
    ·exact hp j P
    ·obtain rfl:j=k:=by omega
     exact H
   ·show xs.length-(k+1)<xs.length-k;omega
 ·replace B:=zrU B;refine zcC<|zz<|zx<|zc Y<|zj<|zk Tryz.results202 ?_;have hlt:¬ k<xs.length:=by omega
  exact ⟨F,k,by rw[if_neg hlt];rfl,hk,hp,fun q=>absurd q hlt,by rw[if_neg hlt];exact A⟩
theorem zjt {caps:List Value} (S:Nat→Heap→World→Prop) (p:Nat→Bool) (hS:∀ k h w,S k h w→Sub h w∧Sl zcy h v xs) (hf:∀ k x h w vs,S k h w→xs[k]?=some x→zcy.R h vs x→∀ u,vs=[u]→Calls Tryz.prog g (u::caps).toArray w (fun e w'=>∃ h',e=.returned (.bool (p k))∧S (k+1) h' w')) (hg:∀ a w,(callFunc g a).run Tryz.prog w=.ok (.enter g a) w) (h0:S 0 h w):
  Calls Tryz.prog 156 #[v,.func (.func g) #[] caps.toArray] w (fun e w'=>∃ h' k,e=.returned (.bool (decide (k<xs.length)))∧k≤xs.length∧(∀ j,j<k→p j=false)∧(k<xs.length→p k=true)∧S (if k<xs.length then k+1 else k) h' w'):=by
 refine zl 9 Tryz.func156 Y<|zx<|zd Y<|zb<|zx<|zq v Y<|zjR Y Y ?_;refine zbN Y Y (zbJ Y Tryz.call202 Y) ((zkc S p hS hf hg h0).mono ?_);rintro e I ⟨A,k,rfl,B,C,F,H⟩;refine ⟨_,Y,?_⟩;refine zkU Y Y Y<|zd Y<|zj<|zk Tryz.results156 ?_;refine ⟨A,k,congrArg Ending.returned (zM ?_),B,C,F,H⟩
 by_cases hlt:k<xs.length
 ·simp[hlt]
 ·simp[hlt]
theorem zeD {caps:List Value} (hs:Sub h w) (hx:Sl zcy h v xs) (q:Int→Bool) (hg:∀ a w,(callFunc g a).run Tryz.prog w=.ok (.enter g a) w) (hf:∀ x h' w' vs,Le h h'→Sub h' w'→x∈xs→zcy.R h' vs x→∀ u,vs=[u]→Calls Tryz.prog g (u::caps).toArray w' (zbe h' w' fun _ _ r=>r=.bool (q x))):
  Calls Tryz.prog 156 #[v,.func (.func g) #[] caps.toArray] w (zbe h w fun _ _ r=>r=.bool (xs.any q)):=by
 refine (zjt (fun k h' w'=>St h w h' w' []∧k≤xs.length) (fun k=>((xs[k]?).map q).getD false) (fun k h' w' hk=>⟨hk.1.sub,hx.up hk.1.le⟩) ?_ hg ⟨St.start hs,Nat.zero_le _⟩).mono ?_
 ·rintro k x h' w' vs ⟨st,_⟩ hk hr u hu;refine (hf x h' w' vs st.le st.sub (List.mem_of_getElem? hk) hr u hu).mono ?_;rintro e w'' ⟨h'',r,rfl,s,rfl⟩;obtain ⟨hlt,_⟩:=List.getElem?_eq_some_iff.1 hk;exact ⟨h'',by simp[hk],st.call0 s,hlt⟩
 ·rintro e w' ⟨h',k,rfl,H,B,C,F⟩;refine ⟨h',_,Y,F.1,zM ?_⟩
  by_cases hlt:k<xs.length
  ·have A:=C hlt;rw[List.getElem?_eq_getElem hlt] at A;simp only[Option.map_some,Option.getD_some] at A;have:xs.any q=true:=List.any_eq_true.2 ⟨_,List.getElem_mem hlt,A⟩;simp[hlt,this]
  ·have:xs.any q=false:=by
    rw[List.any_eq_false];intro x hx';obtain ⟨j,hj⟩:=List.mem_iff_getElem?.1 hx';obtain ⟨I,_⟩:=List.getElem?_eq_some_iff.1 hj;have:=B j zU;simpa [hj] using this
   simp[hlt,this]
theorem zgB {xs:List Decision} {caps:List Value} (S:Nat→Heap→World→Prop) (p:Nat→Bool) (hS:∀ k h w,S k h w→Sub h w∧Sl zau h v xs) (hf:∀ k x h w vs,S k h w→xs[k]?=some x→zau.R h vs x→∀ u,u=.agg vs.toArray→Calls Tryz.prog g (u::caps).toArray w (fun e w'=>∃ h',e=.returned (.bool (p k))∧S (k+1) h' w')) (hg:∀ a w,(callFunc g a).run Tryz.prog w=.ok (.enter g a) w) (h0:S 0 h w):
  Calls Tryz.prog 203 #[v,.func (.func g) #[] caps.toArray] w (fun e w'=>∃ h' k,e=.returned (iV (if k<xs.length then (k:Int) else -1))∧k≤xs.length∧(∀ j,j<k→p j=false)∧(k<xs.length→p k=true)∧S (if k<xs.length then k+1 else k) h' w'):=by
 refine zl 19 Tryz.func203 Y<|have hb:=(hS 0 h w h0).2.le;zx<|zc Y<|zb<|zat<|zq v Y<|zK (hS 0 h w h0).2 zbg Y<|za Y<|zb<|zT ?_;refine zaM ([4,5]++zcp 8 11) (G:=Nat×Heap) (fun ⟨k,_⟩=>[(8,iV (k:Int))]) (fun ⟨k,h'⟩ w'=>S k h' w'∧k≤xs.length∧∀ j,j<k→p j=false) (fun ⟨k,_⟩=>xs.length-k) ⟨0,h⟩ ⟨rfl,trivial⟩ ⟨h0,by omega,by intros;omega⟩ ?_;rintro ⟨k,F⟩ _ I ⟨A,hk,hp⟩;obtain ⟨hsub,hsl⟩:=hS k F I A;refine zx<|zN Y<|zb<|zaH ?_;refine zap Y (fun B=>?_) (fun B=>?_)
 ·replace B:=zrT B;refine zaN<|zT<|zx<|za Y<|zc Y<|zb<|zx<|zjR Y Y<|zq v Y<|za Y ?_;have hy:∃ y,xs[k]?=some y:=⟨_,List.getElem?_eq_getElem zU⟩;obtain ⟨y,hy⟩:=hy;obtain ⟨b,o,vs,he,hc,hr⟩:=Sl.elem hsl hy;refine zL he zbg zas Y<|zhQ hsub hc Y zbB zas (zau.len hr) Y ?_;refine zbN Y Y (zde (fs:=[]) (cs:=caps) Y Y hg Y) ((hf k y F I _ A hy hr _ Y).mono ?_);rintro e Q ⟨L,rfl,C⟩;refine ⟨_,Y,?_⟩;refine zb ?_;refine zap Y (fun H=>?_) (fun H=>?_)
  ·refine zaH ?_;refine zag<|za Y<|zc Y<|zj ?_
   repeat (first|refine zeJ ?_|refine zJ ?_)
   refine zk Tryz.results203 ?_;have hlt:k<xs.length:=by omega
   exact ⟨L,k,by rw[if_pos hlt];rfl,hk,hp,fun _=>H,by rw[if_pos hlt];exact C⟩
  ·refine zbj ?_;refine zaF ?_;refine zar rfl rfl (zjC rfl rfl zU) ?_;refine za Y<|zb ?_;refine ⟨⟨k+1,L⟩,⟨rfl,trivial⟩,?_,⟨C,by omega,?_⟩,?_⟩
   ·exact zaR
   ·intro j hj
    rcases Nat.lt_or_ge j k with P|P
    ·exact hp j P
    ·obtain rfl:j=k:=by omega
     exact H
   ·show xs.length-(k+1)<xs.length-k;omega
 ·replace B:=zrU B;refine zcC<|zz<|zx<|zc Y<|zj<|zk Tryz.results203 ?_;have hlt:¬ k<xs.length:=by omega
  exact ⟨F,k,by rw[if_neg hlt];rfl,hk,hp,fun q=>absurd q hlt,by rw[if_neg hlt];exact A⟩
theorem zgn {xs:List Decision} {caps:List Value} (S:Nat→Heap→World→Prop) (p:Nat→Bool) (hS:∀ k h w,S k h w→Sub h w∧Sl zau h v xs) (hf:∀ k x h w vs,S k h w→xs[k]?=some x→zau.R h vs x→∀ u,u=.agg vs.toArray→Calls Tryz.prog g (u::caps).toArray w (fun e w'=>∃ h',e=.returned (.bool (p k))∧S (k+1) h' w')) (hg:∀ a w,(callFunc g a).run Tryz.prog w=.ok (.enter g a) w) (h0:S 0 h w):
  Calls Tryz.prog 158 #[v,.func (.func g) #[] caps.toArray] w (fun e w'=>∃ h' k,e=.returned (.bool (decide (k<xs.length)))∧k≤xs.length∧(∀ j,j<k→p j=false)∧(k<xs.length→p k=true)∧S (if k<xs.length then k+1 else k) h' w'):=by
 refine zl 9 Tryz.func158 Y<|zx<|zd Y<|zb<|zx<|zq v Y<|zjR Y Y ?_;refine zbN Y Y (zbJ Y Tryz.call203 Y) ((zgB S p hS hf hg h0).mono ?_);rintro e I ⟨A,k,rfl,B,C,F,H⟩;refine ⟨_,Y,?_⟩;refine zkU Y Y Y<|zd Y<|zj<|zk Tryz.results158 ?_;refine ⟨A,k,congrArg Ending.returned (zM ?_),B,C,F,H⟩
 by_cases hlt:k<xs.length
 ·simp[hlt]
 ·simp[hlt]
theorem zjE {caps:List Value} (S:Nat→Heap→World→Prop) (p:Nat→Bool) (hS:∀ k h w,S k h w→Sub h w∧Sl LU8 h v xs) (hf:∀ k x h w vs,S k h w→xs[k]?=some x→LU8.R h vs x→∀ u,vs=[u]→Calls Tryz.prog g (u::caps).toArray w (fun e w'=>∃ h',e=.returned (.bool (p k))∧S (k+1) h' w')) (hg:∀ a w,(callFunc g a).run Tryz.prog w=.ok (.enter g a) w) (h0:S 0 h w):
  Calls Tryz.prog 237 #[v,.func (.func g) #[] caps.toArray] w (fun e w'=>∃ h' k,e=.returned (iV (if k<xs.length then (k:Int) else -1))∧k≤xs.length∧(∀ j,j<k→p j=false)∧(k<xs.length→p k=true)∧S (if k<xs.length then k+1 else k) h' w'):=by
 refine zl 19 Tryz.func237 Y<|have hb:=(hS 0 h w h0).2.le;zx<|zc Y<|zb<|zat<|zq v Y<|zK (hS 0 h w h0).2 Tryz.underlying312 Y<|za Y<|zb<|zT ?_;refine zaM ([4,5]++zcp 8 11) (G:=Nat×Heap) (fun ⟨k,_⟩=>[(8,iV (k:Int))]) (fun ⟨k,h'⟩ w'=>S k h' w'∧k≤xs.length∧∀ j,j<k→p j=false) (fun ⟨k,_⟩=>xs.length-k) ⟨0,h⟩ ⟨rfl,trivial⟩ ⟨h0,by omega,by intros;omega⟩ ?_;rintro ⟨k,F⟩ _ I ⟨A,hk,hp⟩;obtain ⟨hsub,hsl⟩:=hS k F I A;refine zx<|zN Y<|zb<|zaH ?_;refine zap Y (fun B=>?_) (fun B=>?_)
 ·replace B:=zrT B;refine zaN<|zT<|zx<|za Y<|zc Y<|zb<|zx<|zjR Y Y<|zq v Y<|za Y ?_;have hy:∃ y,xs[k]?=some y:=⟨_,List.getElem?_eq_getElem zU⟩;obtain ⟨y,hy⟩:=hy;obtain ⟨b,o,vs,he,hc,hr⟩:=Sl.elem hsl hy;refine zL he Tryz.underlying312 zbn Y ?_;obtain ⟨u,rfl⟩:∃ u,vs=[u]:=by
   have q:=LU8.len hr
   match vs,q with
   | [u],_=>exact ⟨u,rfl⟩
  refine M 0 hsub hc zbO Y ?_;refine zbN Y Y (zde (fs:=[]) (cs:=caps) Y Y hg Y) ((hf k y F I _ A hy hr _ Y).mono ?_);rintro e Q ⟨L,rfl,C⟩;refine ⟨_,Y,?_⟩;refine zb ?_;refine zap Y (fun H=>?_) (fun H=>?_)
  ·refine zaH ?_;refine zag<|za Y<|zc Y<|zj ?_
   repeat (first|refine zeJ ?_|refine zJ ?_)
   refine zk Tryz.results237 ?_;have hlt:k<xs.length:=by omega
   exact ⟨L,k,by rw[if_pos hlt];rfl,hk,hp,fun _=>H,by rw[if_pos hlt];exact C⟩
  ·refine zbj ?_;refine zaF ?_;refine zar rfl rfl (zjC rfl rfl zU) ?_;refine za Y<|zb ?_;refine ⟨⟨k+1,L⟩,⟨rfl,trivial⟩,?_,⟨C,by omega,?_⟩,?_⟩
   ·exact zaR
   ·intro j hj
    rcases Nat.lt_or_ge j k with P|P
    ·exact hp j P
    ·obtain rfl:j=k:=by omega
     exact H
   ·show xs.length-(k+1)<xs.length-k;omega
 ·replace B:=zrU B;refine zcC<|zz<|zx<|zc Y<|zj<|zk Tryz.results237 ?_;have hlt:¬ k<xs.length:=by omega
  exact ⟨F,k,by rw[if_neg hlt];rfl,hk,hp,fun q=>absurd q hlt,by rw[if_neg hlt];exact A⟩
theorem ziJ {caps:List Value} (S:Nat→Heap→World→Prop) (p:Nat→Bool) (hS:∀ k h w,S k h w→Sub h w∧Sl LU8 h v xs) (hf:∀ k x h w vs,S k h w→xs[k]?=some x→LU8.R h vs x→∀ u,vs=[u]→Calls Tryz.prog g (u::caps).toArray w (fun e w'=>∃ h',e=.returned (.bool (p k))∧S (k+1) h' w')) (hg:∀ a w,(callFunc g a).run Tryz.prog w=.ok (.enter g a) w) (h0:S 0 h w):
  Calls Tryz.prog 198 #[v,.func (.func g) #[] caps.toArray] w (fun e w'=>∃ h' k,e=.returned (.bool (decide (k<xs.length)))∧k≤xs.length∧(∀ j,j<k→p j=false)∧(k<xs.length→p k=true)∧S (if k<xs.length then k+1 else k) h' w'):=by
 refine zl 9 Tryz.func198 Y<|zx<|zd Y<|zb<|zx<|zq v Y<|zjR Y Y ?_;refine zbN Y Y (zbJ Y Tryz.call237 Y) ((zjE S p hS hf hg h0).mono ?_);rintro e I ⟨A,k,rfl,B,C,F,H⟩;refine ⟨_,Y,?_⟩;refine zkU Y Y Y<|zd Y<|zj<|zk Tryz.results198 ?_;refine ⟨A,k,congrArg Ending.returned (zM ?_),B,C,F,H⟩
 by_cases hlt:k<xs.length
 ·simp[hlt]
 ·simp[hlt]
theorem zjF {caps:List Value} (hs:Sub h w) (hx:Sl LU8 h v xs) (q:Int→Bool) (hg:∀ a w,(callFunc g a).run Tryz.prog w=.ok (.enter g a) w) (hf:∀ x h' w' vs,Le h h'→Sub h' w'→x∈xs→LU8.R h' vs x→∀ u,vs=[u]→Calls Tryz.prog g (u::caps).toArray w' (zbe h' w' fun _ _ r=>r=.bool (q x))):
  Calls Tryz.prog 198 #[v,.func (.func g) #[] caps.toArray] w (zbe h w fun _ _ r=>r=.bool (xs.any q)):=by
 refine (ziJ (fun k h' w'=>St h w h' w' []∧k≤xs.length) (fun k=>((xs[k]?).map q).getD false) (fun k h' w' hk=>⟨hk.1.sub,hx.up hk.1.le⟩) ?_ hg ⟨St.start hs,Nat.zero_le _⟩).mono ?_
 ·rintro k x h' w' vs ⟨st,_⟩ hk hr u hu;refine (hf x h' w' vs st.le st.sub (List.mem_of_getElem? hk) hr u hu).mono ?_;rintro e w'' ⟨h'',r,rfl,s,rfl⟩;obtain ⟨hlt,_⟩:=List.getElem?_eq_some_iff.1 hk;exact ⟨h'',by simp[hk],st.call0 s,hlt⟩
 ·rintro e w' ⟨h',k,rfl,H,B,C,F⟩;refine ⟨h',_,Y,F.1,zM ?_⟩
  by_cases hlt:k<xs.length
  ·have A:=C hlt;rw[List.getElem?_eq_getElem hlt] at A;simp only[Option.map_some,Option.getD_some] at A;have:xs.any q=true:=List.any_eq_true.2 ⟨_,List.getElem_mem hlt,A⟩;simp[hlt,this]
  ·have:xs.any q=false:=by
    rw[List.any_eq_false];intro x hx';obtain ⟨j,hj⟩:=List.mem_iff_getElem?.1 hx';obtain ⟨I,_⟩:=List.getElem?_eq_some_iff.1 hj;have:=B j zU;simpa [hj] using this
   simp[hlt,this]
theorem zwD (hs:Sub h w) (n:Int) (lo_c:zay h lo_b 0 [iV lo]) (hi_c:zay h hi_b 0 [iV hi]):Calls Tryz.prog 191 #[iV n,.pointer (some ⟨lo_b,0,none⟩),.pointer (some ⟨hi_b,0,none⟩)] w (zbe h w (fun _ _ res_=>res_=.bool ((decide (n<lo) || decide (hi<n))))):=by
 refine zl 13 Tryz.func191 Y<|have A:=zbM hs;zx<|zd Y<|zb<|zx<|za Y<|M 0 A.sub lo_c zO Y<|zN Y<|zt Y ?_;refine zaC (d:=8) Y (fun B=>?_) (fun B=>?_)
 ·refine zaf 3 Y<|zi Y<|zd Y<|zj<|zk Tryz.results191 ?_;refine ⟨h,_,Y,A.done,?_⟩;refine zM ?_
  first|(simp_all;done)|(simp_all;omega)
 refine Z Y<|za Y<|Z Y<|M 0 A.sub hi_c zO Y<|Z Y<|zfe Y Y Y<|zh Y<|zd Y<|zj<|zk Tryz.results191 ?_;refine ⟨h,_,Y,A.done,?_⟩;refine zM ?_
 first|(simp_all;done)|(simp_all;omega)
theorem zeL (hs:Sub h w) (lo:Int) (hi:Int) (all__f:Sl zcy h all__v all_):Calls Tryz.prog 142 #[iV lo,iV hi,all__v] w (zbe h w (fun _ _ res_=>res_=.bool (zcJ all_ lo hi))):=by
 refine zl 11 Tryz.func142 Y<|have H:=zbM hs;have all__f_b:=all__f.le;zx<|ze [iV lo] H Y<|fun b1 w2 h3 I L P=>ze [iV hi] P Y<|fun b7 w8 h9 A C B=>zd Y<|zb<|zx<|zq all__v Y<|zeo Y Y Y ?_;have Q:=I.t A;refine zaD B rfl rfl rfl Tryz.call156 rfl (zeD B.sub (all__f.up Q) (fun x_=>(decide ((x_)<(lo)) || decide ((hi)<(x_)))) Tryz.call191 (fun x_ h_ w_ vs_ le_ hs_ hx_ hr_ u_ hu_=>by cases hu_;cases hr_;exact zwD hs_ _ (lo:=lo) ((L.up A).up le_) (hi:=hi) (C.up le_))) ?_;intro a1 a2 S a0 F T;obtain rfl:=T;refine zcq Y Y<|zd Y<|zj<|zk Tryz.results142 ?_;refine ⟨S,_,Y,F.done,?_⟩;refine zM ?_;exact zpP all_ lo hi
theorem zwB (hs:Sub h w) (n:Int) (lo_c:zay h lo_b 0 [iV lo]) (hi_c:zay h hi_b 0 [iV hi]):Calls Tryz.prog 157 #[iV n,.pointer (some ⟨lo_b,0,none⟩),.pointer (some ⟨hi_b,0,none⟩)] w (zbe h w (fun _ _ res_=>res_=.bool ((decide (n<lo) || decide (hi<n))))):=by
 refine zl 13 Tryz.func157 Y<|have A:=zbM hs;zx<|zd Y<|zb<|zx<|za Y<|M 0 A.sub lo_c zO Y<|zN Y<|zt Y ?_;refine zaC (d:=8) Y (fun B=>?_) (fun B=>?_)
 ·refine zaf 3 Y<|zi Y<|zd Y<|zj<|zk Tryz.results157 ?_;refine ⟨h,_,Y,A.done,?_⟩;refine zM ?_
  first|(simp_all;done)|(simp_all;omega)
 refine Z Y<|za Y<|Z Y<|M 0 A.sub hi_c zO Y<|Z Y<|zfe Y Y Y<|zh Y<|zd Y<|zj<|zk Tryz.results157 ?_;refine ⟨h,_,Y,A.done,?_⟩;refine zM ?_
 first|(simp_all;done)|(simp_all;omega)
theorem zmj (hs:Sub h w) (lo:Int) (hi:Int) (all__f:Sl zcy h all__v all_):Calls Tryz.prog 101 #[iV lo,iV hi,all__v] w (zbe h w (fun _ _ res_=>res_=.bool (zcJ all_ lo hi))):=by
 refine zl 11 Tryz.func101 Y<|have H:=zbM hs;have all__f_b:=all__f.le;zx<|ze [iV lo] H Y<|fun b1 w2 h3 I L P=>ze [iV hi] P Y<|fun b7 w8 h9 A C B=>zd Y<|zb<|zx<|zq all__v Y<|zeo Y Y Y ?_;have Q:=I.t A;refine zaD B rfl rfl rfl Tryz.call156 rfl (zeD B.sub (all__f.up Q) (fun x_=>(decide ((x_)<(lo)) || decide ((hi)<(x_)))) Tryz.call157 (fun x_ h_ w_ vs_ le_ hs_ hx_ hr_ u_ hu_=>by cases hu_;cases hr_;exact zwB hs_ _ (lo:=lo) ((L.up A).up le_) (hi:=hi) (C.up le_))) ?_;intro a1 a2 S a0 F T;obtain rfl:=T;refine zcq Y Y<|zd Y<|zj<|zk Tryz.results101 ?_;refine ⟨S,_,Y,F.done,?_⟩;refine zM ?_;exact zpP all_ lo hi
theorem zvn (hs:Sub h w) (n:Int) (lo_c:zay h lo_b 0 [iV lo]) (hi_c:zay h hi_b 0 [iV hi]):Calls Tryz.prog 223 #[iV n,.pointer (some ⟨lo_b,0,none⟩),.pointer (some ⟨hi_b,0,none⟩)] w (zbe h w (fun _ _ res_=>res_=.bool ((decide (n<lo) || decide (hi<n))))):=by
 refine zl 13 Tryz.func223 Y<|have A:=zbM hs;zx<|zd Y<|zb<|zx<|za Y<|M 0 A.sub lo_c zO Y<|zN Y<|zt Y ?_;refine zaC (d:=8) Y (fun B=>?_) (fun B=>?_)
 ·refine zaf 3 Y<|zi Y<|zd Y<|zj<|zk Tryz.results223 ?_;refine ⟨h,_,Y,A.done,?_⟩;refine zM ?_
  first|(simp_all;done)|(simp_all;omega)
 refine Z Y<|za Y<|Z Y<|M 0 A.sub hi_c zO Y<|Z Y<|zfe Y Y Y<|zh Y<|zd Y<|zj<|zk Tryz.results223 ?_;refine ⟨h,_,Y,A.done,?_⟩;refine zM ?_
 first|(simp_all;done)|(simp_all;omega)
theorem zlr (hs:Sub h w) (lo:Int) (hi:Int) (all__f:Sl zcy h all__v all_):Calls Tryz.prog 179 #[iV lo,iV hi,all__v] w (zbe h w (fun _ _ res_=>res_=.bool (zcJ all_ lo hi))):=by
 refine zl 11 Tryz.func179 Y<|have H:=zbM hs;have all__f_b:=all__f.le;zx<|ze [iV lo] H Y<|fun b1 w2 h3 I L P=>ze [iV hi] P Y<|fun b7 w8 h9 A C B=>zd Y<|zb<|zx<|zq all__v Y<|zeo Y Y Y ?_;have Q:=I.t A;refine zaD B rfl rfl rfl Tryz.call156 rfl (zeD B.sub (all__f.up Q) (fun x_=>(decide ((x_)<(lo)) || decide ((hi)<(x_)))) Tryz.call223 (fun x_ h_ w_ vs_ le_ hs_ hx_ hr_ u_ hu_=>by cases hu_;cases hr_;exact zvn hs_ _ (lo:=lo) ((L.up A).up le_) (hi:=hi) (C.up le_))) ?_;intro a1 a2 S a0 F T;obtain rfl:=T;refine zcq Y Y<|zd Y<|zj<|zk Tryz.results179 ?_;refine ⟨S,_,Y,F.done,?_⟩;refine zM ?_;exact zpP all_ lo hi
theorem zwC (hs:Sub h w) (n:Int) (lo_c:zay h lo_b 0 [iV lo]) (hi_c:zay h hi_b 0 [iV hi]):Calls Tryz.prog 160 #[iV n,.pointer (some ⟨lo_b,0,none⟩),.pointer (some ⟨hi_b,0,none⟩)] w (zbe h w (fun _ _ res_=>res_=.bool ((decide (n<lo) || decide (hi<n))))):=by
 refine zl 13 Tryz.func160 Y<|have A:=zbM hs;zx<|zd Y<|zb<|zx<|za Y<|M 0 A.sub lo_c zO Y<|zN Y<|zt Y ?_;refine zaC (d:=8) Y (fun B=>?_) (fun B=>?_)
 ·refine zaf 3 Y<|zi Y<|zd Y<|zj<|zk Tryz.results160 ?_;refine ⟨h,_,Y,A.done,?_⟩;refine zM ?_
  first|(simp_all;done)|(simp_all;omega)
 refine Z Y<|za Y<|Z Y<|M 0 A.sub hi_c zO Y<|Z Y<|zfe Y Y Y<|zh Y<|zd Y<|zj<|zk Tryz.results160 ?_;refine ⟨h,_,Y,A.done,?_⟩;refine zM ?_
 first|(simp_all;done)|(simp_all;omega)
theorem zuL (hs:Sub h w) (lo:Int) (hi:Int) (all__f:Sl zcy h all__v all_):Calls Tryz.prog 105 #[iV lo,iV hi,all__v] w (zbe h w (fun _ _ res_=>res_=.bool (zcJ all_ lo hi))):=by
 refine zl 11 Tryz.func105 Y<|have H:=zbM hs;have all__f_b:=all__f.le;zx<|ze [iV lo] H Y<|fun b1 w2 h3 I L P=>ze [iV hi] P Y<|fun b7 w8 h9 A C B=>zd Y<|zb<|zx<|zq all__v Y<|zeo Y Y Y ?_;have Q:=I.t A;refine zaD B rfl rfl rfl Tryz.call156 rfl (zeD B.sub (all__f.up Q) (fun x_=>(decide ((x_)<(lo)) || decide ((hi)<(x_)))) Tryz.call160 (fun x_ h_ w_ vs_ le_ hs_ hx_ hr_ u_ hu_=>by cases hu_;cases hr_;exact zwC hs_ _ (lo:=lo) ((L.up A).up le_) (hi:=hi) (C.up le_))) ?_;intro a1 a2 S a0 F T;obtain rfl:=T;refine zcq Y Y<|zd Y<|zj<|zk Tryz.results105 ?_;refine ⟨S,_,Y,F.done,?_⟩;refine zM ?_;exact zpP all_ lo hi
theorem ztQ (hs:Sub h w) (b:Int) (b_l:0≤b∧b≤255):Calls Tryz.prog 199 #[.int .u8 b] w (zbe h w (fun _ _ res_=>res_=.bool ((decide (b<97) || decide (122<b))))):=by
 refine zl 9 Tryz.func199 Y<|have A:=zbM hs;zx<|zd Y<|zb<|zx<|za Y<|zN Y<|zt Y ?_;refine zaC (d:=5) Y (fun B=>?_) (fun B=>?_)
 ·refine zaf 2 Y<|zi Y<|zd Y<|zj<|zk Tryz.results199 ?_;refine ⟨h,_,Y,A.done,?_⟩;refine zM ?_
  first|(simp_all;done)|(simp_all;omega)
 refine Z Y<|za Y<|Z Y<|zfe Y Y Y<|zh Y<|zd Y<|zj<|zk Tryz.results199 ?_;refine ⟨h,_,Y,A.done,?_⟩;refine zM ?_
 first|(simp_all;done)|(simp_all;omega)
theorem znI (hs:Sub h w) (s:Str) (s_le:s.length≤281474976710656):Calls Tryz.prog 151 #[zae s] w (zbe h w (fun _ _ res_=>res_=.bool (zdI s))):=by
 refine zl 13 Tryz.func151 Y<|have H:=zbM hs;zx<|zd Y<|zb<|zx<|zdc Y Y<|zdG Y zbx Y<|zA zcy [(s.length:Int)] [iV (s.length:Int)] H (Enc.cons (L:=zcy) (vs:=[iV (s.length:Int)]) (x:=(s.length:Int)) (h:=h) (Y) Enc.nil) Y zaV Tryz.info3 zbL<|fun v1 w2 h5 a2 f3 C=>zn C Y zeP (zeL C.sub _ _ f3)<|fun r7 w8 h9 T A I=>?_;obtain rfl:=I;refine zt Y ?_;refine zbp (d:=7) Y (fun P=>?_) (fun P=>?_)
 ·refine Z Y<|zdc Y Y<|Z Y ?_;refine ztZ A (s:=s) rfl (by first|assumption|omega|(simp;omega)) rfl zbx Tryz.underlying312 Tryz.underlying5 zbn ?_;intro a3 a4 a5 a0 f18 B;refine Z Y ?_;refine zaD B rfl rfl rfl Tryz.call198 rfl (zjF B.sub f18 (fun x_=>(decide ((x_)<97) || decide (122<(x_)))) Tryz.call199 (fun x_ h_ w_ vs_ le_ hs_ hx_ hr_ u_ hu_=>by cases hu_;obtain ⟨hr1_,hr2_⟩:=hr_;cases hr1_;exact ztQ hs_ _ hr2_)) ?_;intro a6 a7 Q a1 F S;obtain rfl:=S;refine Z Y<|zcq Y Y<|zi Y<|zd Y<|zj<|zk Tryz.results151 ?_;refine ⟨Q,_,Y,F.done,?_⟩;refine zM ?_;simp_all[zvB]
 refine zaf 4 Y<|zh Y<|zd Y<|zj<|zk Tryz.results151 ?_;refine ⟨h9,_,Y,A.done,?_⟩;refine zM ?_;simp_all[zvB]
theorem zti (hs:Sub h w) (s:Str) (s_le:s.length≤281474976710656):Calls Tryz.prog 150 #[zae s] w (zbe h w (fun _ _ res_=>res_=.bool ((!zdI s)))):=by
 refine zl 6 Tryz.func150 Y<|have A:=zbM hs;zx<|zd Y<|zb<|zx<|zdc Y Y<|zn A Y Tryz.call151 (znI A.sub _ zbq)<|fun I L C F B H=>?_;obtain rfl:=H;refine zcq Y Y<|zd Y<|zj<|zk Tryz.results150 ?_;refine ⟨C,_,Y,B.done,?_⟩;refine zM ?_;rfl
theorem zmS (hs:Sub h w) {t:Text} (t_f0:Sl zax h t_v0 t.chapters):Calls Tryz.prog 97 #[.agg #[t_v0]] w (zbe h w (fun _ _ res_=>res_=iV ((if zbF t then 0 else 10)))):=by
 refine zl 64 Tryz.func97 Y<|have h0:=zbM hs;have e6:=t_f0.le;zx<|ze [t_v0] h0 Y<|fun b1 w2 h3 e7 e8 e9=>zc Y<|zb<|zvq<|zat<|U zaI Y zbi<|M 0 e9.sub e8 zbI Y<|zK (t_f0.up e7) zav Y<|zA zcy [(t.chapters.length:Int)] [iV (t.chapters.length:Int)] e9 (Enc.cons (L:=zcy) (vs:=[iV (t.chapters.length:Int)]) (x:=(t.chapters.length:Int)) (h:=h3) (Y) Enc.nil) Y zaV Tryz.info3 zbL<|fun v7 w8 j8 b3 f9 b4=>zn b4 Y zeP (zeL b4.sub _ _ f9)<|fun j9 k0 c8 b5 b6 h1=>?_;subst h1;refine zcq Y Y<|zb ?_;refine zap Y (fun h2=>?_) (fun h2=>?_)
 ·refine zx<|zc Y<|zj<|zJ<|zik<|zk zif ?_;refine ⟨c8,_,Y,b6.done,?_⟩;refine zaB ?_;simp_all[zbF]
 refine zdF<|zx<|zc Y<|zb<|zx<|zgP (κ:=Int) (υ:=Bool) (ek:=(fun n:Int=>iV n)) (eu:=(fun b:Bool=>.bool b)) b6 Y<|fun k1 h4 k3 f23 b7=>?_;obtain ⟨H,rfl⟩:=f23.form;have d2:(([]:List (Int×Bool)).map (·.1)).Nodup:=by simp
 refine zH (.map (some H)) Y<|zb<|zaH<|zvs<|zz<|zat<|U zaI Y zbi<|M 0 b7.sub (e8.up (b3.t b5)) zbI Y<|have g0:=(e7.t b3).t b5;zK (t_f0.up g0) zav Y<|za Y<|zb<|zT ?_;refine zaM ([2,3,6,8]++zcp 19 44) (G:=Nat×List (Int×Bool)×List (Nat×Obj)×Heap) (fun ⟨i,m,A,b2⟩=>[(3,iV 0),(19,iV (i:Int))]) (fun ⟨i,m,A,b2⟩ w'=>Le c8 b2∧St h w b2 w' [A]∧(OM (fun n:Int=>iV n) (fun b:Bool=>.bool b) (m) A (.map (some H)))∧(((m).map (·.1)).Nodup)∧(i≤t.chapters.length)∧((t.chapters.take i).all zcN=true)∧(((t.chapters.take i).map (·.id)).Nodup)∧(∀ k,(zcb m k).getD false=decide (k∈(t.chapters.take i).map (·.id)))) (fun ⟨i,m,A,b2⟩=>t.chapters.length-i) ⟨0,[],h4,c8⟩ ⟨rfl,rfl,trivial⟩ ⟨Le.refl _,b7,(by have q:=f23;exact q),(by have q:=d2;exact q),zbm,zbm,zbm,(by intro k;simp[zcb])⟩ ?_;rintro ⟨i,m,A,b2⟩ _ k4 ⟨b8,a4,I,T,hi,hA,hN,hm⟩;refine zx<|zN Y<|zb<|zaH ?_;refine zS Y (fun h5=>?_) (fun h5=>?_)
 ·refine zaN<|zT<|zx ?_;obtain ⟨c,hc⟩:∃ y_,(t.chapters)[i]?=some y_:=zch zU;have h6:=g0.t b8;obtain ⟨k5,k6,_,d3,d4,hr_c⟩:=Sl.elem (t_f0.up h6) hc;obtain ⟨k7,rfl,f39⟩:=hr_c;have g8:=f39.le;refine zL d3 zav zbb Y<|zg a4.sub d4 zgw zbb Y<|zad a4 zeu Y Y<|fun k8 k9 d5=>zbE d5 (k:=1) Y Y Y (zaX Y (zaX f39.one zdv)) zbb Y Y Y<|fun l0 d6=>?_;obtain ⟨h7,a5,d7,b9⟩:=d6.freeze (k:=1) rfl;have P:=zay.of d7;refine zb<|zat<|U zaz Y zG<|M 0 b9.sub P zO Y<|zA zcy [(c.id)] [iV (c.id)] b9 (Enc.cons (L:=zcy) (vs:=[iV (c.id)]) (x:=(c.id)) (h:=h7) (Y) Enc.nil) Y zaV Tryz.info3 zbL<|fun l1 l2 l3 B f52 c0=>zn c0 Y zeP (zeL c0.sub _ _ f52)<|fun l4 l5 c9 C F h8=>?_;subst h8;refine zcq Y Y<|zt Y ?_;refine zbp (d:=28) Y (fun g1=>?_) (fun g1=>?_)
  ·refine zaf 4 Y<|zi Y<|zt Y<|zaf 6 Y<|zi Y<|zb ?_;refine zap Y (fun g2=>?_) (fun g2=>?_)
   ·refine zx<|zc Y<|zj<|zJ<|zan<|zJ<|zan<|zik<|zk zif ?_;refine ⟨c9,_,Y,F.done,?_⟩;refine zaB ?_;have q0:zcN c=false:=by
     have q:=g1;simp at q;simp[zcN,q]
    have q:=zcO (p:=zcN) hc q0;simp[zbF,q]
   cases g2
  refine Z Y<|zq (.map (some H)) Y<|Z Y<|U zaz Y zG<|Z Y<|M 0 F.sub (P.up (B.t C)) zO Y<|Z Y<|zQ Y (zzO (k:=(c.id)) (zu:=false) (zmA zcu) Tryz.underlying196 I (F.ent (k:=0) Y) Tryz.zeroValue4 Y Y Y)<|zh Y<|zt Y ?_;refine zbp (d:=34) Y (fun g3=>?_) (fun g3=>?_)
  ·refine zaf 6 Y<|zi Y<|zb ?_;refine zap Y (fun g4=>?_) (fun g4=>?_)
   ·refine zx<|zc Y<|zj<|zJ<|zan<|zJ<|zan<|zik<|zk zif ?_;refine ⟨c9,_,Y,F.done,?_⟩;refine zaB ?_;have q0:=g3;rw[hm] at q0;have q:=zlV (f:=(·.id)) hc (by simpa using q0);simp[zbF,q]
   cases g4
  refine Z Y<|U zaz Y zbu<|Z Y<|M 1 F.sub (P.up (B.t C)) zbS Y<|Z Y<|zK (f39.up ((a5.t B).t C)) zaJ Y<|Z Y<|zA zcy [(c.lines.length:Int)] [iV (c.lines.length:Int)] F (Enc.cons (L:=zcy) (vs:=[iV (c.lines.length:Int)]) (x:=(c.lines.length:Int)) (h:=c9) (Y) Enc.nil) Y zaV Tryz.info3 zbL<|fun l6 l7 l8 a6 f68 c1=>Z Y<|zn c1 Y zeP (zeL c1.sub _ _ f68)<|fun l9 m0 d0 a7 a8 h9=>?_;subst h9;refine Z Y<|zcq Y Y<|zh Y<|zb ?_;refine zap Y (fun g5=>?_) (fun g5=>?_)
  ·refine zx<|zc Y<|zj<|zJ<|zan<|zJ<|zan<|zik<|zk zif ?_;refine ⟨d0,_,Y,a8.done,?_⟩;refine zaB ?_;have q0:zcN c=false:=by
    have q:=g5;simp at q;simp[zcN,q]
   have q:=zcO (p:=zcN) hc q0;simp[zbF,q]
  refine zdF<|zx<|zq (.map (some H)) Y<|U zaz Y zG<|have g6:=((B.t C).t a6).t a7;M 0 a8.sub (P.up g6) zO Y<|zlu (i:=0) a8 I Y T (zmA zcu) Tryz.underlying196 Y (k:=(c.id)) Y (u:=true) Y<|fun j0 m1 _ j1 f83 d8 c2=>?_;subst j1;refine zb<|zx<|U zaz Y zbu<|M 1 c2.sub (P.up g6) zbS Y<|have g7:=(((a5.t B).t C).t a6).t a7;zK (f39.up g7) zaJ Y<|za Y<|zb<|zT ?_;refine zaM ([3,8]++zcp 48 14) (G:=Nat×List (Nat×Obj)×Heap) (fun ⟨k2,A,Q⟩=>[(3,iV 0),(48,iV (k2:Int))]) (fun ⟨k2,A,Q⟩ w'=>Le d0 Q∧St h w Q w' [A,[]]∧(OM (fun n:Int=>iV n) (fun b:Bool=>.bool b) (zgd m c.id true) A (.map (some H)))∧(((zgd m c.id true).map (·.1)).Nodup)∧(k2≤c.lines.length)∧((c.lines.take k2).all ziz=true)) (fun ⟨k2,A,Q⟩=>c.lines.length-k2) ⟨0,j0,d0⟩ ⟨rfl,rfl,trivial⟩ ⟨Le.refl _,c2,(by have q:=f83;exact q),(by have q:=d8;exact q),zbm,zbm⟩ ?_;rintro ⟨k2,A,Q⟩ _ m2 ⟨a9,b0,I,T,m3,hl⟩;refine zx<|zN Y<|zb<|zaH ?_;refine zS Y (fun j2=>?_) (fun j2=>?_)
  ·refine zaN<|zT<|zx ?_;obtain ⟨ln,hln⟩:∃ y_,(c.lines)[k2]?=some y_:=zch zU;obtain ⟨m4,m5,_,d9,e0,hr_ln⟩:=Sl.elem (f39.up (g7.t a9)) hln;obtain ⟨d1,rfl,f97⟩:=hr_ln;have g9:=f97.le;refine zL d9 zaJ zdd Y<|M 0 b0.sub e0 zdx Y<|zH d1 Y<|zb<|zx<|zq d1 Y<|zK f97 zC Y<|zA zcy [(ln.length:Int)] [iV (ln.length:Int)] b0 (Enc.cons (L:=zcy) (vs:=[iV (ln.length:Int)]) (x:=(ln.length:Int)) (h:=Q) (Y) Enc.nil) Y zaV Tryz.info3 zbL<|fun m6 m7 j3 a0 f100 a1=>zn a1 Y zeP (zeL a1.sub _ _ f100)<|fun j4 j5 e1 a2 S e2=>?_;subst e2;refine zcq Y Y<|zt Y ?_;refine zbp (d:=57) Y (fun c3=>?_) (fun c3=>?_)
   ·refine zaf 2 Y<|zi Y<|zb ?_;refine zap Y (fun c4=>?_) (fun c4=>?_)
    ·refine zx<|zc Y<|zb<|zhq<|zim Y<|zcV<|zcV<|zim Y<|zim Y<|zcV<|zcV<|zgg<|zz<|zx<|za Y<|zc Y<|zj<|zik<|zk zif ?_;refine ⟨e1,_,Y,S.done,?_⟩;refine zaB ?_;have q1:ziz ln=false:=by
      have q:=c3;simp at q;simp[ziz,q]
     have q2:=zcO (p:=ziz) hln q1;have q0:zcN c=false:=by simp[zcN,q2]
     have q:=zcO (p:=zcN) hc q0;simp[zbF,q]
    cases c4
   refine Z Y<|zq d1 Y<|Z Y ?_;refine zaD S rfl rfl rfl Tryz.call149 rfl (ziD S.sub (f97.up (a0.t a2)) (fun x_=>(!zdI (x_))) Tryz.call150 (fun x_ h_ w_ vs_ le_ hs_ hx_ hr_ u_ hu_=>by cases hu_;obtain ⟨hr1_,hr2_⟩:=hr_;cases hr1_;simp only[big] at hr2_;exact zti hs_ _ hr2_)) ?_;intro j6 j7 c5 c7 a3 e3;subst e3;refine zh Y<|zb ?_;refine zap Y (fun c6=>?_) (fun c6=>?_)
   ·refine zx<|zc Y<|zb<|zhq<|zim Y<|zcV<|zcV<|zim Y<|zim Y<|zcV<|zcV<|zgg<|zz<|zx<|za Y<|zc Y<|zj<|zik<|zk zif ?_;refine ⟨c5,_,Y,a3.done,?_⟩;refine zaB ?_;have q1:ziz ln=false:=by
     have q:=c6;rw[zrN] at q;simp only[ziz,Bool.and_eq_false_iff];right;simpa using q
    have q2:=zcO (p:=ziz) hln q1;have q0:zcN c=false:=by simp[zcN,q2]
    have q:=zcO (p:=zcN) hc q0;simp[zbF,q]
   refine zbj<|zaF<|zy Y zaS<|za Y<|zb ?_;have e4:=((a9.t a0).t a2).t c7;refine ⟨⟨k2+1,A,c5⟩,⟨rfl,Y,trivial⟩,?_,⟨e4,a3,?_,?_,?_,?_⟩,?_⟩
   ·exact zaR
   ·have q:=I;exact q
   ·have q:=T;exact q
   ·first|omega|(simp;omega)
   ·exact zcY hl hln (by simp_all[ziz])
   show c.lines.length-((k2+1))<c.lines.length-k2;omega
  refine zcC<|zaF<|zy Y zaS<|za Y<|zb ?_;have HCH:zcN c=true:=by
   have q:=zcs hl zU;simp_all[zcN]
  have HD:(zcb m c.id).getD false=false:=by simp_all
  have e5:=(((((b8.t a5).t B).t C).t a6).t a7).t a9;refine ⟨⟨i+1,zgd m c.id true,A,Q⟩,⟨rfl,Y,trivial⟩,?_,⟨e5,b0.take 1,?_,?_,?_,?_,?_,?_⟩,?_⟩
  ·exact zaR
  ·have q:=I;exact q
  ·have q:=T;exact q
  ·first|omega|(simp;omega)
  ·exact zcY hA hc HCH
  ·rw[zaQ hc,List.map_append,List.nodup_append];refine ⟨hN,by simp,?_⟩;intro a ha b hb e;simp only[List.map_cons,List.map_nil,List.mem_singleton] at hb;subst hb;subst e;rw[hm] at HD;exact absurd ha (by simpa using HD)
  ·intro k;rw[zhz,zaQ hc,List.map_append]
   by_cases e:k=c.id
   ·simp[e]
   ·simp only[if_neg e,hm];simp[e]
  show t.chapters.length-((i+1))<t.chapters.length-i;omega
 refine zcC<|zz<|zx<|za Y<|zc Y<|zj<|zik<|zk zif ?_;refine ⟨b2,_,Y,a4.done,?_⟩;refine zaB ?_;have q:=zcs hA zU;have q2:t.chapters.take i=t.chapters:=List.take_of_length_le zU;rw[q2] at hN;simp_all[zbF]
theorem zmk (hs:Sub h w) {a_v:Value} {a:(List Str)} (a_f:Sl zcn h a_v a) {b_v:Value} {b:(List Str)} (b_f:Sl zcn h b_v b):Calls Tryz.prog 112 #[a_v,b_v] w (zbe h w (fun _ _ res_=>res_=.bool (decide (a=b)))):=by
 refine zl 26 Tryz.func112 Y<|have I:=zbM hs;have a_f_b:=a_f.le;have b_f_b:=b_f.le;zx<|zd Y<|zb<|zat<|zq a_v Y<|zK a_f zC Y<|zq b_v Y<|zK b_f zC Y<|zao Y<|zb ?_;refine zS Y (fun c1=>?_) (fun c1=>?_)
 ·refine zx<|zd Y<|zj<|zJ<|zk Tryz.results112 ?_;refine ⟨h,_,Y,I.done,?_⟩;refine zM ?_;have q:a≠b:=by
   rintro rfl;simp_all
  simp[q]
 refine zaN<|zx<|zc Y<|zb<|zT ?_;refine zaM ([4,5]++zcp 11 15) (G:=Nat×Heap) (fun ⟨k,C⟩=>[(5,iV (k:Int))]) (fun ⟨k,C⟩ w'=>Le h C∧St h w C w' []∧(k≤a.length)∧(a.take k=b.take k)) (fun ⟨k,C⟩=>a.length-k) ⟨0,h⟩ ⟨rfl,trivial⟩ ⟨Le.refl _,I,zbm,zbm⟩ ?_;rintro ⟨k,C⟩ _ w5 ⟨A,F,hk,he⟩;refine zat<|za Y<|zq a_v Y<|zK (a_f.up A) zC Y<|zN Y<|zb ?_;refine zS Y (fun c6=>?_) (fun c6=>?_)
 ·refine zaN<|zT<|zaH<|zbZ Tryz.mixed zbL (Cls C _) (Cls.drew F)<|zbc a_v Y<|zcW Y Y ?_;obtain ⟨x,hx⟩:∃ y_,(a)[k]?=some y_:=zch zU;obtain ⟨b7,o8,_,L,a2,hr_x⟩:=Sl.elem (a_f.up A) hx;obtain ⟨rfl,P⟩:=hr_x;simp only[big] at P;refine zaq L zC zaj Y<|zp Y (fun _ hC=>(zX (j:=0) hC.sub a2 Y Y Y zaK))<|zbc b_v Y<|zcW Y Y ?_;obtain ⟨y,hy⟩:∃ y_,(b)[k]?=some y_:=zch zU;obtain ⟨a4,a5,_,Q,S,hr_y⟩:=Sl.elem (b_f.up A) hy;obtain ⟨rfl,T⟩:=hr_y;simp only[big] at T;refine zaq Q zC zaj Y<|zp Y (fun _ hC=>(zX (j:=0) hC.sub S Y Y Y zaK))<|zp Y (fun _ _=>(zkz Y Y))<|zbl ?_;rintro a6 ⟨a0,a1⟩;have B:=F.call0 a1;refine zz ?_;refine zS Y (fun H=>?_) (fun H=>?_)
  ·refine zx<|zd Y<|zj<|zan<|zJ<|zan<|zk Tryz.results112 ?_;refine ⟨a0,_,Y,B.done,?_⟩;refine zM ?_;have q:=zfR hx hy (by simpa using H);simp[q]
  refine zbj<|zaF<|za Y<|zy Y zaS<|zc Y<|zb ?_;have a3:=A.trans a1.le;refine ⟨⟨k+1,a0⟩,⟨rfl,trivial⟩,?_,⟨a3,B,?_,?_⟩,?_⟩
  ·exact zaR
  ·first|omega|(simp;omega)
  ·exact zfp he hx hy (by simpa using H)
  show a.length-((k+1))<a.length-k;omega
 refine zcC<|zz<|zx<|zd Y<|zj<|zk Tryz.results112 ?_;refine ⟨C,_,Y,F.done,?_⟩;refine zM ?_;have q:=zgt he zU zU;simp[q]
theorem zpj (hs:Sub h w) {a:Text} (a_f0:Sl zax h a_v0 a.chapters) {b:Text} (b_f0:Sl zax h b_v0 b.chapters):Calls Tryz.prog 57 #[.agg #[a_v0],.agg #[b_v0]] w (zbe h w (fun _ _ res_=>res_=.bool (decide (a=b)))):=by
 refine zl 66 Tryz.func57 Y<|have e8:=zbM hs;have d7:=a_f0.le;have d8:=b_f0.le;zx<|ze [a_v0] e8 Y<|fun b1 w2 h3 e9 b0 g0=>ze [b_v0] g0 Y<|fun b7 w8 h9 P a7 Q=>zd Y<|zb<|zat<|U zaI Y zbi<|M 0 Q.sub (b0.up P) zbI Y<|have b2:=e9.t P;zK (a_f0.up b2) zav Y<|U zaI Y zbi<|M 0 Q.sub a7 zbI Y<|zK (b_f0.up b2) zav Y<|zao Y<|zb ?_;refine zS Y (fun g1=>?_) (fun g1=>?_)
 ·refine zx<|zd Y<|zj<|zJ<|zk Tryz.results57 ?_;refine ⟨h9,_,Y,Q.done,?_⟩;refine zM ?_;have q:a≠b:=by
   rintro rfl;simp_all
  simp[q]
 refine zaN<|zx<|zc Y<|zb<|zT ?_;refine zaM ([4,5,6,7,8]++zcp 16 50) (G:=Nat×Heap) (fun ⟨i,a5⟩=>[(5,iV (i:Int))]) (fun ⟨i,a5⟩ w'=>Le h9 a5∧St h w a5 w' []∧(i≤a.chapters.length)∧(a.chapters.take i=b.chapters.take i)) (fun ⟨i,a5⟩=>a.chapters.length-i) ⟨0,h9⟩ ⟨rfl,trivial⟩ ⟨Le.refl _,Q,zbm,zbm⟩ ?_;rintro ⟨i,a5⟩ _ g9 ⟨H,a2,hi,he⟩;refine zat<|za Y<|U zaI Y zbi<|M 0 a2.sub (b0.up (P.t H)) zbI Y<|have b3:=b2.t H;zK (a_f0.up b3) zav Y<|zN Y<|zb ?_;refine zS Y (fun g2=>?_) (fun g2=>?_)
 ·refine zaN<|zT<|zaH ?_;obtain ⟨c,hc⟩:∃ y_,(a.chapters)[i]?=some y_:=zch zU;obtain ⟨h0,h1,_,b6,b8,hr_c⟩:=Sl.elem (a_f0.up b3) hc;obtain ⟨h2,rfl,f26⟩:=hr_c;have e4:=f26.le;obtain ⟨d,hd⟩:∃ y_,(b.chapters)[i]?=some y_:=zch zU;obtain ⟨h4,h5,_,b9,c0,hr_d⟩:=Sl.elem (b_f0.up b3) hd;obtain ⟨h6,rfl,f32⟩:=hr_d;have e5:=f32.le;refine zba (er:=([],[],[],[],0)) (dsts:=[23,24,25,26,27,28,29,30,31,32,6,7]) a2 Tryz.mixed<|zF (zm zaI Y zbi)<|zam (fun hD wD b4 hL hS hO _ _=>(zr 0 (hL.sub hS) (b0.up (P.t H)) zbI Y))<|zF (zeH Y)<|zF (zcB b6 zav zbb Y)<|zam (fun hD wD b4 hL hS hO _ _=>(zW (hL.sub hS) b8 Y zgw zbb Y))<|zF (zm zaI Y zbi)<|zam (fun hD wD b4 hL hS hO _ _=>(zr 0 (hL.sub hS) (a7.up H) zbI Y))<|zF (zeH Y)<|zF (zcB b9 zav zbb Y)<|zam (fun hD wD b4 hL hS hO _ _=>(zW (hL.sub hS) c0 Y zgw zbb Y))<|zil zeu Y<|zil zeu Y<|zbC<|zbC<|zck<|fun h7=>fun h8=>fun g7 j0 _ a8 c3 _ _ _ _ _ _ _ _ _ _=>zbE c3 (k:=0) Y Y Y (zaX Y (zaX f26.one zdv)) zbb Y Y Y<|fun j1 c4=>?_;obtain ⟨j2,a3,c5,c6⟩:=c4.freeze (k:=0) rfl;have S:=zay.of c5;refine zB ⟨undef,Y,_,_,a3,c6,?_⟩;intro g8 j3 _ I c7 _ _ _ _ _ _ _ _ _ _ _ _ _ _ _ _ _ _ _ _;refine zbE c7 (k:=1) Y Y Y (zaX Y (zaX f32.one zdv)) zbb Y Y Y<|fun j4 c8=>?_;obtain ⟨j5,F,c9,d0⟩:=c8.freeze (k:=1) rfl;have a4:=zay.of c9;refine zB ⟨undef,Y,_,_,F,d0,?_⟩;intro T j6 _ A B _ _ _ _ _ _ _ _ _ _ _ _ _ _ _ _ _ _ _ _;refine zbk.fin Y<|zz<|zat<|U zaz Y zG<|M 0 B.sub (S.up ((I.t F).t A)) zO Y<|U zaz Y zG<|M 0 B.sub (a4.up A) zO Y<|zao Y<|zt Y ?_;refine zaC (d:=38) Y (fun g3=>?_) (fun g3=>?_)
  ·refine zaf 7 Y<|zi Y<|zb ?_;refine zap Y (fun d9=>?_) (fun d9=>?_)
   ·refine zx<|zd Y<|zj<|zJ<|zan<|zJ<|zan<|zk Tryz.results57 ?_;refine ⟨T,_,Y,B.done,?_⟩;refine zM ?_;have q:c≠d:=by
     rintro rfl;simp_all
    have q2:a≠b:=fun e=>zfR hc hd q (by rw[e]);simp[q2]
   cases d9
  refine Z Y<|U zaz Y zbu<|Z Y<|M 1 B.sub (S.up ((I.t F).t A)) zbS Y<|Z Y<|have a6:=(((a8.t a3).t I).t F).t A;zK (f26.up a6) zaJ Y<|Z Y<|U zaz Y zbu<|Z Y<|M 1 B.sub (a4.up A) zbS Y<|Z Y<|zK (f32.up a6) zaJ Y<|Z Y<|zao Y<|zh Y<|zb ?_;refine zS Y (fun g4=>?_) (fun g4=>?_)
  ·refine zx<|zd Y<|zj<|zJ<|zan<|zJ<|zan<|zk Tryz.results57 ?_;refine ⟨T,_,Y,B.done,?_⟩;refine zM ?_;have q:c≠d:=by
    rintro rfl;simp_all
   have q2:a≠b:=fun e=>zfR hc hd q (by rw[e]);simp[q2]
  refine zdF<|zx<|zc Y<|zb<|zT ?_;refine zaM ([4,8]++zcp 47 19) (G:=Nat×Heap) (fun ⟨k,L⟩=>[(8,iV (k:Int))]) (fun ⟨k,L⟩ w'=>Le T L∧St h w L w' [[],[]]∧(k≤c.lines.length)∧(c.lines.take k=d.lines.take k)) (fun ⟨k,L⟩=>c.lines.length-k) ⟨0,T⟩ ⟨rfl,trivial⟩ ⟨Le.refl _,B,zbm,zbm⟩ ?_;rintro ⟨k,L⟩ _ j7 ⟨C,a0,hk,e0⟩;refine zat<|za Y<|U zaz Y zbu<|have e1:=((I.t F).t A).t C;M 1 a0.sub (S.up e1) zbS Y<|zK (f26.up (a6.t C)) zaJ Y<|zN Y<|zb ?_;refine zS Y (fun g5=>?_) (fun g5=>?_)
  ·refine zaN<|zT<|zaH<|zbZ Tryz.mixed zbL (Cls L _) (Cls.drew a0)<|zD zaz Y zbu<|zp Y (fun _ hC=>(zX (j:=1) hC.sub (S.up e1) Y Y Y zbS))<|zcW Y Y ?_;obtain ⟨x,hx⟩:∃ y_,(c.lines)[k]?=some y_:=zch zU;obtain ⟨j8,j9,_,d3,d4,hr_x⟩:=Sl.elem (f26.up (a6.t C)) hx;obtain ⟨k0,rfl,f79⟩:=hr_x;have e6:=f79.le;refine zaq d3 zaJ zdd Y<|zp Y (fun _ hC=>(zX (j:=0) hC.sub d4 Y Y Y zdx))<|zD zaz Y zbu<|zp Y (fun _ hC=>(zX (j:=1) hC.sub (a4.up (A.t C)) Y Y Y zbS))<|zcW Y Y ?_;obtain ⟨y,hy⟩:∃ y_,(d.lines)[k]?=some y_:=zch zU;obtain ⟨k1,k2,_,d5,d6,hr_y⟩:=Sl.elem (f32.up (a6.t C)) hy;obtain ⟨k3,rfl,f85⟩:=hr_y;have e7:=f85.le;refine zaq d5 zaJ zdd Y<|zp Y (fun _ hC=>(zX (j:=0) hC.sub d6 Y Y Y zdx))<|zcl Y Y (fun _=>zbJ Y Tryz.call112 Y) (fun _ hC=>zbe.quiet hC (zmk hC.sub f79 f85))<|zmc Y Y<|zbl ?_;rintro k4 ⟨e2,e3⟩;have a9:=a0.call0 e3;refine zz ?_;refine zap Y (fun b5=>?_) (fun b5=>?_)
   ·refine zx<|zd Y<|zj<|zan<|zJ<|zeJ<|zan<|zJ<|zan<|zk Tryz.results57 ?_;refine ⟨e2,_,Y,a9.done,?_⟩;refine zM ?_;have q1:c.lines≠d.lines:=zfR hx hy (by simpa using b5);have q:c≠d:=fun e=>q1 (by rw[e]);have q2:a≠b:=fun e=>zfR hc hd q (by rw[e]);simp[q2]
   refine zbj<|zaF<|za Y<|zy Y zaS<|zc Y<|zb ?_;refine ⟨⟨k+1,e2⟩,⟨rfl,trivial⟩,?_,⟨(C.trans e3.le),a9,?_,?_⟩,?_⟩
   ·exact zaR
   ·first|omega|(simp;omega)
   ·exact zfp e0 hx hy (by simpa using b5)
   show c.lines.length-((k+1))<c.lines.length-k;omega
  refine zcC<|zaF<|za Y<|zy Y zaS<|zc Y<|zb ?_;have HCD:c=d:=by
   have q:=zgt e0 zU zU
   rcases c with ⟨c1,c2⟩;rcases d with ⟨d1,d2⟩
   simp_all
  have g6:=(((((H.t a8).t a3).t I).t F).t A).t C;refine ⟨⟨i+1,L⟩,⟨rfl,trivial⟩,?_,⟨g6,a0.take 0,?_,?_⟩,?_⟩
  ·exact zaR
  ·first|omega|(simp;omega)
  ·exact zfp he hc hd HCD
  show a.chapters.length-((i+1))<a.chapters.length-i;omega
 refine zcC<|zz<|zx<|zd Y<|zj<|zk Tryz.results57 ?_;refine ⟨a5,_,Y,a2.done,?_⟩;refine zM ?_;have q:=zgt he zU zU
 rcases a with ⟨a1⟩;rcases b with ⟨b1⟩
 simp_all
theorem zpc (hs:Sub h w) {a:Lexicon} (a_f0:Sl zcS h a_v0 a.rules) {a_v1:Value} (a_f1:Sl zau h a_v1 a.decisions) {b:Lexicon} (b_f0:Sl zcS h b_v0 b.rules) {b_v1:Value} (b_f1:Sl zau h b_v1 b.decisions):Calls Tryz.prog 58 #[.agg #[a_v0,a_v1],.agg #[b_v0,b_v1]] w (zbe h w (fun _ _ res_=>res_=.bool (decide (a=b)))):=by
 refine zl 59 Tryz.func58 Y<|have e1:=zbM hs;have d1:=a_f0.le;have d3:=a_f1.le;have d4:=b_f0.le;have d5:=b_f1.le;zx<|ze [a_v0,a_v1] e1 Y<|fun b1 w2 h3 e2 S e3=>ze [b_v0,b_v1] e3 Y<|fun b7 w8 h9 B L C=>zd Y<|zb<|zat<|U zaY Y zdR<|M 0 C.sub (S.up B) zeO Y<|have T:=e2.t B;zK (a_f0.up T) zcm Y<|U zaY Y zdR<|M 0 C.sub L zeO Y<|zK (b_f0.up T) zcm Y<|zao Y<|zt Y ?_;refine zaC (d:=14) Y (fun e4=>?_) (fun e4=>?_)
 ·refine zaf 7 Y<|zi Y<|zb ?_;refine zap Y (fun d6=>?_) (fun d6=>?_)
  ·refine zx<|zd Y<|zj<|zJ<|zk Tryz.results58 ?_;refine ⟨h9,_,Y,C.done,?_⟩;refine zM ?_;have q:a≠b:=by
    rintro rfl;simp_all
   simp[q]
  cases d6
 refine Z Y<|U zaY Y zdp<|Z Y<|M 1 C.sub (S.up B) zei Y<|Z Y<|zK (a_f1.up T) zbg Y<|Z Y<|U zaY Y zdp<|Z Y<|M 1 C.sub L zei Y<|Z Y<|zK (b_f1.up T) zbg Y<|Z Y<|zao Y<|zh Y<|zb ?_;refine zS Y (fun e5=>?_) (fun e5=>?_)
 ·refine zx<|zd Y<|zj<|zJ<|zk Tryz.results58 ?_;refine ⟨h9,_,Y,C.done,?_⟩;refine zM ?_;have q:a≠b:=by
   rintro rfl;simp_all
  simp[q]
 refine zaN<|zx<|zc Y<|zb<|zT ?_;refine zaM ([4,5]++zcp 23 18) (G:=Nat×Heap) (fun ⟨i,F⟩=>[(5,iV (i:Int))]) (fun ⟨i,F⟩ w'=>Le h9 F∧St h w F w' []∧(i≤a.rules.length)∧(a.rules.take i=b.rules.take i)) (fun ⟨i,F⟩=>a.rules.length-i) ⟨0,h9⟩ ⟨rfl,trivial⟩ ⟨Le.refl _,C,zbm,zbm⟩ ?_;rintro ⟨i,F⟩ _ g2 ⟨A,P,hi,he⟩;refine zat<|za Y<|U zaY Y zdR<|M 0 P.sub (S.up (B.t A)) zeO Y<|have a6:=T.t A;zK (a_f0.up a6) zcm Y<|zN Y<|zb ?_;refine zS Y (fun e6=>?_) (fun e6=>?_)
 ·refine zaN<|zT<|zaH<|zbZ Tryz.mixed zbL (Cls F _) (Cls.drew P)<|zD zaY Y zdR<|zp Y (fun _ hC=>(zX (j:=0) hC.sub (S.up (B.t A)) Y Y Y zeO))<|zcW Y Y ?_;obtain ⟨r,hr⟩:∃ y_,(a.rules)[i]?=some y_:=zch zU;obtain ⟨g3,g4,_,b4,b5,hr_r⟩:=Sl.elem (a_f0.up a6) hr;obtain ⟨rfl,b6,b8⟩:=hr_r;simp only[big] at b6;simp only[big] at b8;refine zaq b4 zcm zdX Y<|zp Y (fun _ hC=>(zW hC.sub b5 Y zjd zdX Y))<|zD zaY Y zdR<|zp Y (fun _ hC=>(zX (j:=0) hC.sub (L.up A) Y Y Y zeO))<|zcW Y Y ?_;obtain ⟨r2,a7⟩:∃ y_,(b.rules)[i]?=some y_:=zch zU;obtain ⟨g5,g6,_,b9,c0,a4⟩:=Sl.elem (b_f0.up a6) a7;obtain ⟨rfl,c1,c2⟩:=a4;simp only[big] at c1;simp only[big] at c2;refine zaq b9 zcm zdX Y<|zp Y (fun _ hC=>(zW hC.sub c0 Y zjd zdX Y))<|zp Y (fun _ _=>(ziN Y Y Tryz.eqGuardType161 (Tryz.eq_Rule r r2)))<|zbl ?_;rintro g7 ⟨d7,d8⟩;have a0:=P.call0 d8;refine zz ?_;refine zS Y (fun a8=>?_) (fun a8=>?_)
  ·refine zx<|zd Y<|zj<|zan<|zJ<|zan<|zk Tryz.results58 ?_;refine ⟨d7,_,Y,a0.done,?_⟩;refine zM ?_;have q:a≠b:=fun e=>zfR hr a7 (by simpa using a8) (by rw[e]);simp[q]
  refine zbj<|zaF<|za Y<|zy Y zaS<|zc Y<|zb ?_;refine ⟨⟨i+1,d7⟩,⟨rfl,trivial⟩,?_,⟨(A.trans d8.le),a0,?_,?_⟩,?_⟩
  ·exact zaR
  ·first|omega|(simp;omega)
  ·exact zfp he hr a7 (by simpa using a8)
  show a.rules.length-((i+1))<a.rules.length-i;omega
 refine zcC<|zz<|zat<|zc Y<|zb<|zT ?_;refine zaM ([4,6]++zcp 41 18) (G:=Nat×Heap) (fun ⟨k,I⟩=>[(6,iV (k:Int))]) (fun ⟨k,I⟩ w'=>Le F I∧St h w I w' []∧(k≤a.decisions.length)∧(a.decisions.take k=b.decisions.take k)) (fun ⟨k,I⟩=>a.decisions.length-k) ⟨0,F⟩ ⟨rfl,trivial⟩ ⟨Le.refl _,P,zbm,zbm⟩ ?_;rintro ⟨k,I⟩ _ g8 ⟨H,Q,hk,hf⟩;refine zat<|za Y<|U zaY Y zdp<|M 1 Q.sub (S.up ((B.t A).t H)) zei Y<|have a9:=a6.t H;zK (a_f1.up a9) zbg Y<|zN Y<|zb ?_;refine zS Y (fun e7=>?_) (fun e7=>?_)
 ·refine zaN<|zT<|zaH<|zbZ Tryz.mixed zbL (Cls I _) (Cls.drew Q)<|zD zaY Y zdp<|zp Y (fun _ hC=>(zX (j:=1) hC.sub (S.up ((B.t A).t H)) Y Y Y zei))<|zcW Y Y ?_;obtain ⟨d,hd⟩:∃ y_,(a.decisions)[k]?=some y_:=zch zU;obtain ⟨g9,h0,_,c3,c4,hr_d⟩:=Sl.elem (a_f1.up a9) hd;obtain ⟨rfl,e8,c5,c6,e9⟩:=hr_d;simp only[big] at c5;simp only[big] at c6;refine zaq c3 zbg zas Y<|zp Y (fun _ hC=>(zW hC.sub c4 Y zbB zas Y))<|zD zaY Y zdp<|zp Y (fun _ hC=>(zX (j:=1) hC.sub (L.up (A.t H)) Y Y Y zei))<|zcW Y Y ?_;obtain ⟨d2,b0⟩:∃ y_,(b.decisions)[k]?=some y_:=zch zU;obtain ⟨h1,h2,_,c7,c8,a5⟩:=Sl.elem (b_f1.up a9) b0;obtain ⟨rfl,g0,c9,d0,g1⟩:=a5;simp only[big] at c9;simp only[big] at d0;refine zaq c7 zbg zas Y<|zp Y (fun _ hC=>(zW hC.sub c8 Y zbB zas Y))<|zp Y (fun _ _=>(ziN Y Y zgY (Tryz.eq_Decision d d2)))<|zbl ?_;rintro h4 ⟨d9,e0⟩;have a3:=Q.call0 e0;refine zz ?_;refine zS Y (fun b3=>?_) (fun b3=>?_)
  ·refine zx<|zd Y<|zj<|zan<|zJ<|zan<|zk Tryz.results58 ?_;refine ⟨d9,_,Y,a3.done,?_⟩;refine zM ?_;have q:a≠b:=fun e=>zfR hd b0 (by simpa using b3) (by rw[e]);simp[q]
  refine zbj<|zaF<|za Y<|zy Y zaS<|zc Y<|zb ?_;refine ⟨⟨k+1,d9⟩,⟨rfl,trivial⟩,?_,⟨(H.trans e0.le),a3,?_,?_⟩,?_⟩
  ·exact zaR
  ·first|omega|(simp;omega)
  ·exact zfp hf hd b0 (by simpa using b3)
  show a.decisions.length-((k+1))<a.decisions.length-k;omega
 refine zcC<|zz<|zx<|zd Y<|zj<|zk Tryz.results58 ?_;refine ⟨I,_,Y,Q.done,?_⟩;refine zM ?_;have q1:=zgt he zU zU;have q2:=zgt hf zU zU
 rcases a with ⟨a1,a2⟩;rcases b with ⟨b1,b2⟩
 simp_all
theorem zrr (hs:Sub h w) {t:Text} (t_f0:Sl zax h t_v0 t.chapters):Calls Tryz.prog 90 #[.agg #[t_v0]] w (zbe h w (fun h' _ res_=>∃ u0,res_=.tuple #[u0,iV ((if zbF t then 0 else 10))]∧Box zwL h' (zbF t) t u0)):=by
 refine zl 13 Tryz.func90 Y<|have S:=zbM hs;have Q:=t_f0.le;zx<|ze [t_v0] S Y<|fun b1 w2 h3 F H C=>zdo Y Y<|zc Y<|zb<|zat<|zg C.sub H zaG zab Y<|zn C Y Tryz.call97 (zmS C.sub (t:=t) (t_f0.up F))<|fun r7 w8 h9 B A T=>?_;obtain rfl:=T;refine zc Y<|zb<|zx<|za Y<|zao Y<|zb ?_;refine zS Y (fun a0=>?_) (fun a0=>?_)
 ·refine zx<|za Y<|zdo Y Y<|zc Y<|zj<|zJ<|zbs Tryz.results90 ?_;refine ⟨h9,_,Y,A.done,?_⟩;refine ⟨_,zdz Y (zaB ?_),Box.nil ?_⟩
  ·simp_all
  simp_all
 refine zdF<|zx<|zg A.sub (H.up B) zaG zab Y ?_;refine zar rfl rfl (zce (cs:=[t_v0]) (by obtain ⟨_,_,rfl⟩:=Sl.form t_f0;kernel_rfl)) ?_;refine ze [t_v0] A Y<|fun a2 a3 a1 I L P=>zjx Y Y<|zc Y<|zj<|zbs Tryz.results90 ?_;refine ⟨a1,_,Y,P.done,?_⟩;refine ⟨_,zdz Y (zaB ?_),Box.some ?_ L ⟨_,Y,(t_f0.up ((F.t B).t I))⟩⟩
 ·simp_all
 simp_all
theorem ziu (hs:Sub h w) {t:Text} (t_f0:Sl zax h t_v0 t.chapters) (t_c:zay h t_b 0 [t_v0]):Calls Tryz.prog 115 #[.pointer (some ⟨t_b,0,none⟩),.agg #[iV p.chapter,iV p.line,iV p.word]] w (zbe h w (fun h' _ res_=>∃ u0,res_=u0∧Sl zcn h' u0 (((zcc t p).getD [])))):=by
 refine zl 50 Tryz.func115 Y<|have c8:=zbM hs;have c2:=t_f0.le;zx<|ze [iV (p.chapter),iV (p.line),iV (p.word)] c8 Y<|fun b1 w2 h3 I P c3=>zcP Y Y<|zb<|zaH<|zaH ?_
 rcases Bool.eq_false_or_eq_true ((!(zcJ (([(p.chapter)])) (0) (((t.chapters.length:Int)-1))))) with g7|g7
 ·have T:=g7;refine zba (er:=([],[],[],[],0)) (dsts:=[5,6,7,8,9,10,11,12,13,14,15,16,17,18,19,20,21,22,23,24,25,26,27,28,29,30,31,32,33,34,35]) c3 Tryz.mixed<|zF (zgW Y)<|zF (zbX Y)<|zF (zm zgF Y zab)<|zF (zm zaI Y zbi)<|zam (fun H Q A C B S _ _=>(zr 0 (C.sub B) (t_c.up I) zbI Y))<|zF (znr (t_f0.up I) Y zav)<|zF (zlc Y Y zaS)<|zF (zm zal Y zG)<|zam (fun H Q A C B S _ _=>(zr 0 (C.sub B) P zO Y)) ?_;refine zaT (.res (fun h' res_=>Sl zcy h' res_ ([(p.chapter)])) (fun _ _ _ hl f=>f.up hl)) ?_ ?_
  ·intro H Q A C B S _ _;have c9:=St.start B;refine zA zcy [(p.chapter)] [iV (p.chapter)] c9 (Enc.cons (L:=zcy) (vs:=[iV (p.chapter)]) (x:=(p.chapter)) (h:=H) (Y) Enc.nil) Y zaV Tryz.info3 zbL<|fun v9 e3 e4 d6 f11 a8=>?_;exact zB ⟨_,_,Y,a8,_,Y,f11⟩
  refine zaT (.det (.bool (zcJ (([(p.chapter)])) (0) (((t.chapters.length:Int)-1))))) ?_ ?_
  ·intro H Q A C B S _ _ gv9_0 gf9_0;have a1:=St.start B;refine zn a1 Y zeP (zeL a1.sub _ _ gf9_0)<|fun e5 e6 e7 d7 a9 d0=>?_;subst d0;exact zB ⟨_,_,Y,a9,(),Y,trivial⟩
  refine zF (Run.lit (zlD Y) T)<|zF (zjT Y)<|zct Y<|zct Y<|zct Y<|zct Y<|zct Y<|zct Y<|zct Y<|zct Y<|zct Y<|zct Y<|zct Y<|zct Y<|zct Y<|zct Y<|zct Y<|zct Y<|zct Y<|zF (znV (v:=(.bool _)) Y Y)<|zck<|fun b0 e8 _ d8 b2 _ _ _ _ _ _ _ _ _ _ _ _ _ _ _ _ _ _ gv9_0x26 gf9_0x26 _ _ _ _ _ _ _ _ _ _ _ _ _ _ _ _ _ _ _ _ _ _ _ _ _ _ _ _ _ _ _ _ _ _ _ _ _ _ _ _ _ _=>zbk.fin Y<|zz ?_;refine zap Y (fun c4=>?_) (fun c4=>?_)
  ·refine zx<|zcP Y Y<|zj<|zJ<|zk Tryz.results115 ?_;refine ⟨b0,_,Y,b2.done,?_⟩;refine ⟨_,Y,Sl.to (Sl.nil _ _) ?_⟩;have q:zcc t p=none:=zoQ (by
    have q:=g7;simp[zcJ,inB] at q;omega)
   simp[q]
  cases c4
 have T:=g7;have q1:0≤p.chapter∧p.chapter<t.chapters.length:=by
  have q:=g7;simp[zcJ,inB] at q;omega
 obtain ⟨c,hc⟩:∃ y_,(t.chapters)[p.chapter.toNat]?=some y_:=zch zU;obtain ⟨e9,g0,_,a2,a3,hr_c⟩:=Sl.elem (t_f0.up I) hc;obtain ⟨g1,rfl,f33⟩:=hr_c;have c6:=f33.le;refine zba (er:=([],[],[],[],0)) (dsts:=[5,6,7,8,9,10,11,12,13,14,15,16,17,18,19,20,21,22,23,24,25,26,27,28,29,30,31,32,33,34,35]) c3 Tryz.mixed<|zF (zgW Y)<|zF (zbX Y)<|zF (zm zgF Y zab)<|zF (zm zaI Y zbi)<|zam (fun H Q A C B S _ _=>(zr 0 (C.sub B) (t_c.up I) zbI Y))<|zF (znr (t_f0.up I) Y zav)<|zF (zlc Y Y zaS)<|zF (zm zal Y zG)<|zam (fun H Q A C B S _ _=>(zr 0 (C.sub B) P zO Y)) ?_;refine zaT (.res (fun h' res_=>Sl zcy h' res_ ([(p.chapter)])) (fun _ _ _ hl f=>f.up hl)) ?_ ?_
 ·intro H Q A C B S _ _;have b3:=St.start B;refine zA zcy [(p.chapter)] [iV (p.chapter)] b3 (Enc.cons (L:=zcy) (vs:=[iV (p.chapter)]) (x:=(p.chapter)) (h:=H) (Y) Enc.nil) Y zaV Tryz.info3 zbL<|fun g2 g3 g4 d9 f37 b4=>?_;exact zB ⟨_,_,Y,b4,_,Y,f37⟩
 refine zaT (.det (.bool (zcJ (([(p.chapter)])) (0) (((t.chapters.length:Int)-1))))) ?_ ?_
 ·intro H Q A C B S _ _ gv9_0 gf9_0;have a4:=St.start B;refine zn a4 Y zeP (zeL a4.sub _ _ gf9_0)<|fun g5 g6 g8 e0 b5 d1=>?_;subst d1;exact zB ⟨_,_,Y,b5,(),Y,trivial⟩
 refine zF (Run.lit (zlD Y) T)<|zF (zjT Y)<|zdN ⟨rfl,(zgW Y)⟩<|zdN ⟨rfl,(zbX Y)⟩<|zdN ⟨rfl,(zm zgF Y zab)⟩<|zdN ⟨rfl,(zm zaI Y zbi)⟩<|zgy (fun H Q A C B S _ _ _ _=>⟨rfl,(zr 0 (C.sub B) (t_c.up I) zbI Y)⟩)<|zdN ⟨rfl,(zm zal Y zG)⟩<|zgy (fun H Q A C B S _ _ _ _=>⟨rfl,(zr 0 (C.sub B) P zO Y)⟩) ?_;refine zdN ⟨rfl,(zbz a2 rfl rfl (hk:=(show _=((p.chapter.toNat:Nat):Int) by omega)) (hu:=zav) (hz:=zbb))⟩ ?_;refine zdN ⟨rfl,(zm zaz Y zbu)⟩<|zgy (fun H Q A C B S _ _ _ _=>⟨rfl,(zr 1 (C.sub B) a3 zbS Y)⟩)<|zdN ⟨rfl,(znr f33 Y zaJ)⟩<|zdN ⟨rfl,(zlc Y Y zaS)⟩<|zdN ⟨rfl,(zm zal Y zG)⟩<|zgy (fun H Q A C B S _ _ _ _=>⟨rfl,(zr 1 (C.sub B) P zO Y)⟩) ?_;refine zaT (.res (fun h' res_=>Sl zcy h' res_ ([(p.line)])) (fun _ _ _ hl f=>f.up hl)) ?_ ?_
 ·intro H Q A C B S _ _ _ _;have b6:=St.start B;refine Z Y<|zA zcy [(p.line)] [iV (p.line)] b6 (Enc.cons (L:=zcy) (vs:=[iV (p.line)]) (x:=(p.line)) (h:=H) (Y) Enc.nil) Y zaV Tryz.info3 zbL<|fun g9 h0 h1 e1 f51 b7=>?_;exact zB ⟨_,_,Y,b7,_,Y,f51⟩
 refine zaT (.det (.bool (zcJ (([(p.line)])) (0) (((c.lines.length:Int)-1))))) ?_ ?_
 ·intro H Q A C B S _ _ gv27_0 gf27_0 _ _;have a5:=St.start B;refine Z Y<|zn a5 Y zeP (zeL a5.sub _ _ gf27_0)<|fun h2 h4 h5 e2 b8 d2=>?_;subst d2;exact zB ⟨_,_,Y,b8,(),Y,trivial⟩
 refine zdN ⟨rfl,(zlD Y)⟩<|zF (zkj (v:=(.bool _)) Y Y)<|zck<|fun a6 h6 _ F a0 _ _ _ _ _ _ _ _ _ _ _ _ _ _ _ _ _ _ gv9_0x66 gf9_0x66 _ _ _ _ _ _ _ _ _ _ _ _ _ _ _ _ _ _ _ _ _ _ _ _ _ _ _ _ _ _ _ _ _ _ gv27_0x66 gf27_0x66 _ _ _ _ _ _=>zbk.fin Y<|zz ?_;refine zap Y (fun a7=>?_) (fun a7=>?_)
 ·refine zx<|zcP Y Y<|zj<|zJ<|zk Tryz.results115 ?_;refine ⟨a6,_,Y,a0.done,?_⟩;refine ⟨_,Y,Sl.to (Sl.nil _ _) ?_⟩;have q:zcc t p=none:=zoP hc (by
   have q:=a7;simp[zcJ,inB] at q;omega)
  simp[q]
 refine zaN ?_;have q1:0≤p.chapter∧p.chapter<t.chapters.length∧0≤p.line∧p.line<c.lines.length:=by
  have q:=g7;have q0:=a7;simp[zcJ,inB] at q q0;omega
 refine zbZ Tryz.mixed zbL (Cls a6 _) (Cls.drew a0)<|zBT Y Y<|zp Y (fun _ _=>(zbX Y))<|zD zgF Y zab<|zD zaI Y zbi<|have d3:=I.t F;zp Y (fun _ hC=>(zX (j:=0) hC.sub (t_c.up d3) Y Y Y zbI))<|zD zal Y zG<|zp Y (fun _ hC=>(zX (j:=0) hC.sub (P.up F) Y Y Y zO)) ?_;refine zbU rfl rfl (fun _ _=>(zbz a2 rfl rfl (hk:=(show _=((p.chapter.toNat:Nat):Int) by omega)) (hu:=zav) (hz:=zbb))) ?_;refine zD zaz Y zbu<|zp Y (fun _ hC=>(zX (j:=1) hC.sub (a3.up F) Y Y Y zbS))<|zD zal Y zG<|zp Y (fun _ hC=>(zX (j:=1) hC.sub (P.up F) Y Y Y zO)) ?_;obtain ⟨ln,hln⟩:∃ y_,(c.lines)[p.line.toNat]?=some y_:=zch zU;obtain ⟨h7,h8,_,b9,c0,hr_ln⟩:=Sl.elem (f33.up F) hln;obtain ⟨d4,rfl,f74⟩:=hr_ln;have c7:=f74.le;refine zbU rfl rfl (fun _ _=>(zbz b9 rfl rfl (hk:=(show _=((p.line.toNat:Nat):Int) by omega)) (hu:=zaJ) (hz:=zdd))) ?_;refine zp Y (fun _ hC=>(zX (j:=0) hC.sub c0 Y Y Y zdx))<|zvE (v:=d4) Y Y<|zbl ?_;rintro h9 ⟨d5,c5⟩;have c1:=a0.call0 c5;refine zz<|zfS<|zk Tryz.results115 ?_;refine ⟨d5,_,Y,c1.done,?_⟩;refine ⟨_,Y,Sl.to (f74.up c5.le) ?_⟩;rw[zqw hc q1.1 hln q1.2.2.1];rfl
theorem zrE (hs:Sub h w) {t:Text} (t_f0:Sl zax h t_v0 t.chapters) (t_c:zay h t_b 0 [t_v0]):Calls Tryz.prog 167 #[.pointer (some ⟨t_b,0,none⟩),.agg #[iV p.chapter,iV p.line,iV p.word]] w (zbe h w (fun _ _ res_=>res_=.bool (zcz t p))):=by
 refine zl 14 Tryz.func167 Y<|have a9:=zbM hs;have a7:=t_f0.le;zx<|ze [iV (p.chapter),iV (p.line),iV (p.word)] a9 Y<|fun b1 w2 h3 I P b0=>zd Y<|zb<|zaH<|have qb:=zxS t_f0 p;zba (er:=([],[],[],[],0)) (dsts:=[5,6,7,8,9,10,11,12,13,4]) b0 Tryz.mixed<|zF (zgW Y)<|zam (fun H Q A C B S=>(zW (C.sub B) P Y zaE zP Y)) ?_;refine zaT (.res (fun h' res_=>Sl zcn h' res_ (((zcc (t) (p)).getD []))) (fun _ _ _ hl f=>f.up hl)) ?_ ?_
 ·intro H Q A C B S _ _ _ _;have T:=St.start B;refine zn T Y Tryz.call115 (ziu T.sub (t:=t) (t_f0.up (I.trans C)) (t_c.up (I.trans C)) (p:=p))<|fun r8 w9 b9 b5 a0 b2=>?_;obtain ⟨c0,b3,f15⟩:=b2;rw[← b3] at f15;have a8:=f15.le;exact zB ⟨_,_,Y,a0,_,Y,f15⟩
 refine zaT (.det (iV ((((zcc (t) (p)).getD [])).length:Int))) ?_ ?_
 ·intro H Q A C B S gv2_0 gf2_0;have a1:=St.start B;refine zK gf2_0 zC Y ?_;exact zB ⟨_,_,Y,a1,(),Y,trivial⟩
 refine zF (zlc Y Y zaS)<|zF (zm zal Y zG)<|zam (fun H Q A C B S _ _=>(zr 2 (C.sub B) P zO Y)) ?_;refine zaT (.res (fun h' res_=>Sl zcy h' res_ ([(p.word)])) (fun _ _ _ hl f=>f.up hl)) ?_ ?_
 ·intro H Q A C B S _ _;have a2:=St.start B;refine zA zcy [(p.word)] [iV (p.word)] a2 (Enc.cons (L:=zcy) (vs:=[iV (p.word)]) (x:=(p.word)) (h:=H) (Y) Enc.nil) Y zaV Tryz.info3 zbL<|fun c1 c2 c3 b6 f21 a3=>?_;exact zB ⟨_,_,Y,a3,_,Y,f21⟩
 refine zaT (.det (.bool (zcJ (([(p.word)])) (0) ((((((zcc (t) (p)).getD [])).length:Int)-1))))) ?_ ?_
 ·intro H Q A C B S _ _ gv7_0 gf7_0 gv2_0 gf2_0;have F:=St.start B;refine zn F Y zeP (zeL F.sub _ _ gf7_0)<|fun c4 c5 c6 b7 a4 b4=>?_;subst b4;exact zB ⟨_,_,Y,a4,(),Y,trivial⟩
 refine zF (zpH Y)<|zck<|fun a5 c7 _ b8 a6 _ _ _ _ gv2_0x36 gf2_0x36 _ _ _ _ _ _ _ _ gv7_0x36 gf7_0x36 _ _ _ _=>zbk.fin Y<|zz<|zfS<|zk Tryz.results167 ?_;refine ⟨a5,_,Y,a6.done,?_⟩;refine zM ?_;rw[znt];cases hq:zcc t p with
 | none=>simp[zcJ,inB];omega
 | some l=>simp[zcJ]
theorem ztR (hs:Sub h w) {t:Text} (t_f0:Sl zax h t_v0 t.chapters):Calls Tryz.prog 114 #[.agg #[t_v0],.agg #[iV p.chapter,iV p.line,iV p.word]] w (zbe h w (fun h' _ res_=>∃ u0,res_=.tuple #[u0,iV ((if zbF t && zcz t p then 0 else if zbF t then 12 else 10))]∧Box zwL h' (zbF t && zcz t p) t u0)):=by
 refine zl 21 Tryz.func114 Y<|have a5:=zbM hs;have a0:=t_f0.le;zx<|ze [t_v0] a5 Y<|fun b1 w2 h3 a6 a7 a8=>ze [iV (p.chapter),iV (p.line),iV (p.word)] a8 Y<|fun b7 w8 h9 H Q B=>zdo Y Y<|zc Y<|zb<|zx<|zg B.sub (a7.up H) zaG zab Y<|have a9:=a6.t H;zn B Y Tryz.call90 (zrr B.sub (t:=t) (t_f0.up a9))<|fun b5 b6 b0 S A F=>?_
 rcases Bool.eq_false_or_eq_true (zbF (t)) with C|C
 ·simp only[C,if_true,if_false,Bool.false_eq_true,reduceIte] at F;obtain ⟨b8,rfl,f22⟩:=F;obtain ⟨b9,b4,rfl,I,T⟩:=f22;obtain ⟨c0,rfl,f28⟩:=T;have a4:=f28.le;refine zdy Y Y<|zbQ Y<|zR Y<|zjx Y Y<|zc Y<|zb<|zat<|za Y<|zao Y<|zb ?_;refine zap Y (fun a1=>?_) (fun a1=>?_)
  ·exact absurd a1 (by decide)
  refine zaN<|zx<|zjf Y Y<|zg A.sub (Q.up S) zaE zP Y<|zn A Y Tryz.call167 (zrE A.sub (t:=(t)) f28 I (p:=p))<|fun c1 c2 a2 L P b2=>?_;subst b2;refine zcq Y Y<|zb ?_;refine zap Y (fun b3=>?_) (fun b3=>?_)
  ·refine zx<|zdo Y Y<|zc Y<|zj<|zJ<|zbs Tryz.results114 ?_;refine ⟨a2,_,Y,P.done,?_⟩;refine ⟨_,zdz Y (zaB ?_),Box.nil ?_⟩
   ·simp_all
   simp_all
  refine zdF<|zx<|zjf Y Y<|zjx Y Y<|zc Y<|zj<|zbs Tryz.results114 ?_;refine ⟨a2,_,Y,P.done,?_⟩;refine ⟨_,zdz Y (zaB ?_),Box.some ?_ (I.up L) ⟨_,Y,(f28.up L)⟩⟩
  ·simp_all
  simp_all
 simp only[C,if_true,if_false,Bool.false_eq_true,reduceIte] at F;obtain ⟨c3,rfl,f38⟩:=F;subst f38;refine zdy Y Y<|zgl (v:=(.pointer none)) Y Y Y<|zR Y<|zdo Y Y<|zc Y<|zb<|zat<|za Y<|zao Y<|zb ?_;refine zap Y (fun a3=>?_) (fun a3=>?_)
 ·refine zx<|za Y<|zdo Y Y<|zc Y<|zj<|zJ<|zbs Tryz.results114 ?_;refine ⟨b0,_,Y,A.done,?_⟩;refine ⟨_,zdz Y (zaB ?_),Box.nil ?_⟩
  ·simp_all
  simp_all
 exact absurd a3 (by decide)
theorem zkR (hs:Sub h w) {t:Text} (t_f0:Sl zax h t_v0 t.chapters):Calls Tryz.prog 66 #[.agg #[t_v0],.agg #[iV p.chapter,iV p.line,iV p.word]] w (zbe h w (fun _ _ res_=>res_=.tuple #[zae ((if zbF t then (zjw t p).getD [] else [])),iV ((if zbF t && zcz t p then 0 else if zbF t then 12 else 10))])):=by
 refine zl 24 Tryz.func66 Y<|have b6:=zbM hs;have b0:=t_f0.le;zx<|ze [t_v0] b6 Y<|fun b1 w2 h3 b8 b9 c0=>ze [iV (p.chapter),iV (p.line),iV (p.word)] c0 Y<|fun b7 w8 h9 P B A=>zff Y Y<|zc Y<|zb<|zx<|zg A.sub (b9.up P) zaG zab Y<|zg A.sub B zaE zP Y<|have c1:=b8.t P;zn A Y Tryz.call114 (ztR A.sub (t:=t) (t_f0.up c1) (p:=p))<|fun c9 d0 c2 Q S I=>?_
 rcases Bool.eq_false_or_eq_true (zbF (t) && zcz (t) (p)) with C|C
 ·simp only[C,if_true,if_false,Bool.false_eq_true,reduceIte] at I;obtain ⟨d1,rfl,f22⟩:=I;obtain ⟨d2,c6,rfl,a2,a3⟩:=f22;obtain ⟨d3,rfl,f28⟩:=a3;have b4:=f28.le;refine zdy Y Y<|zbQ Y<|zR Y<|zjx Y Y<|zc Y<|zb<|zat<|za Y<|zao Y<|zb ?_;refine zap Y (fun b2=>?_) (fun b2=>?_)
  ·exact absurd b2 (by decide)
  refine zaN ?_;have q1:zcz t p=true:=by simp_all
  have q2:=znt t p;have q3:0≤p.word∧p.word<(((zcc t p).getD []).length:Int):=by
   rw[q1] at q2;simp[inB] at q2;omega
  obtain ⟨wd,hwd⟩:∃ y_,((((zcc ((t)) (p)).getD [])))[p.word.toNat]?=some y_:=zch zU;refine zba (er:=([],[],[],[],0)) (dsts:=[17,18,19,20,21,22,23,4,5]) S Tryz.mixed<|zF (zgW Y)<|zam (fun hD wD L T H hO=>(zW (T.sub H) (B.up Q) Y zaE zP Y)) ?_;refine zaT (.res (fun h' res_=>Sl zcn h' res_ (((zcc ((t)) (p)).getD []))) (fun _ _ _ hl f=>f.up hl)) ?_ ?_
  ·intro hD wD L T H hO _ _ _ _;have a0:=St.start H;refine zn a0 Y Tryz.call115 (ziu a0.sub (t:=(t)) (f28.up T) (a2.up T) (p:=p))<|fun d4 d5 d6 c7 a4 c3=>?_;obtain ⟨d7,c4,f38⟩:=c3;rw[← c4] at f38;have b5:=f38.le;exact zB ⟨_,_,Y,a4,_,Y,f38⟩
  refine zF (zm zal Y zG)<|zam (fun hD wD L T H hO _ _=>(zr 2 (T.sub H) (B.up Q) zO Y)) ?_;refine zaT (.res (fun h' res_=>∃ b o,res_=.pointer (some ⟨b,o,none⟩)∧zay h' b o [zae wd]) (by rintro _ _ _ hl ⟨b,o,e,c⟩;exact ⟨b,o,e,c.up hl⟩)) ?_ ?_
  ·intro hD wD L T H hO gv2_0 gf2_0 _ _;have a5:=St.start H;obtain ⟨b_,o_,_,he_,hc_,hr_⟩:=Sl.elem gf2_0 hwd;obtain ⟨rfl,a6⟩:=hr_;simp only[big] at a6;refine zar rfl rfl (zbz he_ rfl rfl (hk:=(show _=((p.word.toNat:Nat):Int) by omega)) (hu:=zC) (hz:=zaj)) ?_;exact zB ⟨_,_,Y,a5,_,Y,_,_,Y,hc_⟩
  refine zaT (.det (zae wd)) ?_ ?_
  ·intro hD wD L T H hO gv5_ gf5_;obtain ⟨d8,d9,rfl,c5⟩:=gf5_;have a7:=St.start H;refine M 0 H c5 zaK Y ?_;exact zB ⟨_,_,Y,a7,(),Y,trivial⟩
  refine zF (zxP Y)<|zF (zns Y)<|zck<|fun a8 e0 _ c8 a9 _ _ _ _ gv2_0x47 gf2_0x47 _ _ _ _ a1 F _ _ _ _ _ _=>?_;obtain ⟨gb5x47,go5x47,rfl,gc5x47⟩:=F;refine zbk.fin Y<|zz<|zfS<|zbs Tryz.results66 ?_;refine ⟨a8,_,Y,a9.done,?_⟩;refine zdz (zfa ?_) (zaB ?_)
  all_goals have qq:zbF t=true∧zcz t p=true:=by simp_all
  ·simp[qq.1,zue qq.2 hwd]
  simp[qq.1,qq.2]
 simp only[C,if_true,if_false,Bool.false_eq_true,reduceIte] at I;obtain ⟨e1,rfl,f49⟩:=I;subst f49;refine zdy Y Y<|zgl (v:=(.pointer none)) Y Y Y<|zR Y<|zdo Y Y<|zc Y<|zb<|zat<|za Y<|zao Y<|zb ?_;refine zS Y (fun b3=>?_) (fun b3=>?_)
 ·refine zx<|za Y<|zff Y Y<|zc Y<|zj<|zJ<|zbs Tryz.results66 ?_;refine ⟨c2,_,Y,S.done,?_⟩;refine zdz (zfa ?_) (zaB ?_)
  all_goals have qq:zbF t=true→zcz t p=false:=by simp_all
  ·cases q0:zbF t
   ·rfl
   ·simp[zyi (qq q0)]
  cases q0:zbF t
  ·rfl
  simp[qq q0]
 exfalso;revert b3;split <;> simp
theorem zof (hlen:s.length≤281474976710656) {caps:List Value} (p:Int→Bool) (hp:∀ x:Int,128≤x→p x=true) (hf:∀ (x:Int) h w,Sub h w→Calls Tryz.prog g (.int .i32 x::caps).toArray w (zbe h w fun _ _ r=>r=.bool (p x))) (hg:∀ a w,(callFunc g a).run Tryz.prog w=.ok (.enter g a) w) (hs:Sub h w):
  Calls Tryz.prog 238 #[zae s,.func (.func g) #[] caps.toArray,.bool true] w (zbe h w fun _ _ r=>∃ k:Int,r=iV k∧(0≤k↔(s.any fun c=>p (c.toNat:Int))=true)):=by
 refine zl 21 Tryz.func238 Y<|have I:=zbM hs;zx<|zc Y<|zb<|zat<|zdc Y Y<|zwJ I Y zbx Y<|fun b w1 L=>zb<|zT ?_;refine zaM ([7,8]++zcp 11 10++[6]) (G:=Nat×Heap) (fun ⟨k,_⟩=>[]) (fun ⟨k,h'⟩ w'=>Le h h'∧St h w h' w' [[(b,.stringIter ⟨s.toArray⟩ k)]]∧k≤s.length∧∀ j c,j<k→s[j]?=some c→p (c.toNat:Int)=false) (fun ⟨k,_⟩=>s.length-k) ⟨0,h⟩ trivial ⟨Le.refl _,L,by omega,by intros;omega⟩ ?_;rintro ⟨k,S⟩ _ w2 ⟨P,A,hk,hall⟩
 rcases Nat.lt_or_ge k s.length with hlt|hge
 ·obtain ⟨c,hc⟩:∃ c,s[k]?=some c:=⟨_,List.getElem?_eq_getElem hlt⟩;refine zx<|zxE A (k:=0) Y Y hc Y<|fun w3 B=>?_;generalize hR:Utf8.decode ⟨s.toArray⟩ k=R at B;refine zbK Y<|zb<|zaH ?_;refine zap Y (fun C=>?_) (fun C=>?_)
  ·refine zbj ?_;refine zz<|zT<|zx<|zR Y<|zR Y<|zc Y<|zc Y<|zb<|zx<|zjR Y Y<|za Y ?_;refine zbN Y Y (zde (fs:=[]) (cs:=caps) Y Y hg Y) ((hf (R.1:Int) S w3 B.sub).mono ?_);rintro e w4 ⟨T,r4,rfl,s4,rfl⟩;refine ⟨_,Y,?_⟩;have F:=B.call0 s4;refine zt Y<|zQ Y (zCy Y Y zcL)<|zb ?_;refine zap Y (fun Q=>?_) (fun Q=>?_)
   ·have H:p (R.1:Int)=true:=by simpa using Q
    refine zx<|za Y<|zc Y<|zj ?_
    repeat (first|refine zeJ ?_|refine zJ ?_)
    refine zk Tryz.results238 ?_;refine ⟨T,_,rfl,F.done,(k:Int),rfl,⟨fun _=>?_,fun _=>by omega⟩⟩;rw[List.any_eq_true];refine ⟨c,List.mem_of_getElem? hc,?_⟩
    by_cases hl:c.toNat<128
    ·rw[zsO hc hl] at hR;subst hR;exact H
    ·exact hp _ zU
   ·have H:p (R.1:Int)=false:=by simpa using Q
    have hl:c.toNat<128:=by
     rcases Nat.lt_or_ge c.toNat 128 with h5|h5
     ·exact h5
     ·have q:=zww hc zU;rw[hR] at q;rw[hp _ zU] at H;cases H
    rw[zsO hc hl] at hR;subst hR;refine zbj<|zeT ?_;refine ⟨⟨k+1,T⟩,trivial,?_,⟨P.trans s4.le,F,by omega,?_⟩,?_⟩
    ·exact zaR
    ·intro j d hj hd
     rcases Nat.lt_or_ge j k with h3|h3
     ·exact hall j d h3 hd
     ·obtain rfl:j=k:=by omega
      rw[hc] at hd;cases hd;exact H
    ·show s.length-(k+1)<s.length-k;omega
  ·cases C
 ·refine zaH ?_;refine zag<|zxG A (k:=0) Y Y hge Y<|zbK Y<|zb<|zaH ?_;refine zap Y (fun C=>?_) (fun C=>?_)
  ·cases C
  ·refine zhq ?_;refine zcV<|zcV<|zgg<|zz<|zx<|zc Y<|zj<|zk Tryz.results238 ?_;refine ⟨S,_,rfl,A.done,_,rfl,⟨fun q=>absurd q (by decide),fun q=>?_⟩⟩;rw[List.any_eq_true] at q;obtain ⟨c,hc,hpc⟩:=q;obtain ⟨j,hj⟩:=List.mem_iff_getElem?.1 hc;have hjl:=(List.getElem?_eq_some_iff.1 hj).1;rw[hall j c zU hj] at hpc;cases hpc
theorem zog (hlen:s.length≤281474976710656) {caps:List Value} (p:Int→Bool) (hp:∀ x:Int,128≤x→p x=true) (hf:∀ (x:Int) h w,Sub h w→Calls Tryz.prog g (.int .i32 x::caps).toArray w (zbe h w fun _ _ r=>r=.bool (p x))) (hg:∀ a w,(callFunc g a).run Tryz.prog w=.ok (.enter g a) w) (hs:Sub h w):
  Calls Tryz.prog 201 #[zae s,.func (.func g) #[] caps.toArray] w (zbe h w fun _ _ r=>∃ k:Int,r=iV k∧(0≤k↔(s.any fun c=>p (c.toNat:Int))=true)):=by
 refine zl 8 Tryz.func201 Y<|have A:=zbM hs;zx<|zc Y<|zb<|zx<|zdc Y Y<|zjR Y Y<|zn A Y Tryz.call238 (zof hlen p hp hf hg A.sub) ?_;rintro v H C F B ⟨k,rfl,hk⟩;refine zc Y<|zj<|zk Tryz.results201 ?_;exact ⟨C,_,Y,B.done,k,Y,hk⟩
theorem zmH (hlen:s.length≤281474976710656) {caps:List Value} (p:Int→Bool) (hp:∀ x:Int,128≤x→p x=true) (hf:∀ (x:Int) h w,Sub h w→Calls Tryz.prog g (.int .i32 x::caps).toArray w (zbe h w fun _ _ r=>r=.bool (p x))) (hg:∀ a w,(callFunc g a).run Tryz.prog w=.ok (.enter g a) w) (hs:Sub h w):
  Calls Tryz.prog 154 #[zae s,.func (.func g) #[] caps.toArray] w (zbe h w fun _ _ r=>r=.bool (s.any fun c=>p (c.toNat:Int))):=by
 refine zl 9 Tryz.func154 Y<|have A:=zbM hs;zx<|zd Y<|zb<|zx<|zdc Y Y<|zjR Y Y<|zn A Y Tryz.call201 (zog hlen p hp hf hg A.sub) ?_;rintro v H C F B ⟨k,rfl,hk⟩;refine zkU Y Y Y<|zd Y<|zj<|zk Tryz.results154 ?_;refine ⟨C,_,Y,B.done,zM ?_⟩;rw[Bool.eq_iff_iff,decide_eq_true_eq];exact hk
theorem zqD (hs:Sub h w) (c:Int):Calls Tryz.prog 155 #[.int .i32 c] w (zbe h w (fun _ _ res_=>res_=.bool ((decide (c<97) || decide (122<c))))):=by
 refine zl 9 Tryz.func155 Y<|have A:=zbM hs;zx<|zd Y<|zb<|zx<|za Y<|zN Y<|zt Y ?_;refine zaC (d:=5) Y (fun B=>?_) (fun B=>?_)
 ·refine zaf 2 Y<|zi Y<|zd Y<|zj<|zk Tryz.results155 ?_;refine ⟨h,_,Y,A.done,?_⟩;refine zM ?_
  first|(simp_all;done)|(simp_all;omega)
 refine Z Y<|za Y<|Z Y<|zfe Y Y Y<|zh Y<|zd Y<|zj<|zk Tryz.results155 ?_;refine ⟨h,_,Y,A.done,?_⟩;refine zM ?_
 first|(simp_all;done)|(simp_all;omega)
theorem zhY (hs:Sub h w) (s:Str) (s_le:s.length≤281474976710656) (lo:Int):Calls Tryz.prog 100 #[zae s,iV lo] w (zbe h w (fun _ _ res_=>res_=.bool (zed s lo))):=by
 refine zl 15 Tryz.func100 Y<|have F:=zbM hs;zx<|zd Y<|zb<|zx<|za Y<|zdc Y Y<|zdG Y zbx Y<|zA zcy [(s.length:Int)] [iV (s.length:Int)] F (Enc.cons (L:=zcy) (vs:=[iV (s.length:Int)]) (x:=(s.length:Int)) (h:=h) (Y) Enc.nil) Y zaV Tryz.info3 zbL<|fun v1 w2 h5 a0 f3 B=>zn B Y Tryz.call101 (zmj B.sub _ _ f3)<|fun r7 w8 h9 S A H=>?_;obtain rfl:=H;refine zt Y ?_;refine zbp (d:=10) Y (fun I=>?_) (fun I=>?_)
 ·refine Z Y<|zdc Y Y<|Z Y ?_;refine zaD A rfl rfl rfl Tryz.call154 rfl (zmH (s:=s) zbq (fun x_:Int=>(decide ((x_)<97) || decide (122<(x_)))) (by intro x_ hx_;simp;omega) (fun x_ h_ w_ hs_=>zqD hs_ x_) Tryz.call155 A.sub) ?_;intro a1 a2 P T C Q;obtain rfl:=Q;refine Z Y<|zcq Y Y<|zi Y<|zd Y<|zj<|zk Tryz.results100 ?_;refine ⟨P,_,Y,C.done,?_⟩;refine zM ?_;rw[zsB];simp_all[zcJ]
 refine zaf 3 Y<|zh Y<|zd Y<|zj<|zk Tryz.results100 ?_;refine ⟨h9,_,Y,A.done,?_⟩;refine zM ?_;rw[zsB];simp_all[zcJ]
theorem zkM (hs:Sub h w) (hd_l1:hd.stem.length≤281474976710656) (hd_l2:0≤hd.mark∧hd.mark≤255):Calls Tryz.prog 131 #[.agg #[zae hd.stem,.int .u8 hd.mark]] w (zbe h w (fun _ _ res_=>res_=.bool (zhK hd))):=by
 refine zl 11 Tryz.func131 Y<|have H:=zbM hs;zx<|ze [zae (hd.stem),.int .u8 (hd.mark)] H Y<|fun S T h3 Q C B=>zd Y<|zb<|zx<|U zcU Y zaj<|M 0 B.sub C zaK Y<|zn B Y Tryz.call100 (zhY B.sub _ zbq _)<|fun r7 w8 P F A I=>?_;obtain rfl:=I;refine zt Y ?_;refine zbp (d:=6) Y (fun L=>?_) (fun L=>?_)
 ·refine Z Y<|U zcU Y zbn<|Z Y<|M 1 A.sub (C.up F) zbO Y<|Z Y<|zQ Y (zpG Y Y)<|zi Y<|zd Y<|zj<|zk Tryz.results131 ?_;refine ⟨P,_,Y,A.done,?_⟩;refine zM ?_;rw[zxV _ zU];simp_all
 refine zaf 3 Y<|zh Y<|zd Y<|zj<|zk Tryz.results131 ?_;refine ⟨P,_,Y,A.done,?_⟩;refine zM ?_;rw[zxV _ zU];simp_all
end Go.Pk
