/- A PART OF THE PROOF: contracts of functions, each walked once (much of it printed by a program of the author's own). -/
import Derived.Test.YtjkkoclmagdpoaaGreatDoorT13
import Derived.Test.YtjkkoclmagdpoaaGreatDoorT7
import Derived.Test.YtjkkoclmagdpoaaGreatDoorT12
import Derived.Test.YtjkkoclmagdpoaaGreatDoorT4
import Derived.Test.YtjkkoclmagdpoaaGreatDoorT8
import Derived.Test.YtjkkoclmagdpoaaGreatDoorT9
import Derived.Test.YtjkkoclmagdpoaaGreatDoorT3
set_option linter.unusedSimpArgs false
set_option linter.unusedVariables false
set_option maxRecDepth 4000
namespace Go.Pk
open Go Go.RowKit Go.Proofs
variable {h:Heap} {w:World} {c:Copy} {t_v0 c_v0 l_v a_v0 b_v0 r_v0 r_v1 r_v2 r_v3 r_v4 x_v0:Value} {r:Records} {p:Place} {hd:Head} {x:Edition}
theorem zqe (hs:Sub h w) {c:Cut} (c_l2:0≤c.side∧c.side≤255):Calls Tryz.prog 108 #[.agg #[iV c.width,.int .u8 c.side]] w (zbe h w (fun _ _ res_=>res_=.bool ((zoW c)))):=by
 refine zl 12 Tryz.func108 Y<|have I:=zbM hs;zx<|ze [iV (c.width),.int .u8 (c.side)] I Y<|fun b1 w2 h3 a0 C B=>zd Y<|zb<|zx<|U Tryz.underlying34 Y zG<|M 0 B.sub C zO Y<|zn B Y Tryz.call163 (zkx B.sub _ _ _)<|fun r7 w8 h9 F A L=>?_;obtain rfl:=L;refine zt Y ?_;refine zbp (d:=6) Y (fun P=>?_) (fun P=>?_)
 ·refine Z Y<|U Tryz.underlying34 Y zbn<|Z Y<|M 1 A.sub (C.up F) zbO Y<|Z Y ?_;refine zar rfl rfl (zhi rfl rfl zcu (IntWalk.i64_in _ zU)) ?_;refine Z Y<|zn A Y Tryz.call163 (zkx A.sub _ _ _)<|fun a1 a2 Q T H S=>?_;obtain rfl:=S;refine zi Y<|zd Y<|zj<|zk Tryz.results108 ?_;refine ⟨Q,_,Y,H.done,?_⟩;refine zM ?_
  first|(simp_all[zoW];done)|(simp[zoW];simp_all;done)
 refine zaf 4 Y<|zh Y<|zd Y<|zj<|zk Tryz.results108 ?_;refine ⟨h9,_,Y,A.done,?_⟩;refine zM ?_
 first|(simp_all[zoW];done)|(simp[zoW];simp_all;done)
theorem zos (hs:Sub h w) {c:Cut} (c_l2:0≤c.side∧c.side≤255):Calls Tryz.prog 54 #[.agg #[iV c.width,.int .u8 c.side]] w (zbe h w (fun _ _ res_=>res_=iV ((zjP c)))):=by
 refine zl 6 Tryz.func54 Y<|have C:=zbM hs;zx<|ze [iV (c.width),.int .u8 (c.side)] C Y<|fun S T h3 Q F B=>zc Y<|zb<|zat<|zg B.sub F Tryz.isAgg34 zgv Y<|zn B Y Tryz.call108 (zqe B.sub (c:=c) zdb)<|fun r7 w8 L P A H=>?_;obtain rfl:=H;refine zcq Y Y<|zb ?_;refine zap Y (fun I=>?_) (fun I=>?_)
 ·refine zx<|zc Y<|zj<|zJ<|zk Tryz.results54 ?_;refine ⟨L,_,Y,A.done,?_⟩;refine zaB ?_
  first|(simp_all[zjP];done)|(cases e_:zoW c <;> simp_all[zjP])
 refine zdF<|zx<|zc Y<|zj<|zk Tryz.results54 ?_;refine ⟨L,_,Y,A.done,?_⟩;refine zaB ?_
 first|(simp_all[zjP];done)|(cases e_:zoW c <;> simp_all[zjP])
theorem zng (hs:Sub h w) {t:Text} (t_f0:Sl zax h t_v0 t.chapters) {r:Reading} (r_l4:0≤r.kind∧r.kind≤255) (r_l5:r.word.length≤281474976710656) (ht:zbF t=true):Calls Tryz.prog 164 #[.agg #[t_v0],.agg #[iV r.at_.chapter,iV r.at_.line,iV r.at_.word,.int .u8 r.kind,zae r.word]] w (zbe h w (fun _ _ res_=>res_=.bool ((zfo t r)))):=by
 refine zl 70 Tryz.func164 Y<|have b4:=zbM hs;have a9:=t_f0.le;zx<|ze [t_v0] b4 Y<|fun b1 w2 h3 b5 b6 b8=>ze [iV (r.at_.chapter),iV (r.at_.line),iV (r.at_.word),.int .u8 (r.kind),zae (r.word)] b8 Y<|fun b7 w8 h9 P B F=>zd Y<|zb<|zx<|zg F.sub (b6.up P) zaG zab Y<|U zai Y zP<|zw 0 [iV (r.at_.chapter),iV (r.at_.line),iV (r.at_.word)] F.sub B zaE zP Y<|have b9:=b5.t P;zn F Y Tryz.call116 (zlo F.sub (t:=t) (t_f0.up b9) (p:=r.at_))<|fun d8 d9 Q C A c0=>?_;obtain ⟨I,rfl,f21⟩:=c0;have b3:=f21.le;refine zdy Y Y<|zaL I Y<|zbK Y<|zH I Y<|zd Y<|zb<|zat<|zt Y<|zcq Y Y<|zb ?_;refine zap Y (fun S=>?_) (fun S=>?_)
 ·refine zx<|zd Y<|zj<|zJ<|zk zgf ?_;refine ⟨Q,_,Y,A.done,?_⟩;refine zM ?_;rw[zxk (by simpa using S)]
 refine zaN<|zaH ?_;obtain ⟨l,hl⟩:∃ l,zcc t r.at_=some l:=Option.isSome_iff_exists.1 (by simpa using S);have hgl:(zcc t r.at_).getD []=l:=by rw[hl];rfl
 have hlz:=zqx ht hl;refine zag<|U zai Y zbn<|M 3 A.sub (B.up C) zbO Y<|zb<|zT<|zx<|zeb Y Y Y<|zd Y<|zb ?_;refine zS Y (fun c1=>?_) (fun c1=>?_)
 ·refine zx<|U zai Y zP<|U zal Y zG<|M 2 A.sub (B.up C) zO Y<|zq I Y<|zK f21 zC Y<|zfG Y Y zaS Y<|zn A Y zgo (zcE A.sub _ _ _)<|fun e0 e1 T a0 L c2=>?_;subst c2;refine zt Y ?_;refine zbp (d:=27) Y (fun c3=>?_) (fun c3=>?_)
  ·refine Z Y<|U zai Y zaj<|Z Y<|M 4 L.sub (B.up (C.t a0)) zaK Y<|Z Y<|ziO Y Y Y<|zi Y<|zd Y<|zj<|zan<|zk zgf ?_;refine ⟨T,_,Y,L.done,?_⟩;refine zM ?_;rw[zks ht hl];simp_all[zfu]
  refine zaf 3 Y<|zh Y<|zd Y<|zj<|zan<|zk zgf ?_;refine ⟨T,_,Y,L.done,?_⟩;refine zM ?_;rw[zks ht hl];simp_all[zfu]
 refine zx<|zeb Y Y Y<|zd Y<|zb ?_;refine zS Y (fun c4=>?_) (fun c4=>?_)
 ·refine zx<|U zai Y zP<|U zal Y zG<|M 2 A.sub (B.up C) zO Y<|zq I Y<|zK f21 zC Y<|zn A Y zgo (zcE A.sub _ _ _)<|fun e2 e3 c5 a1 H c6=>?_;subst c6;refine zt Y ?_;refine zbp (d:=40) Y (fun c7=>?_) (fun c7=>?_)
  ·refine Z Y<|U zai Y zaj<|Z Y<|M 4 H.sub (B.up (C.t a1)) zaK Y<|Z Y<|zn H Y Tryz.call137 (zfE H.sub _ zbq)<|fun e4 e5 c8 d7 a2 c9=>?_;subst c9;refine zi Y<|zd Y<|zj<|zan<|zk zgf ?_;refine ⟨c8,_,Y,a2.done,?_⟩;refine zM ?_;rw[zks ht hl];simp_all[zfu]
  refine zaf 3 Y<|zh Y<|zd Y<|zj<|zan<|zk zgf ?_;refine ⟨c5,_,Y,H.done,?_⟩;refine zM ?_;rw[zks ht hl];simp_all[zfu]
 refine zx<|zeb Y Y Y<|zd Y<|zb ?_;refine zS Y (fun d0=>?_) (fun d0=>?_)
 ·refine zaH<|zbZ Tryz.mixed zbL (Cls Q _) (Cls.drew A)<|zD zai Y zP<|zD zal Y zG<|zp Y (fun _ hC=>(zX (j:=2) hC.sub (B.up C) Y Y Y zO))<|zbc I Y<|zpu f21 Y zC Y<|zkV Y Y zaS Y<|zcl Y Y (fun _=>zbJ Y zgo Y) (fun _ hC=>zbe.quiet hC (zcE hC.sub _ _ _))<|zdl Y Y ?_;refine zfd (d:=54) Y (fun b0=>?_) (fun b0=>?_)
  ·refine zf Y<|zD zai Y zaj<|zf Y<|zp Y (fun _ hC=>(zX (j:=4) hC.sub (B.up C) Y Y Y zaK))<|zf Y<|zcl Y Y (fun _=>zbJ Y Tryz.call137 Y) (fun _ hC=>zbe.quiet hC (zfE hC.sub _ zbq))<|zaw Y<|zdl Y Y ?_;refine zfd (d:=59) Y (fun b2=>?_) (fun b2=>?_)
   ·refine zf Y<|zD zai Y zaj<|zf Y<|zp Y (fun _ hC=>(zX (j:=4) hC.sub (B.up C) Y Y Y zaK))<|zf Y<|zbc I Y<|zf Y<|zD zai Y zP<|zf Y<|zD zal Y zG<|zf Y<|zp Y (fun _ hC=>(zX (j:=2) hC.sub (B.up C) Y Y Y zO))<|zf Y ?_;have hwb:0≤r.at_.word∧r.at_.word<(((zcc t r.at_).getD []).length:Int):=by have q_:=b2;have q2_:=b0;simp[inB] at q_ q2_;omega
    obtain ⟨own,hown⟩:∃ y_,((zcc (t) (r.at_)).getD [])[r.at_.word.toNat]?=some y_:=zch zU;obtain ⟨e6,e7,_,a3,a4,hr_own⟩:=Sl.elem f21 hown;obtain ⟨rfl,a5⟩:=hr_own;simp only[big] at a5;refine zbU rfl rfl (fun _ _=>(zbz a3 rfl rfl (hk:=(show _=((r.at_.word.toNat:Nat):Int) by omega)) (hu:=zC) (hz:=zaj))) ?_;refine zf Y<|zp Y (fun _ hC=>(zX (j:=0) hC.sub a4 Y Y Y zaK))<|zf Y<|zp Y (fun _ _=>(zkz Y Y))<|zaw Y<|zjS Y Y<|zbl ?_;rintro e8 ⟨d1,d2⟩;have a6:=A.call0 d2;refine zz<|zfS<|zan<|zk zgf ?_;refine ⟨d1,_,Y,a6.done,?_⟩;refine zM ?_;rw[zks ht hl];simp_all[zfu]
   refine zbT 9 Y<|zZ Y<|zjS Y Y<|zbl ?_;rintro e9 ⟨d3,d4⟩;have a7:=A.call0 d4;refine zz<|zfS<|zan<|zk zgf ?_;refine ⟨d3,_,Y,a7.done,?_⟩;refine zM ?_;rw[zks ht hl];simp_all[zfu]
  refine zbT 3 Y<|zZ Y<|zdl Y Y<|zbT 9 Y<|zZ Y<|zjS Y Y<|zbl ?_;rintro g0 ⟨d5,d6⟩;have a8:=A.call0 d6;refine zz<|zfS<|zan<|zk zgf ?_;refine ⟨d5,_,Y,a8.done,?_⟩;refine zM ?_;rw[zks ht hl];simp_all[zfu]
 refine zbj<|zeT<|zz<|zx<|zd Y<|zj<|zk zgf ?_;refine ⟨Q,_,Y,A.done,?_⟩;refine zM ?_;rw[zks ht hl];simp_all[zfu]
set_option maxHeartbeats 4000000 in
theorem zph (hs:Sub h w) {t:Text} (t_f0:Sl zax h t_v0 t.chapters) (c_f0:Sl zdS h c_v0 c.readings) (k:Int) (n:Int) (ht:zbF t=true) (hc20:c.readings.length≤20) (hk0:0≤k) (hk2:k.toNat<t.chapters.length) (hn0:0≤n) (hn2:n.toNat<(zbY t k.toNat).length):Calls Tryz.prog 166 #[.agg #[t_v0],.agg #[iV c.id,c_v0],iV k,iV n] w (zbe h w (fun h' _ res_=>∃ u0,res_=u0∧Sl zcn h' u0 ((zvP c k.toNat n.toNat (zfA t k.toNat n.toNat))))):=by
 refine zl 86 Tryz.func166 Y<|have k3:=zbM hs;have j1:=t_f0.le;have j2:=c_f0.le;zx<|ze [t_v0] k3 Y<|fun b1 w2 h3 k4 k5 k6=>ze [iV (c.id),c_v0] k6 Y<|fun b7 w8 h9 b8 a6 a7=>zcP Y Y<|zb<|zx<|zcP Y Y<|zb<|zx<|U zaI Y zbi<|M 0 a7.sub (k5.up b8) zbI Y<|za Y ?_;obtain ⟨x,hx⟩:∃ y_,(t.chapters)[k.toNat]?=some y_:=zch zU;have d7:=k4.t b8;obtain ⟨o0,o1,_,e0,e1,hr_x⟩:=Sl.elem (t_f0.up d7) hx;obtain ⟨o2,rfl,f19⟩:=hr_x;have j9:=f19.le;refine zar rfl rfl (zbz e0 rfl rfl (hk:=(show _=((k.toNat:Nat):Int) by omega)) (hu:=zav) (hz:=zbb)) ?_;have hla:zbY t k.toNat=x.lines:=by rw[zbY,hx];rfl
 rw[hla] at hn2;refine U zaz Y zbu<|M 1 a7.sub e1 zbS Y<|za Y ?_;obtain ⟨l,hl⟩:∃ y_,(x.lines)[n.toNat]?=some y_:=zch zU;obtain ⟨o3,o4,_,e2,e3,hr_l⟩:=Sl.elem f19 hl;obtain ⟨d6,rfl,f25⟩:=hr_l;have k0:=f25.le;refine zar rfl rfl (zbz e2 rfl rfl (hk:=(show _=((n.toNat:Nat):Int) by omega)) (hu:=zaJ) (hz:=zdd)) ?_;have hwl:zfA t k.toNat n.toNat=l:=by rw[zfA,hla,hl];rfl
 have e4:=zgh ht k.toNat n.toNat;rw[hwl] at e4;refine M 0 a7.sub e3 zdx Y<|zH d6 Y<|zb<|zat<|zc Y<|zb<|zT ?_;have e5:=a7.snoc;have f30:=OSl.nil zcn 9 h9;refine zaM ([9,11,12,13,14]++zcp 24 61) (G:=Nat×Value×List (Nat×Obj)×Heap) (fun ⟨w_,A,B,a5⟩=>[(9,A),(11,iV (w_:Int))]) (fun ⟨w_,A,B,a5⟩ w'=>Le h9 a5∧St h w a5 w' [B]∧(OSl zcn 9 a5 A (zlT c k.toNat n.toNat l w_) B)∧(w_≤l.length+1)) (fun ⟨w_,A,B,a5⟩=>l.length+1-w_) ⟨0,(.slice none 0 0),[],h9⟩ ⟨rfl,rfl,trivial⟩ ⟨Le.refl _,e5,(OSl.to f30 (by rfl)),zbm⟩ ?_;rintro ⟨w_,A,B,a5⟩ _ o5 ⟨I,a8,C,hw⟩;refine zat<|za Y<|zq d6 Y<|zK (f25.up I) zC Y<|zQ Y (zpG Y Y)<|zb ?_;refine zS Y (fun k7=>?_) (fun k7=>?_)
 ·refine zaN<|zT<|zx<|zff Y Y<|zb<|zat<|za Y<|zq d6 Y<|zK (f25.up I) zC Y<|zN Y<|zb ?_;refine zS Y (fun k8=>?_) (fun k8=>?_)
  ·refine zag<|zq d6 Y<|za Y ?_;obtain ⟨wd,hwd⟩:∃ y_,(l)[w_]?=some y_:=zch zU;obtain ⟨o6,o7,_,e6,e7,hr_wd⟩:=Sl.elem (f25.up I) hwd;obtain ⟨rfl,e8⟩:=hr_wd;simp only[big] at e8;refine zL e6 zC zaj Y<|M 0 a8.sub e7 zaK Y<|zff Y Y<|zb<|zat<|zc Y<|zb<|zT ?_;refine zaM ([9,12,13,14]++zcp 38 41) (G:=Nat×Value×List (Nat×Obj)×Heap) (fun ⟨m,A,B,a9⟩=>[(9,A),(12,zae (zhM c k.toNat n.toNat l w_ m).2),(13,iV (m:Int))]) (fun ⟨m,A,B,a9⟩ w'=>Le a5 a9∧St h w a9 w' [B]∧(OSl zcn 9 a9 A (zlT c k.toNat n.toNat l w_++(zhM c k.toNat n.toNat l w_ m).1) B)∧(m≤c.readings.length)∧(((zhM c k.toNat n.toNat l w_ m).2).length≤281474976710656)) (fun ⟨m,A,B,a9⟩=>c.readings.length-m) ⟨0,A,B,a5⟩ ⟨rfl,(zfa (by rw[zkO,zfu];first|(rw[hwd];rfl)|(rw[List.getElem?_eq_none zU];rfl))),rfl,trivial⟩ ⟨Le.refl _,a8,(OSl.to C (by simp[zkO])),zbm,(by rw[zkO,zfu];first|(rw[hwd];assumption)|(rw[List.getElem?_eq_none zU];exact Nat.zero_le _))⟩ ?_;rintro ⟨m,A,B,a9⟩ _ o8 ⟨Q,a1,C,hm,hq⟩;refine zat<|za Y<|U zbt Y zcQ<|M 1 a1.sub (a6.up (I.t Q)) zdh Y<|have j3:=(d7.t I).t Q;zK (c_f0.up j3) zbf Y<|zN Y<|zb ?_;refine zS Y (fun k9=>?_) (fun k9=>?_)
   ·refine zaN<|zT<|zx<|U zbt Y zcQ<|M 1 a1.sub (a6.up (I.t Q)) zdh Y<|za Y ?_;obtain ⟨r,hr⟩:∃ y_,(c.readings)[m]?=some y_:=zch zU;obtain ⟨o9,p0,_,e9,g0,hr_r⟩:=Sl.elem (c_f0.up j3) hr;obtain ⟨rfl,m0,g1⟩:=hr_r;simp only[big] at g1;refine zL e9 zbf zby Y<|zg a1.sub g0 zfc zby Y<|zad a1 zet Y Y<|fun p1 p2 g2=>zo 1 g2 Y zby<|fun p3 g3=>?_;obtain ⟨b6,S,g4,P⟩:=g3.freeze (k:=1) rfl;have a2:=zay.of g4;refine zb<|zat<|U zai Y zP<|U zal Y zG<|M 0 P.sub a2 zO Y<|za Y<|zao Y<|zt Y ?_;refine zaC (d:=55) Y (fun l0=>?_) (fun l0=>?_)
    ·refine zaf 5 Y<|zi Y<|zt Y<|zaf 5 Y<|zi Y<|zb ?_;refine zap Y (fun j4=>?_) (fun j4=>?_)
     ·refine zhq<|zcV<|zgg<|zz<|zag<|za Y<|zy Y zaS<|zc Y<|zb ?_;have hne:¬ r.at_=mkP k.toNat n.toNat w_:=by intro e_;have e1_:=congrArg Place.chapter e_;have e2_:=congrArg Place.line e_;have e3_:=congrArg Place.word e_;simp only[mkP] at e1_ e2_ e3_;omega
      have hM:=zkP (l:=l) hr hne;refine ⟨⟨m+1,A,B,b6⟩,⟨rfl,?_,Y,trivial⟩,?_,⟨(Q.t S),P.take 1,?_,?_,?_⟩,?_⟩
      ·exact zfa (by rw[hM])
      ·exact zaR
      ·refine OSl.to (C.up S) ?_;simp[hM]
      ·first|omega|(simp;omega)
      ·rw[hM];assumption
      show c.readings.length-((m+1))<c.readings.length-m;omega
     cases j4
    refine Z Y<|U zai Y zP<|Z Y<|U zal Y zG<|Z Y<|M 1 P.sub a2 zO Y<|Z Y<|za Y<|Z Y<|zao Y<|zh Y<|zt Y ?_;refine zaC (d:=62) Y (fun l1=>?_) (fun l1=>?_)
    ·refine zaf 5 Y<|zi Y<|zb ?_;refine zap Y (fun j5=>?_) (fun j5=>?_)
     ·refine zhq<|zcV<|zgg<|zz<|zag<|za Y<|zy Y zaS<|zc Y<|zb ?_;have hne:¬ r.at_=mkP k.toNat n.toNat w_:=by intro e_;have e1_:=congrArg Place.chapter e_;have e2_:=congrArg Place.line e_;have e3_:=congrArg Place.word e_;simp only[mkP] at e1_ e2_ e3_;omega
      have hM:=zkP (l:=l) hr hne;refine ⟨⟨m+1,A,B,b6⟩,⟨rfl,?_,Y,trivial⟩,?_,⟨(Q.t S),P.take 1,?_,?_,?_⟩,?_⟩
      ·exact zfa (by rw[hM])
      ·exact zaR
      ·refine OSl.to (C.up S) ?_;simp[hM]
      ·first|omega|(simp;omega)
      ·rw[hM];assumption
      show c.readings.length-((m+1))<c.readings.length-m;omega
     cases j5
    refine Z Y<|U zai Y zP<|Z Y<|U zal Y zG<|Z Y<|M 2 P.sub a2 zO Y<|Z Y<|za Y<|Z Y<|zao Y<|zh Y<|zb ?_;refine zS Y (fun l2=>?_) (fun l2=>?_)
    ·refine zhq<|zcV<|zgg<|zz<|zag<|za Y<|zy Y zaS<|zc Y<|zb ?_;have hne:¬ r.at_=mkP k.toNat n.toNat w_:=by intro e_;have e1_:=congrArg Place.chapter e_;have e2_:=congrArg Place.line e_;have e3_:=congrArg Place.word e_;simp only[mkP] at e1_ e2_ e3_;omega
     have hM:=zkP (l:=l) hr hne;refine ⟨⟨m+1,A,B,b6⟩,⟨rfl,?_,Y,trivial⟩,?_,⟨(Q.t S),P.take 1,?_,?_,?_⟩,?_⟩
     ·exact zfa (by rw[hM])
     ·exact zaR
     ·refine OSl.to (C.up S) ?_;simp[hM]
     ·first|omega|(simp;omega)
     ·rw[hM];assumption
     show c.readings.length-((m+1))<c.readings.length-m;omega
    refine zdF<|zx<|U zai Y zbn<|M 3 P.sub a2 zbO Y<|zeb Y Y Y<|zb ?_;refine zS Y (fun d8=>?_) (fun d8=>?_)
    ·refine zag<|zq A Y<|U zai Y zaj<|M 4 P.sub a2 zaK Y<|zA zcn [(r.word)] [zae (r.word)] P (Enc.cons (L:=zcn) (vs:=[zae (r.word)]) (x:=(r.word)) (h:=b6) (⟨rfl,zbq⟩) Enc.nil) Y zC Tryz.info9 zbL<|fun p4 p5 l3 b9 f69 g5=>?_;refine zaO (k:=0) (nb:=16) g5 (C.up (S.t b9)) rfl f69 rfl rfl rfl zC Tryz.info9 rfl rfl rfl (by decide) rfl (by have q_:=zhh (c:=c) (k:=k.toNat) (n:=n.toNat) (l:=l) w_;have q2_:(c.readings.length+1)*w_≤21*w_:=Nat.mul_le_mul_right _ zU;have q3_:=zfL (c:=c) (k:=k.toNat) (n:=n.toNat) (l:=l) (w:=w_) c.readings.length;have q4_:=zfL (c:=c) (k:=k.toNat) (n:=n.toNat) (l:=l) (w:=w_) m;simp only[List.length_append,List.length_cons,List.length_nil];omega) (by have q_:=zhh (c:=c) (k:=k.toNat) (n:=n.toNat) (l:=l) w_;have q2_:(c.readings.length+1)*w_≤21*w_:=Nat.mul_le_mul_right _ zU;have q3_:=zfL (c:=c) (k:=k.toNat) (n:=n.toNat) (l:=l) (w:=w_) c.readings.length;have q4_:=zfL (c:=c) (k:=k.toNat) (n:=n.toNat) (l:=l) (w:=w_) m;simp only[List.length_append,List.length_cons,List.length_nil];omega) ?_;intro j6 l4 p6 _ l5 f77 g6;subst l5;refine zH j6 Y<|zB<|zaF<|za Y<|zy Y zaS<|zc Y<|zb ?_;have e1_:r.at_.chapter=(k.toNat:Int):=by omega
     have e2_:r.at_.line=(n.toNat:Int):=by omega
     have e3_:r.at_.word=(w_:Int):=by omega
     have heq:r.at_=mkP k.toNat n.toNat w_:=by show r.at_=⟨_,_,_⟩;rw[← e1_,← e2_,← e3_]
     have hM:(zhM c k.toNat n.toNat l w_ (m+1))=((zhM c k.toNat n.toNat l w_ m).1++[r.word],(zhM c k.toNat n.toNat l w_ m).2):=by rw[zpz hr heq,zld,if_pos (by simpa using d8)]
     refine ⟨⟨m+1,j6,l4,l3⟩,⟨rfl,?_,Y,trivial⟩,?_,⟨((Q.t S).t b9),g6.take 1,?_,?_,?_⟩,?_⟩
     ·exact zfa (by rw[hM])
     ·exact zaR
     ·refine OSl.to f77 ?_;simp[hM]
     ·first|omega|(simp;omega)
     ·rw[hM];assumption
     show c.readings.length-((m+1))<c.readings.length-m;omega
    refine zag<|U zai Y zaj<|M 4 P.sub a2 zaK Y<|zff Y Y<|zB<|zaF<|za Y<|zy Y zaS<|zc Y<|zb ?_;have e1_:r.at_.chapter=(k.toNat:Int):=by omega
    have e2_:r.at_.line=(n.toNat:Int):=by omega
    have e3_:r.at_.word=(w_:Int):=by omega
    have heq:r.at_=mkP k.toNat n.toNat w_:=by show r.at_=⟨_,_,_⟩;rw[← e1_,← e2_,← e3_]
    have hM:(zhM c k.toNat n.toNat l w_ (m+1))=((zhM c k.toNat n.toNat l w_ m).1,r.word):=by rw[zpz hr heq,zld,if_neg (by simpa using d8)]
    refine ⟨⟨m+1,A,B,b6⟩,⟨rfl,?_,Y,trivial⟩,?_,⟨(Q.t S),P.take 1,?_,?_,?_⟩,?_⟩
    ·exact zfa (by rw[hM])
    ·exact zaR
    ·refine OSl.to (C.up S) ?_;simp[hM]
    ·first|omega|(simp;omega)
    ·rw[hM];assumption
    show c.readings.length-((m+1))<c.readings.length-m;omega
   refine zcC<|zz<|zx<|zdc Y Y<|zQ Y (zkz Y Y)<|zb ?_;refine zS Y (fun d9=>?_) (fun d9=>?_)
   ·refine zag<|zq A Y<|zdc Y Y<|zA zcn [(zhM c k.toNat n.toNat l w_ m).2] [zae (zhM c k.toNat n.toNat l w_ m).2] a1 (Enc.cons (L:=zcn) (vs:=[zae (zhM c k.toNat n.toNat l w_ m).2]) (x:=(zhM c k.toNat n.toNat l w_ m).2) (h:=a9) (⟨rfl,zbq⟩) Enc.nil) Y zC Tryz.info9 zbL<|fun p7 p8 l6 c0 f82 g7=>?_;refine zaO (k:=0) (nb:=16) g7 (C.up c0) rfl f82 rfl rfl rfl zC Tryz.info9 rfl rfl rfl (by decide) rfl (by have q_:=zhh (c:=c) (k:=k.toNat) (n:=n.toNat) (l:=l) w_;have q2_:(c.readings.length+1)*w_≤21*w_:=Nat.mul_le_mul_right _ zU;have q3_:=zfL (c:=c) (k:=k.toNat) (n:=n.toNat) (l:=l) (w:=w_) c.readings.length;have q4_:=zfL (c:=c) (k:=k.toNat) (n:=n.toNat) (l:=l) (w:=w_) m;simp only[List.length_append,List.length_cons,List.length_nil];omega) (by have q_:=zhh (c:=c) (k:=k.toNat) (n:=n.toNat) (l:=l) w_;have q2_:(c.readings.length+1)*w_≤21*w_:=Nat.mul_le_mul_right _ zU;have q3_:=zfL (c:=c) (k:=k.toNat) (n:=n.toNat) (l:=l) (w:=w_) c.readings.length;have q4_:=zfL (c:=c) (k:=k.toNat) (n:=n.toNat) (l:=l) (w:=w_) m;simp only[List.length_append,List.length_cons,List.length_nil];omega) ?_;intro j7 l7 p9 _ l8 f90 g8;subst l8;refine zH j7 Y<|zB<|zaF<|za Y<|zy Y zaS<|zc Y<|zb ?_;obtain rfl:m=c.readings.length:=by omega
    refine ⟨⟨w_+1,j7,l7,l6⟩,⟨rfl,Y,trivial⟩,?_,⟨((I.t Q).t c0),g8,?_,?_⟩,?_⟩
    ·exact zaR
    ·refine OSl.to f90 ?_;rw[zkq,← zpy,zsK,if_neg (by simpa using d9),← List.append_assoc]
    ·first|omega|(simp;omega)
    show l.length+1-((w_+1))<l.length+1-w_;omega
   refine zbj<|zaF<|za Y<|zy Y zaS<|zc Y<|zb ?_;obtain rfl:m=c.readings.length:=by omega
   refine ⟨⟨w_+1,A,B,a9⟩,⟨rfl,Y,trivial⟩,?_,⟨(I.t Q),a1,?_,?_⟩,?_⟩
   ·exact zaR
   ·refine OSl.to C ?_;rw[zkq,← zpy,zsK,if_pos (by simpa using d9),List.append_nil]
   ·first|omega|(simp;omega)
   show l.length+1-((w_+1))<l.length+1-w_;omega
  refine zaN<|zx<|zc Y<|zb<|zT ?_;refine zaM ([9,12,13,14]++zcp 38 41) (G:=Nat×Value×List (Nat×Obj)×Heap) (fun ⟨m,A,B,b0⟩=>[(9,A),(12,zae (zhM c k.toNat n.toNat l w_ m).2),(13,iV (m:Int))]) (fun ⟨m,A,B,b0⟩ w'=>Le a5 b0∧St h w b0 w' [B]∧(OSl zcn 9 b0 A (zlT c k.toNat n.toNat l w_++(zhM c k.toNat n.toNat l w_ m).1) B)∧(m≤c.readings.length)∧(((zhM c k.toNat n.toNat l w_ m).2).length≤281474976710656)) (fun ⟨m,A,B,b0⟩=>c.readings.length-m) ⟨0,A,B,a5⟩ ⟨rfl,(zfa (by rw[zkO,zfu];first|(rw[hwd];rfl)|(rw[List.getElem?_eq_none zU];rfl))),rfl,trivial⟩ ⟨Le.refl _,a8,(OSl.to C (by simp[zkO])),zbm,(by rw[zkO,zfu];first|(rw[hwd];assumption)|(rw[List.getElem?_eq_none zU];exact Nat.zero_le _))⟩ ?_;rintro ⟨m,A,B,b0⟩ _ q0 ⟨T,a3,C,hm,hq⟩;refine zat<|za Y<|U zbt Y zcQ<|M 1 a3.sub (a6.up (I.t T)) zdh Y<|have j8:=(d7.t I).t T;zK (c_f0.up j8) zbf Y<|zN Y<|zb ?_;refine zS Y (fun l9=>?_) (fun l9=>?_)
  ·refine zaN<|zT<|zx<|U zbt Y zcQ<|M 1 a3.sub (a6.up (I.t T)) zdh Y<|za Y ?_;obtain ⟨r,hr⟩:∃ y_,(c.readings)[m]?=some y_:=zch zU;obtain ⟨q1,q2,_,c5,c6,hr_r⟩:=Sl.elem (c_f0.up j8) hr;obtain ⟨rfl,k1,c7⟩:=hr_r;simp only[big] at c7;refine zL c5 zbf zby Y<|zg a3.sub c6 zfc zby Y<|zad a3 zet Y Y<|fun m1 m2 c8=>zo 1 c8 Y zby<|fun m3 c9=>?_;obtain ⟨a4,H,d0,F⟩:=c9.freeze (k:=1) rfl;have a0:=zay.of d0;refine zb<|zat<|U zai Y zP<|U zal Y zG<|M 0 F.sub a0 zO Y<|za Y<|zao Y<|zt Y ?_;refine zaC (d:=55) Y (fun g9=>?_) (fun g9=>?_)
   ·refine zaf 5 Y<|zi Y<|zt Y<|zaf 5 Y<|zi Y<|zb ?_;refine zap Y (fun c1=>?_) (fun c1=>?_)
    ·refine zhq<|zcV<|zgg<|zz<|zag<|za Y<|zy Y zaS<|zc Y<|zb ?_;have hne:¬ r.at_=mkP k.toNat n.toNat w_:=by intro e_;have e1_:=congrArg Place.chapter e_;have e2_:=congrArg Place.line e_;have e3_:=congrArg Place.word e_;simp only[mkP] at e1_ e2_ e3_;omega
     have hM:=zkP (l:=l) hr hne;refine ⟨⟨m+1,A,B,a4⟩,⟨rfl,?_,Y,trivial⟩,?_,⟨(T.t H),F.take 1,?_,?_,?_⟩,?_⟩
     ·exact zfa (by rw[hM])
     ·exact zaR
     ·refine OSl.to (C.up H) ?_;simp[hM]
     ·first|omega|(simp;omega)
     ·rw[hM];assumption
     show c.readings.length-((m+1))<c.readings.length-m;omega
    cases c1
   refine Z Y<|U zai Y zP<|Z Y<|U zal Y zG<|Z Y<|M 1 F.sub a0 zO Y<|Z Y<|za Y<|Z Y<|zao Y<|zh Y<|zt Y ?_;refine zaC (d:=62) Y (fun h0=>?_) (fun h0=>?_)
   ·refine zaf 5 Y<|zi Y<|zb ?_;refine zap Y (fun c2=>?_) (fun c2=>?_)
    ·refine zhq<|zcV<|zgg<|zz<|zag<|za Y<|zy Y zaS<|zc Y<|zb ?_;have hne:¬ r.at_=mkP k.toNat n.toNat w_:=by intro e_;have e1_:=congrArg Place.chapter e_;have e2_:=congrArg Place.line e_;have e3_:=congrArg Place.word e_;simp only[mkP] at e1_ e2_ e3_;omega
     have hM:=zkP (l:=l) hr hne;refine ⟨⟨m+1,A,B,a4⟩,⟨rfl,?_,Y,trivial⟩,?_,⟨(T.t H),F.take 1,?_,?_,?_⟩,?_⟩
     ·exact zfa (by rw[hM])
     ·exact zaR
     ·refine OSl.to (C.up H) ?_;simp[hM]
     ·first|omega|(simp;omega)
     ·rw[hM];assumption
     show c.readings.length-((m+1))<c.readings.length-m;omega
    cases c2
   refine Z Y<|U zai Y zP<|Z Y<|U zal Y zG<|Z Y<|M 2 F.sub a0 zO Y<|Z Y<|za Y<|Z Y<|zao Y<|zh Y<|zb ?_;refine zS Y (fun h1=>?_) (fun h1=>?_)
   ·refine zhq<|zcV<|zgg<|zz<|zag<|za Y<|zy Y zaS<|zc Y<|zb ?_;have hne:¬ r.at_=mkP k.toNat n.toNat w_:=by intro e_;have e1_:=congrArg Place.chapter e_;have e2_:=congrArg Place.line e_;have e3_:=congrArg Place.word e_;simp only[mkP] at e1_ e2_ e3_;omega
    have hM:=zkP (l:=l) hr hne;refine ⟨⟨m+1,A,B,a4⟩,⟨rfl,?_,Y,trivial⟩,?_,⟨(T.t H),F.take 1,?_,?_,?_⟩,?_⟩
    ·exact zfa (by rw[hM])
    ·exact zaR
    ·refine OSl.to (C.up H) ?_;simp[hM]
    ·first|omega|(simp;omega)
    ·rw[hM];assumption
    show c.readings.length-((m+1))<c.readings.length-m;omega
   refine zdF<|zx<|U zai Y zbn<|M 3 F.sub a0 zbO Y<|zeb Y Y Y<|zb ?_;refine zS Y (fun b4=>?_) (fun b4=>?_)
   ·refine zag<|zq A Y<|U zai Y zaj<|M 4 F.sub a0 zaK Y<|zA zcn [(r.word)] [zae (r.word)] F (Enc.cons (L:=zcn) (vs:=[zae (r.word)]) (x:=(r.word)) (h:=a4) (⟨rfl,zbq⟩) Enc.nil) Y zC Tryz.info9 zbL<|fun m4 m5 h2 b2 f122 d1=>?_;refine zaO (k:=0) (nb:=16) d1 (C.up (H.t b2)) rfl f122 rfl rfl rfl zC Tryz.info9 rfl rfl rfl (by decide) rfl (by have q_:=zhh (c:=c) (k:=k.toNat) (n:=n.toNat) (l:=l) w_;have q2_:(c.readings.length+1)*w_≤21*w_:=Nat.mul_le_mul_right _ zU;have q3_:=zfL (c:=c) (k:=k.toNat) (n:=n.toNat) (l:=l) (w:=w_) c.readings.length;have q4_:=zfL (c:=c) (k:=k.toNat) (n:=n.toNat) (l:=l) (w:=w_) m;simp only[List.length_append,List.length_cons,List.length_nil];omega) (by have q_:=zhh (c:=c) (k:=k.toNat) (n:=n.toNat) (l:=l) w_;have q2_:(c.readings.length+1)*w_≤21*w_:=Nat.mul_le_mul_right _ zU;have q3_:=zfL (c:=c) (k:=k.toNat) (n:=n.toNat) (l:=l) (w:=w_) c.readings.length;have q4_:=zfL (c:=c) (k:=k.toNat) (n:=n.toNat) (l:=l) (w:=w_) m;simp only[List.length_append,List.length_cons,List.length_nil];omega) ?_;intro c3 h4 m6 _ h5 f130 d2;subst h5;refine zH c3 Y<|zB<|zaF<|za Y<|zy Y zaS<|zc Y<|zb ?_;have e1_:r.at_.chapter=(k.toNat:Int):=by omega
    have e2_:r.at_.line=(n.toNat:Int):=by omega
    have e3_:r.at_.word=(w_:Int):=by omega
    have heq:r.at_=mkP k.toNat n.toNat w_:=by show r.at_=⟨_,_,_⟩;rw[← e1_,← e2_,← e3_]
    have hM:(zhM c k.toNat n.toNat l w_ (m+1))=((zhM c k.toNat n.toNat l w_ m).1++[r.word],(zhM c k.toNat n.toNat l w_ m).2):=by rw[zpz hr heq,zld,if_pos (by simpa using b4)]
    refine ⟨⟨m+1,c3,h4,h2⟩,⟨rfl,?_,Y,trivial⟩,?_,⟨((T.t H).t b2),d2.take 1,?_,?_,?_⟩,?_⟩
    ·exact zfa (by rw[hM])
    ·exact zaR
    ·refine OSl.to f130 ?_;simp[hM]
    ·first|omega|(simp;omega)
    ·rw[hM];assumption
    show c.readings.length-((m+1))<c.readings.length-m;omega
   refine zag<|U zai Y zaj<|M 4 F.sub a0 zaK Y<|zff Y Y<|zB<|zaF<|za Y<|zy Y zaS<|zc Y<|zb ?_;have e1_:r.at_.chapter=(k.toNat:Int):=by omega
   have e2_:r.at_.line=(n.toNat:Int):=by omega
   have e3_:r.at_.word=(w_:Int):=by omega
   have heq:r.at_=mkP k.toNat n.toNat w_:=by show r.at_=⟨_,_,_⟩;rw[← e1_,← e2_,← e3_]
   have hM:(zhM c k.toNat n.toNat l w_ (m+1))=((zhM c k.toNat n.toNat l w_ m).1,r.word):=by rw[zpz hr heq,zld,if_neg (by simpa using b4)]
   refine ⟨⟨m+1,A,B,a4⟩,⟨rfl,?_,Y,trivial⟩,?_,⟨(T.t H),F.take 1,?_,?_,?_⟩,?_⟩
   ·exact zfa (by rw[hM])
   ·exact zaR
   ·refine OSl.to (C.up H) ?_;simp[hM]
   ·first|omega|(simp;omega)
   ·rw[hM];assumption
   show c.readings.length-((m+1))<c.readings.length-m;omega
  refine zcC<|zz<|zx<|zdc Y Y<|zQ Y (zkz Y Y)<|zb ?_;refine zS Y (fun b5=>?_) (fun b5=>?_)
  ·refine zag<|zq A Y<|zdc Y Y<|zA zcn [(zhM c k.toNat n.toNat l w_ m).2] [zae (zhM c k.toNat n.toNat l w_ m).2] a3 (Enc.cons (L:=zcn) (vs:=[zae (zhM c k.toNat n.toNat l w_ m).2]) (x:=(zhM c k.toNat n.toNat l w_ m).2) (h:=b0) (⟨rfl,zbq⟩) Enc.nil) Y zC Tryz.info9 zbL<|fun m7 m8 h6 b3 f135 d3=>?_;refine zaO (k:=0) (nb:=16) d3 (C.up b3) rfl f135 rfl rfl rfl zC Tryz.info9 rfl rfl rfl (by decide) rfl (by have q_:=zhh (c:=c) (k:=k.toNat) (n:=n.toNat) (l:=l) w_;have q2_:(c.readings.length+1)*w_≤21*w_:=Nat.mul_le_mul_right _ zU;have q3_:=zfL (c:=c) (k:=k.toNat) (n:=n.toNat) (l:=l) (w:=w_) c.readings.length;have q4_:=zfL (c:=c) (k:=k.toNat) (n:=n.toNat) (l:=l) (w:=w_) m;simp only[List.length_append,List.length_cons,List.length_nil];omega) (by have q_:=zhh (c:=c) (k:=k.toNat) (n:=n.toNat) (l:=l) w_;have q2_:(c.readings.length+1)*w_≤21*w_:=Nat.mul_le_mul_right _ zU;have q3_:=zfL (c:=c) (k:=k.toNat) (n:=n.toNat) (l:=l) (w:=w_) c.readings.length;have q4_:=zfL (c:=c) (k:=k.toNat) (n:=n.toNat) (l:=l) (w:=w_) m;simp only[List.length_append,List.length_cons,List.length_nil];omega) ?_;intro c4 h7 m9 _ h8 f143 d4;subst h8;refine zH c4 Y<|zB<|zaF<|za Y<|zy Y zaS<|zc Y<|zb ?_;obtain rfl:m=c.readings.length:=by omega
   refine ⟨⟨w_+1,c4,h7,h6⟩,⟨rfl,Y,trivial⟩,?_,⟨((I.t T).t b3),d4,?_,?_⟩,?_⟩
   ·exact zaR
   ·refine OSl.to f143 ?_;rw[zkq,← zpy,zsK,if_neg (by simpa using b5),← List.append_assoc]
   ·first|omega|(simp;omega)
   show l.length+1-((w_+1))<l.length+1-w_;omega
  refine zbj<|zaF<|za Y<|zy Y zaS<|zc Y<|zb ?_;obtain rfl:m=c.readings.length:=by omega
  refine ⟨⟨w_+1,A,B,b0⟩,⟨rfl,Y,trivial⟩,?_,⟨(I.t T),a3,?_,?_⟩,?_⟩
  ·exact zaR
  ·refine OSl.to C ?_;rw[zkq,← zpy,zsK,if_pos (by simpa using b5),List.append_nil]
  ·first|omega|(simp;omega)
  show l.length+1-((w_+1))<l.length+1-w_;omega
 refine zcC<|zz<|zx<|zq A Y<|zH A Y<|zj<|zk Tryz.results166 ?_;obtain ⟨j0,k2,f147,d5⟩:=OSl.freeze (k:=0) a8 C rfl (by have q_:=zhh (c:=c) (k:=k.toNat) (n:=n.toNat) (l:=l) w_;have q2_:(c.readings.length+1)*w_≤21*w_:=Nat.mul_le_mul_right _ zU;omega);refine ⟨j0,_,Y,d5.done,?_⟩;refine ⟨_,Y,Sl.to f147 ?_⟩;rw[hwl,zvP,show w_=l.length+1 by omega]
set_option maxHeartbeats 4000000 in
theorem zpk (hs:Sub h w) {t:Text} (t_f0:Sl zax h t_v0 t.chapters) (c_f0:Sl zdS h c_v0 c.readings) (ht:zbF t=true):Calls Tryz.prog 110 #[.agg #[t_v0],.agg #[iV c.id,c_v0]] w (zbe h w (fun _ _ res_=>res_=.bool ((zjm t c)))):=by
 refine zl 97 Tryz.func110 Y<|have h1:=zbM hs;have e5:=t_f0.le;have e6:=c_f0.le;zx<|ze [t_v0] h1 Y<|fun b1 w2 h3 h2 c2 h4=>ze [iV (c.id),c_v0] h4 Y<|fun b7 w8 h9 a5 B a6=>zd Y<|zb<|zat<|U zbt Y zG<|M 0 a6.sub B zO Y<|zn a6 Y zgo (zcE a6.sub _ _ _)<|fun l3 l4 c3 C a0 h5=>?_;subst h5;refine zcq Y Y<|zt Y ?_;refine zbp (d:=13) Y (fun c5=>?_) (fun c5=>?_)
 ·refine zaf 4 Y<|zi Y<|zb ?_;refine zap Y (fun e9=>?_) (fun e9=>?_)
  ·refine zx<|zd Y<|zj<|zJ<|zk zhn ?_;refine ⟨c3,_,Y,a0.done,?_⟩;refine zM ?_;exact (zkb (fun q=>by have q_:=c5;simp[q.1] at q_)).symm
  cases e9
 refine Z Y<|U zbt Y zcQ<|Z Y<|M 1 a0.sub (B.up C) zdh Y<|Z Y<|have g0:=(h2.t a5).t C;zK (c_f0.up g0) zbf Y<|Z Y<|zfe Y Y Y<|zh Y<|zb ?_;refine zS Y (fun c6=>?_) (fun c6=>?_)
 ·refine zx<|zd Y<|zj<|zJ<|zk zhn ?_;refine ⟨c3,_,Y,a0.done,?_⟩;refine zM ?_;exact (zkb (fun q=>by have q_:=c6;omega)).symm
 refine zaN<|zaH ?_;have hid:inB c.id 0 9999=true∧c.readings.length≤20:=⟨by simpa using c5,by have q_:=c6;omega⟩;refine zag<|zc Y<|zb<|zT ?_;refine zaM ([4,5,6]++zcp 19 52) (G:=Nat×Heap) (fun ⟨i,T⟩=>[(5,iV (i:Int))]) (fun ⟨i,T⟩ w'=>Le c3 T∧St h w T w' []∧(i≤c.readings.length)∧(∀ j,j<i→zjz t c j=true)) (fun ⟨i,T⟩=>c.readings.length-i) ⟨0,c3⟩ ⟨rfl,trivial⟩ ⟨Le.refl _,a0,zbm,(by intro j hj;omega)⟩ ?_;rintro ⟨i,T⟩ _ l5 ⟨A,Q,hi,hA⟩;refine zat<|za Y<|U zbt Y zcQ<|M 1 Q.sub (B.up (C.t A)) zdh Y<|have c4:=g0.t A;zK (c_f0.up c4) zbf Y<|zN Y<|zb ?_;refine zS Y (fun h6=>?_) (fun h6=>?_)
 ·refine zaN<|zT<|zx<|U zbt Y zcQ<|M 1 Q.sub (B.up (C.t A)) zdh Y<|za Y ?_;obtain ⟨r,hr⟩:∃ y_,(c.readings)[i]?=some y_:=zch zU;obtain ⟨l6,l7,_,d0,d1,hr_r⟩:=Sl.elem (c_f0.up c4) hr;obtain ⟨rfl,k3,d2⟩:=hr_r;simp only[big] at d2;refine zL d0 zbf zby Y<|zg Q.sub d1 zfc zby Y<|zad Q zet Y Y<|fun l8 l9 d3=>zo 0 d3 Y zby<|fun m0 d4=>?_;obtain ⟨m1,I,d5,a1⟩:=d4.freeze (k:=0) rfl;have a7:=zay.of d5;refine zb<|zat<|have h7:=((a5.t C).t A).t I;zg a1.sub (c2.up h7) zaG zab Y<|zg a1.sub a7 zfc zby Y ?_;have g1:=c4.t I;refine zaD a1 rfl rfl rfl Tryz.call164 rfl (zng a1.sub (t:=t) (t_f0.up g1) (r:=r) zdb zbq (by exact ht)) ?_;intro m2 m3 g2 F L h8;subst h8;refine zcq Y Y<|zb ?_;refine zap Y (fun c7=>?_) (fun c7=>?_)
  ·refine zx<|zd Y<|zj<|zJ<|zan<|zJ<|zan<|zk zhn ?_;refine ⟨g2,_,Y,L.done,?_⟩;refine zM ?_;have q_:zfo t r=false:=by simpa using c7
   exact (zcA hr (by rw[q_];rfl)).symm
  refine zaN ?_;have hQ:zfo t r=true:=by simpa using c7
  refine zbZ Tryz.mixed zbL (Cls g2 _) (Cls.drew L)<|zcW Y Y<|zBV Y Y Y<|zdl Y Y ?_;refine zeI (d:=37) Y (fun j0=>?_) (fun j0=>?_)
  ·refine zf Y<|zD zai Y zP<|zf Y<|zp Y (fun _ hC=>(zfI (j:=0) hC.sub (a7.up F) (us:=[iV (r.at_.chapter),iV (r.at_.line),iV (r.at_.word)]) Y Y zaE zP Y Y))<|zf Y<|zD zbt Y zcQ<|zf Y<|have c8:=((C.t A).t I).t F;zp Y (fun _ hC=>(zX (j:=1) hC.sub (B.up c8) Y Y Y zdh))<|zf Y<|zcW Y Y<|zf Y<|zkV Y Y zaS Y<|zf Y ?_;obtain ⟨q,hq⟩:∃ y_,(c.readings)[(i-1)]?=some y_:=zch zU;have j1:=g1.t F;obtain ⟨m4,m5,_,a8,a9,hr_q⟩:=Sl.elem (c_f0.up j1) hq;obtain ⟨rfl,k4,d6⟩:=hr_q;simp only[big] at d6;refine zbU rfl rfl (fun _ _=>(zbz a8 rfl rfl (hk:=(show _=(((i-1):Nat):Int) by omega)) (hu:=zbf) (hz:=zby))) ?_;refine zf Y<|zD zai Y zP<|zf Y<|zp Y (fun _ hC=>(zfI (j:=0) hC.sub a9 (us:=[iV (q.at_.chapter),iV (q.at_.line),iV (q.at_.word)]) Y Y zaE zP Y Y))<|zf Y<|zcl Y Y (fun _=>zbJ Y Tryz.call165 Y) (fun _ hC=>zbe.quiet hC (zic hC.sub (a:=r.at_) (b:=q.at_)))<|zf Y<|zdl Y Y ?_;refine zfd (d:=48) Y (fun j2=>?_) (fun j2=>?_)
   ·refine zbT 20 Y<|zf Y<|zaw Y<|zaw Y<|zbl ?_;rintro m6 ⟨j3,j4⟩;have d7:=L.call0 j4;refine zz ?_;refine zap Y (fun g3=>?_) (fun g3=>?_)
    ·refine zx<|zd Y<|zj<|zan<|zJ<|zan<|zk zhn ?_;refine ⟨j3,_,Y,d7.done,?_⟩;refine zM ?_;exact (zcA hr (by rw[zds zU hq,zpI];simp_all)).symm
    cases g3
   refine zf Y<|zD zai Y zP<|zf Y<|zp Y (fun _ hC=>(zfI (j:=0) hC.sub (a7.up F) (us:=[iV (r.at_.chapter),iV (r.at_.line),iV (r.at_.word)]) Y Y zaE zP Y Y))<|zf Y<|zD zbt Y zcQ<|zf Y<|zp Y (fun _ hC=>(zX (j:=1) hC.sub (B.up c8) Y Y Y zdh))<|zf Y<|zcW Y Y<|zf Y<|zkV Y Y zaS Y<|zf Y ?_;refine zbU rfl rfl (fun _ _=>(zbz a8 rfl rfl (hk:=(show _=(((i-1):Nat):Int) by omega)) (hu:=zbf) (hz:=zby))) ?_;refine zf Y<|zD zai Y zP<|zf Y<|zp Y (fun _ hC=>(zfI (j:=0) hC.sub a9 (us:=[iV (q.at_.chapter),iV (q.at_.line),iV (q.at_.word)]) Y Y zaE zP Y Y))<|zf Y<|zp Y (fun _ _=>(zgK Y Y zeX (Tryz.eq_Place r.at_ q.at_)))<|zf Y<|zdl Y Y ?_;refine zeI (d:=59) Y (fun j5=>?_) (fun j5=>?_)
   ·refine zf Y<|zD zbt Y zcQ<|zf Y<|zp Y (fun _ hC=>(zX (j:=1) hC.sub (B.up c8) Y Y Y zdh))<|zf Y<|zcW Y Y<|zf Y<|zkV Y Y zaS Y<|zf Y ?_;refine zbU rfl rfl (fun _ _=>(zbz a8 rfl rfl (hk:=(show _=(((i-1):Nat):Int) by omega)) (hu:=zbf) (hz:=zby))) ?_;refine zf Y<|zD zai Y zbn<|zf Y<|zp Y (fun _ hC=>(zX (j:=3) hC.sub a9 Y Y Y zbO))<|zf Y<|zDo Y Y Y<|zf Y<|zaw Y<|zf Y<|zZ Y<|zaw Y<|zbl ?_;rintro m7 ⟨g4,g5⟩;have b5:=L.call0 g5;refine zz ?_;refine zS Y (fun j6=>?_) (fun j6=>?_)
    ·refine zx<|zd Y<|zj<|zan<|zJ<|zan<|zk zhn ?_;refine ⟨g4,_,Y,b5.done,?_⟩;refine zM ?_;exact (zcA hr (by rw[zds zU hq,zpI];simp_all)).symm
    refine zbj<|zaF<|za Y<|zy Y zaS<|zc Y<|zb ?_;have j7:=((A.t I).t F).trans g5.le;refine ⟨⟨i+1,g4⟩,⟨rfl,trivial⟩,?_,⟨j7,b5.take 0,?_,?_⟩,?_⟩
    ·exact zaR
    ·first|omega|(simp;omega)
    ·intro j hj
     rcases Nat.lt_or_eq_of_le (Nat.le_of_lt_succ hj) with h_|h_
     ·exact hA j h_
     ·rw[h_,zhH hr,hQ,Bool.true_and]
      first|(rw[show i=0 by omega];rfl)|(rw[zds zU hq,zpI];simp_all)
    show c.readings.length-((i+1))<c.readings.length-i;omega
   refine zbT 8 Y<|zf Y<|zZ Y<|zf Y<|zZ Y<|zaw Y<|zbl ?_;rintro m8 ⟨j8,g6⟩;have d8:=L.call0 g6;refine zz ?_;refine zap Y (fun g7=>?_) (fun g7=>?_)
   ·cases g7
   refine zbj<|zaF<|za Y<|zy Y zaS<|zc Y<|zb ?_;have j9:=((A.t I).t F).trans g6.le;refine ⟨⟨i+1,j8⟩,⟨rfl,trivial⟩,?_,⟨j9,d8.take 0,?_,?_⟩,?_⟩
   ·exact zaR
   ·first|omega|(simp;omega)
   ·intro j hj
    rcases Nat.lt_or_eq_of_le (Nat.le_of_lt_succ hj) with h_|h_
    ·exact hA j h_
    ·rw[h_,zhH hr,hQ,Bool.true_and]
     first|(rw[show i=0 by omega];rfl)|(rw[zds zU hq,zpI];simp_all)
   show c.readings.length-((i+1))<c.readings.length-i;omega
  refine zbT 30 Y ?_;refine zbT 2 Y<|zZ Y<|zbl ?_;rintro m9 ⟨k0,g8⟩;have d9:=L.call0 g8;refine zz ?_;refine zap Y (fun g9=>?_) (fun g9=>?_)
  ·cases g9
  refine zbj<|zaF<|za Y<|zy Y zaS<|zc Y<|zb ?_;have k1:=((A.t I).t F).trans g8.le;refine ⟨⟨i+1,k0⟩,⟨rfl,trivial⟩,?_,⟨k1,d9.take 0,?_,?_⟩,?_⟩
  ·exact zaR
  ·first|omega|(simp;omega)
  ·intro j hj
   rcases Nat.lt_or_eq_of_le (Nat.le_of_lt_succ hj) with h_|h_
   ·exact hA j h_
   ·rw[h_,zhH hr,hQ,Bool.true_and]
    first|(rw[show i=0 by omega];rfl)|(rw[zds zU hq,zpI];simp_all)
  show c.readings.length-((i+1))<c.readings.length-i;omega
 refine zcC<|zz<|zat<|zc Y<|zb<|zT ?_;refine zaM ([4,7,8]++zcp 71 26) (G:=Nat×Heap) (fun ⟨k,S⟩=>[(7,iV (k:Int))]) (fun ⟨k,S⟩ w'=>Le T S∧St h w S w' []∧(k≤t.chapters.length)∧(∀ k_ n_:Nat,k_<k→n_<(zbY t k_).length→inB (zvP c k_ n_ (zfA t k_ n_)).length 1 10=true)) (fun ⟨k,S⟩=>t.chapters.length-k) ⟨0,T⟩ ⟨rfl,trivial⟩ ⟨Le.refl _,Q,zbm,(by intro k_ n_ hk_;omega)⟩ ?_;rintro ⟨k,S⟩ _ o0 ⟨a2,b0,hk,hB⟩;refine zat<|za Y<|U zaI Y zbi<|have c9:=((a5.t C).t A).t a2;M 0 b0.sub (c2.up c9) zbI Y<|have h0:=c4.t a2;zK (t_f0.up h0) zav Y<|zN Y<|zb ?_;refine zS Y (fun k2=>?_) (fun k2=>?_)
 ·refine zaN<|zT<|zx<|zc Y<|zb<|zT ?_;refine zaM ([4,8]++zcp 78 19) (G:=Nat×Heap) (fun ⟨n,b4⟩=>[(8,iV (n:Int))]) (fun ⟨n,b4⟩ w'=>Le S b4∧St h w b4 w' []∧(n≤(zbY t k).length)∧(∀ n_:Nat,n_<n→inB (zvP c k n_ (zfA t k n_)).length 1 10=true)) (fun ⟨n,b4⟩=>(zbY t k).length-n) ⟨0,S⟩ ⟨rfl,trivial⟩ ⟨Le.refl _,b0,zbm,(by intro n_ hn_;omega)⟩ ?_;rintro ⟨n,b4⟩ _ o1 ⟨P,H,hn,hC⟩;refine zat<|za Y<|U zaI Y zbi<|M 0 H.sub (c2.up (c9.t P)) zbI Y<|za Y ?_;obtain ⟨x,hx⟩:∃ y_,(t.chapters)[k]?=some y_:=zch zU;have b2:=h0.t P;obtain ⟨o2,k5,_,b8,b9,hr_x⟩:=Sl.elem (t_f0.up b2) hx;obtain ⟨k6,rfl,f105⟩:=hr_x;have e7:=f105.le;refine zL b8 zav zbb Y ?_;have hla:zbY t k=x.lines:=by rw[zbY,hx];rfl
  refine U zaz Y zbu<|M 1 H.sub b9 zbS Y<|zK f105 zaJ Y<|zN Y<|zb ?_;refine zS Y (fun e0=>?_) (fun e0=>?_)
  ·refine zaN<|zT<|zx<|zg H.sub (c2.up (c9.t P)) zaG zab Y<|have e1:=((C.t A).t a2).t P;zg H.sub (B.up e1) zgG zdP Y<|za Y<|za Y ?_;refine zaD H rfl rfl rfl Tryz.call166 rfl (zph H.sub (t:=t) (t_f0.up b2) (c:=c) (c_f0.up b2) _ _ (by exact ht) (by exact hid.2) zU (by simp;omega) zU (by simp only[Int.toNat_natCast];rw[hla];omega)) ?_;intro k7 k8 k9 c0 a3 e2;obtain ⟨l0,e3,f115⟩:=e2;rw[← e3] at f115;have e8:=f115.le;refine zK f115 zC Y<|zn a3 Y zgo (zcE a3.sub _ _ _)<|fun l1 l2 b6 c1 a4 e4=>?_;subst e4;refine zcq Y Y<|zb ?_;refine zap Y (fun b3=>?_) (fun b3=>?_)
   ·refine zx<|zd Y<|zj<|zan<|zJ<|zeJ<|zan<|zJ<|zan<|zk zhn ?_;refine ⟨b6,_,Y,a4.done,?_⟩;refine zM ?_;have hl_:x.lines[n]?=some (zfA t k n):=by rw[zfA,hla,List.getElem?_eq_getElem zU];rfl
    exact (zyY hx hl_ (fun i_ hi_=>hA i_ zU) (by simpa using b3)).symm
   refine zbj<|zaF<|za Y<|zy Y zaS<|zc Y<|zb ?_;refine ⟨⟨n+1,b6⟩,⟨rfl,trivial⟩,?_,⟨((P.t c0).t c1),a4,?_,?_⟩,?_⟩
   ·exact zaR
   ·rw[hla];omega
   ·intro n_ hn_
    rcases Nat.lt_or_eq_of_le (Nat.le_of_lt_succ hn_) with h_|h_
    ·exact hC n_ h_
    ·subst h_;simpa using b3
   show (zbY t k).length-((n+1))<(zbY t k).length-n;rw[hla];omega
  refine zcC<|zaF<|za Y<|zy Y zaS<|zc Y<|zb ?_;refine ⟨⟨k+1,b4⟩,⟨rfl,trivial⟩,?_,⟨(a2.t P),H,?_,?_⟩,?_⟩
  ·exact zaR
  ·first|omega|(simp;omega)
  ·intro k_ n_ hk_ hn_
   rcases Nat.lt_or_eq_of_le (Nat.le_of_lt_succ hk_) with h_|h_
   ·exact hB k_ n_ h_ hn_
   ·subst h_;exact hC n_ (by rw[hla] at hn_;omega)
  show t.chapters.length-((k+1))<t.chapters.length-k;omega
 refine zcC<|zz<|zx<|zd Y<|zj<|zk zhn ?_;refine ⟨S,_,Y,b0.done,?_⟩;refine zM ?_;exact (zAA hid.1 hid.2 (fun j hj=>hA j zU) (fun k_ n_ hk_ hn_=>hB k_ n_ zU hn_)).symm
theorem znH (hs:Sub h w) {t:Text} (t_f0:Sl zax h t_v0 t.chapters) (c_f0:Sl zdS h c_v0 c.readings) (ht:zbF t=true) (hp:zcz t p=true):Calls Tryz.prog 111 #[.agg #[t_v0],.agg #[iV c.id,c_v0],.agg #[iV p.chapter,iV p.line,iV p.word]] w (zbe h w (fun _ _ res_=>res_=zae ((zki t c p)))):=by
 refine zl 35 Tryz.func111 Y<|have b8:=zbM hs;have b2:=t_f0.le;have b3:=c_f0.le;have hpw:=zjj hp;zx<|ze [t_v0] b8 Y<|fun b1 w2 h3 b9 c0 c1=>ze [iV (c.id),c_v0] c1 Y<|fun b7 w8 h9 P Q a2=>ze [iV (p.chapter),iV (p.line),iV (p.word)] a2 Y<|fun c7 c8 b4 F S a3=>zff Y Y<|zb<|zat<|zc Y<|zb<|zT ?_;refine zaM (zcp 6 26) (G:=Nat×Heap) (fun ⟨k,H⟩=>[(7,iV (k:Int))]) (fun ⟨k,H⟩ w'=>Le b4 H∧St h w H w' []∧(k≤c.readings.length)∧(∀ j x,j<k→c.readings[j]?=some x→(decide (x.at_=p) && decide (x.kind≠2))=false)) (fun ⟨k,H⟩=>c.readings.length-k) ⟨0,b4⟩ ⟨rfl,trivial⟩ ⟨Le.refl _,a3,zbm,(by intro j x hj;omega)⟩ ?_;rintro ⟨k,H⟩ _ c9 ⟨A,B,hk,hA⟩;refine zat<|za Y<|U zbt Y zcQ<|M 1 B.sub (Q.up (F.t A)) zdh Y<|have T:=((b9.t P).t F).t A;zK (c_f0.up T) zbf Y<|zN Y<|zb ?_;refine zS Y (fun b5=>?_) (fun b5=>?_)
 ·refine zaN<|zT<|zx<|U zbt Y zcQ<|M 1 B.sub (Q.up (F.t A)) zdh Y<|za Y ?_;obtain ⟨r,hr⟩:∃ y_,(c.readings)[k]?=some y_:=zch zU;obtain ⟨d0,d1,_,a4,a5,hr_r⟩:=Sl.elem (c_f0.up T) hr;obtain ⟨rfl,c5,a6⟩:=hr_r;simp only[big] at a6;refine zL a4 zbf zby Y<|zg B.sub a5 zfc zby Y<|zad B zet Y Y<|fun d2 d3 a7=>zo 0 a7 Y zby<|fun d4 a8=>?_;obtain ⟨a0,I,a9,C⟩:=a8.freeze (k:=0) rfl;have L:=zay.of a9;refine zb<|zx<|U zai Y zP<|zw 0 [iV (r.at_.chapter),iV (r.at_.line),iV (r.at_.word)] C.sub L zaE zP Y<|zg C.sub (S.up (A.t I)) zaE zP Y<|zQ Y (zgK Y Y zeX (Tryz.eq_Place r.at_ p))<|zt Y ?_;refine zaC (d:=25) Y (fun c2=>?_) (fun c2=>?_)
  ·refine Z Y<|U zai Y zbn<|Z Y<|M 3 C.sub L zbO Y<|Z Y<|zao Y<|zi Y<|zb ?_;refine zS Y (fun a1=>?_) (fun a1=>?_)
   ·refine zx<|U zai Y zaj<|M 4 C.sub L zaK Y<|zff Y Y<|zj<|zan<|zJ<|zan<|zk Tryz.results111 ?_;refine ⟨a0,_,Y,C.done,?_⟩;refine zfa ?_;exact (zui hr hA (by first|(simpa using a1)|(simp_all;done))).symm
   refine zbj<|zaF<|za Y<|zy Y zaS<|zc Y<|zb ?_;refine ⟨⟨k+1,a0⟩,⟨rfl,trivial⟩,?_,⟨(A.t I),C.take 0,?_,?_⟩,?_⟩
   ·exact zaR
   ·first|omega|(simp;omega)
   ·intro j x hj hx
    rcases Nat.lt_or_eq_of_le (Nat.le_of_lt_succ hj) with q|q
    ·exact hA j x q hx
    ·subst q;rw[hr] at hx;cases hx;first|(simpa using a1)|(simp_all;done)
   show c.readings.length-((k+1))<c.readings.length-k;omega
  refine zaf 3 Y<|zh Y<|zb ?_;refine zap Y (fun b6=>?_) (fun b6=>?_)
  ·cases b6
  refine zbj<|zaF<|za Y<|zy Y zaS<|zc Y<|zb ?_;refine ⟨⟨k+1,a0⟩,⟨rfl,trivial⟩,?_,⟨(A.t I),C.take 0,?_,?_⟩,?_⟩
  ·exact zaR
  ·first|omega|(simp;omega)
  ·intro j x hj hx
   rcases Nat.lt_or_eq_of_le (Nat.le_of_lt_succ hj) with q|q
   ·exact hA j x q hx
   ·subst q;rw[hr] at hx;cases hx;first|(simpa using b5)|(simp_all;done)
  show c.readings.length-((k+1))<c.readings.length-k;omega
 refine zcC<|zz<|zaH ?_;have hno:=zqY (t:=t) (p:=p) (fun j x hj=>hA j x (by have q_:=(List.getElem?_eq_some_iff.1 hj).1;omega) hj);refine zag<|zg B.sub (c0.up ((P.t F).t A)) zaG zab Y<|zg B.sub (S.up A) zaE zP Y ?_;refine zaD B rfl rfl rfl Tryz.call79 rfl (zfO B.sub (t:=t) (t_f0.up T) (p:=p) zU) ?_;intro d5 d6 c3 c6 b0 c4;subst c4;refine zff Y Y<|zj<|zk Tryz.results111 ?_;refine ⟨c3,_,Y,b0.done,?_⟩;refine zfa ?_;rw[hno]
set_option maxHeartbeats 4000000 in
theorem zkI (hs:Sub h w) {t:Text} (t_f0:Sl zax h t_v0 t.chapters) {l:(List Copy)} (l_f:Sl zeS h l_v l):Calls Tryz.prog 55 #[.agg #[t_v0],l_v] w (zbe h w (fun h' _ res_=>∃ u0,res_=.tuple #[u0,iV ((zem t l))]∧Sl zcZ h' u0 ((zlg t l)))):=by
 refine zl 74 Tryz.func55 Y<|have g0:=zbM hs;have d7:=t_f0.le;have l_f_b:=l_f.le;zx<|ze [t_v0] g0 Y<|fun b1 w2 h3 d8 a4 b6=>zcP Y Y<|zc Y<|zb<|zat<|zg b6.sub a4 zaG zab Y<|zn b6 Y Tryz.call109 (zlp b6.sub (t:=t) (t_f0.up d8))<|fun r7 w8 h9 a0 a1 g1=>?_;subst g1;refine zcq Y Y<|zb ?_;refine zap Y (fun b7=>?_) (fun b7=>?_)
 ·refine zx<|zcP Y Y<|zc Y<|zj<|zJ<|zbs Tryz.results55 ?_;refine ⟨h9,_,Y,a1.done,?_⟩;refine ⟨_,zdz Y (zaB ?_),Sl.to (Sl.nil _ _) ?_⟩
  all_goals have hd:zem t l=10:=by rw[zem,if_neg (by simpa using b7)]
  ·exact hd.symm
  rw[zlg,if_neg (by rw[hd];decide)]
 refine zaN<|zaH ?_;have S:zbF t=true:=by simpa using b7
 have hpl:=zdY S;refine zag<|zq l_v Y<|have d9:=d8.t a0;zK (l_f.up d9) zcv Y<|zfe Y Y Y<|zb ?_;refine zS Y (fun b8=>?_) (fun b8=>?_)
 ·refine zx<|zcP Y Y<|zc Y<|zj<|zJ<|zbs Tryz.results55 ?_;refine ⟨h9,_,Y,a1.done,?_⟩;refine ⟨_,zdz Y (zaB ?_),Sl.to (Sl.nil _ _) ?_⟩
  all_goals have hd:zem t l=4:=by rw[zem,if_pos S,if_neg (by have q_:=b8;omega)]
  ·exact hd.symm
  rw[zlg,if_neg (by rw[hd];decide)]
 refine zaN<|zx<|zc Y<|zb<|zT ?_;refine zaM ([4,5,6]++zcp 18 13) (G:=Nat×Heap) (fun ⟨i,a3⟩=>[(6,iV (i:Int))]) (fun ⟨i,a3⟩ w'=>Le h9 a3∧St h w a3 w' []∧(i≤l.length)∧((l.take i).all (zjm t)=true)) (fun ⟨i,a3⟩=>l.length-i) ⟨0,h9⟩ ⟨rfl,trivial⟩ ⟨Le.refl _,a1,zbm,zbm⟩ ?_;rintro ⟨i,a3⟩ _ h6 ⟨H,I,hi,hA⟩;refine zaH<|zaH ?_;have e0:l.length≤5:=by have q_:=b8;omega
 refine zag<|za Y<|zq l_v Y<|have a5:=d9.t H;zK (l_f.up a5) zcv Y<|zN Y<|zb ?_;refine zS Y (fun g2=>?_) (fun g2=>?_)
 ·refine zaN<|zT<|zaH<|zbZ Tryz.mixed zbL (Cls a3 _) (Cls.drew I)<|zp Y (fun _ hC=>(zW hC.sub (a4.up (a0.t H)) Y zaG zab Y))<|zbc l_v Y<|zcW Y Y ?_;obtain ⟨c,hc⟩:∃ y_,(l)[i]?=some y_:=zch zU;obtain ⟨h7,h8,_,c4,c5,hr_c⟩:=Sl.elem (l_f.up a5) hc;obtain ⟨j0,rfl,f27⟩:=hr_c;have e7:=f27.le;refine zaq c4 zcv zdP Y<|zp Y (fun _ hC=>(zW hC.sub c5 Y zgG zdP Y)) ?_;refine zcl rfl rfl (fun _=>zbJ rfl Tryz.call110 rfl) (fun _ hC=>zbe.quiet hC (zpk hC.sub (t:=t) (t_f0.up a5) (c:=c) f27 (by exact S))) ?_;refine zmc Y Y<|zbl ?_;rintro j1 ⟨e1,e2⟩;have a7:=I.call0 e2;refine zz ?_;refine zap Y (fun b9=>?_) (fun b9=>?_)
  ·refine zx<|zcP Y Y<|zc Y<|zj<|zan<|zJ<|zan<|zbs Tryz.results55 ?_;refine ⟨e1,_,Y,a7.done,?_⟩;refine ⟨_,zdz Y (zaB ?_),Sl.to (Sl.nil _ _) ?_⟩
   all_goals have hd:zem t l=11:=by rw[zem,if_pos S,if_pos e0,if_neg (by rw[zcO hc (by simpa using b9)];decide)]
   ·exact hd.symm
   rw[zlg,if_neg (by rw[hd];decide)]
  refine zbj<|zaF<|za Y<|zy Y zaS<|zc Y<|zb ?_;refine ⟨⟨i+1,e1⟩,⟨rfl,trivial⟩,?_,⟨(H.trans e2.le),a7,?_,?_⟩,?_⟩
  ·exact zaR
  ·first|omega|(simp;omega)
  ·exact zcY hA hc (by simpa using b9)
  show l.length-((i+1))<l.length-i;omega
 refine zcC<|zz<|zx<|zcP Y Y<|zb<|zx<|zg I.sub (a4.up (a0.t H)) zaG zab Y ?_;refine zaD I rfl rfl rfl Tryz.call88 rfl (zjG I.sub (t:=t) (t_f0.up a5) (by exact S)) ?_;intro a6 j2 c0 a8 c6 g3;obtain ⟨j3,g4,f40⟩:=g3;rw[← g4] at f40;have e8:=f40.le;refine zH a6 Y<|zb<|zaH<|zaH ?_;have hda:l.all (zjm t)=true:=zcs hA zU;have hd:zem t l=0:=by rw[zem,if_pos S,if_pos e0,if_pos hda]
 refine zag<|zc Y<|zb<|zT ?_;have c7:=c6.snoc;have f46:=OSl.nil zcZ 68 c0;refine zaM ([7,9,10,11]++zcp 33 40) (G:=Nat×Value×List (Nat×Obj)×Heap) (fun ⟨k,F,T,P⟩=>[(7,F),(9,iV (k:Int))]) (fun ⟨k,F,T,P⟩ w'=>Le c0 P∧St h w P w' [T]∧(OSl zcZ 68 P F (((zbA t).take k).filter (ziU t l)) T)∧(k≤(zbA t).length)) (fun ⟨k,F,T,P⟩=>(zbA t).length-k) ⟨0,(.slice none 0 0),[],c0⟩ ⟨rfl,rfl,trivial⟩ ⟨Le.refl _,c7,(OSl.to f46 (by rfl)),zbm⟩ ?_;rintro ⟨k,F,T,P⟩ _ j4 ⟨B,a9,a2,hk⟩;refine zat<|za Y<|zq a6 Y<|zK (f40.up B) zbo Y<|zN Y<|zb ?_;refine zS Y (fun g5=>?_) (fun g5=>?_)
 ·refine zaN<|zT<|zaH ?_;obtain ⟨p,hp⟩:∃ p,(zbA t)[k]?=some p:=⟨_,List.getElem?_eq_getElem zU⟩;have hpp:=zhU (List.mem_of_getElem? hp);have hpw:=zjj hpp;refine zag<|zd Y<|zb<|zat<|zc Y<|zb<|zT ?_;refine zaM ([10,11]++zcp 39 26) (G:=Nat×Heap) (fun ⟨m,Q⟩=>[(10,.bool ((l.take m).any fun c_=>decide (zki t c_ p≠zbd t p))),(11,iV (m:Int))]) (fun ⟨m,Q⟩ w'=>Le P Q∧St h w Q w' [T]∧(m≤l.length)) (fun ⟨m,Q⟩=>l.length-m) ⟨0,P⟩ ⟨rfl,Y,trivial⟩ ⟨Le.refl _,a9,zbm⟩ ?_;rintro ⟨m,Q⟩ _ j5 ⟨A,C,hm⟩;refine zat<|za Y<|zq l_v Y<|have b5:=((a5.t a8).t B).t A;zK (l_f.up b5) zcv Y<|zN Y<|zb ?_;refine zS Y (fun g6=>?_) (fun g6=>?_)
  ·refine zaN<|zT<|zbZ Tryz.mixed zbL (Cls Q _) (Cls.drew C)<|zdl Y Y<|zdl Y Y ?_;refine zfd (d:=46) Y (fun g7=>?_) (fun g7=>?_)
   ·refine zbT 17 Y<|zaw Y<|zjS Y Y<|zbl ?_;rintro j6 ⟨g8,e3⟩;have c8:=C.call0 e3;refine zaF<|za Y<|zy Y zaS<|zc Y<|zb ?_;refine ⟨⟨m+1,g8⟩,⟨?_,Y,trivial⟩,?_,⟨(A.trans e3.le),c8,?_⟩,?_⟩
    ·exact zM (by first|(rw[zmo c1];simp_all;done)|(obtain ⟨c_,hc_⟩:∃ c_,l[m]?=some c_:=⟨_,List.getElem?_eq_getElem zU⟩;rw[zmo hc_];simp_all;done))
    ·exact zaR
    ·first|omega|(simp;omega)
    show l.length-((m+1))<l.length-m;omega
   refine zf Y<|have e4:=(((a0.t H).t a8).t B).t A;zp Y (fun _ hC=>(zW hC.sub (a4.up e4) Y zaG zab Y))<|zf Y<|zbc l_v Y<|zf Y<|zcW Y Y<|zf Y ?_;obtain ⟨c2,c1⟩:∃ y_,(l)[m]?=some y_:=zch zU;obtain ⟨j7,j8,_,c9,d0,b4⟩:=Sl.elem (l_f.up b5) c1;obtain ⟨j9,rfl,f66⟩:=b4;have e9:=f66.le;refine zaq c9 zcv zdP Y<|zf Y<|zp Y (fun _ hC=>(zW hC.sub d0 Y zgG zdP Y))<|zf Y<|zbc a6 Y<|zf Y<|zcW Y Y<|zf Y ?_;obtain ⟨k0,k1,_,b0,b2,hr_p⟩:=Sl.elem (f40.up (B.t A)) hp;subst hr_p;refine zaq b0 zbo zP Y<|zf Y<|zp Y (fun _ hC=>(zW hC.sub b2 Y zaE zP Y))<|zf Y ?_;refine zcl rfl rfl (fun _=>zbJ rfl Tryz.call111 rfl) (fun _ hC=>zbe.quiet hC (znH hC.sub (t:=t) (t_f0.up b5) (c:=c2) f66 (p:=p) (by exact S) (by exact hpp))) ?_;refine zf Y<|zp Y (fun _ hC=>(zW hC.sub (a4.up e4) Y zaG zab Y))<|zf Y<|zbc a6 Y<|zf Y<|zcW Y Y<|zf Y<|zaq b0 zbo zP Y<|zf Y<|zp Y (fun _ hC=>(zW hC.sub b2 Y zaE zP Y))<|zf Y ?_;refine zcl rfl rfl (fun _=>zbJ rfl Tryz.call79 rfl) (fun _ hC=>zbe.quiet hC (zfO hC.sub (t:=t) (t_f0.up b5) (p:=p) (by exact hpp))) ?_;refine zf Y<|zp Y (fun _ _=>(zkz Y Y))<|zZ Y<|zjS Y Y<|zbl ?_;rintro k2 ⟨g9,e5⟩;have d1:=C.call0 e5;refine zaF<|za Y<|zy Y zaS<|zc Y<|zb ?_;refine ⟨⟨m+1,g9⟩,⟨?_,Y,trivial⟩,?_,⟨(A.trans e5.le),d1,?_⟩,?_⟩
   ·exact zM (by first|(rw[zmo c1];simp_all;done)|(obtain ⟨c_,hc_⟩:∃ c_,l[m]?=some c_:=⟨_,List.getElem?_eq_getElem zU⟩;rw[zmo hc_];simp_all;done))
   ·exact zaR
   ·first|omega|(simp;omega)
   show l.length-((m+1))<l.length-m;omega
  refine zcC<|zz<|zx<|zt Y<|zb ?_;refine zap Y (fun c3=>?_) (fun c3=>?_)
  ·refine zag<|zq F Y<|zq a6 Y<|za Y ?_;obtain ⟨k3,k4,_,d2,d3,hr_p⟩:=Sl.elem (f40.up (B.t A)) hp;subst hr_p;refine zL d2 zbo zP Y<|zg C.sub d3 zaE zP Y<|zA zcZ [p] [iV (p.chapter),iV (p.line),iV (p.word)] C (Enc.cons (L:=zcZ) (vs:=[iV (p.chapter),iV (p.line),iV (p.word)]) (x:=p) (h:=Q) (Y) Enc.nil) Y zbo Tryz.info68 zbL<|fun k5 k6 h0 b3 f82 d4=>?_;refine zaO (k:=0) (nb:=24) d4 (a2.up (A.t b3)) rfl f82 rfl rfl rfl zbo Tryz.info68 rfl rfl rfl (by decide) rfl (by have q_:=List.length_filter_le (ziU t l) ((zbA t).take k);rw[List.length_take] at q_;simp only[List.length_append,List.length_cons,List.length_nil];omega) (by have q_:=List.length_filter_le (ziU t l) ((zbA t).take k);rw[List.length_take] at q_;simp only[List.length_append,List.length_cons,List.length_nil];omega) ?_;intro e6 h1 k7 _ h2 f90 d5;subst h2;refine zH e6 Y<|zB<|zaF<|za Y<|zy Y zaS<|zc Y<|zb ?_;have hdb:ziU t l p=true:=by have q_:=c3;rw[List.take_of_length_le zU] at q_;simpa [ziU] using q_
   refine ⟨⟨k+1,e6,h1,h0⟩,⟨rfl,Y,trivial⟩,?_,⟨((B.t A).t b3),d5,?_,?_⟩,?_⟩
   ·exact zaR
   ·refine OSl.to f90 ?_;rw[zaQ hp,List.filter_append,List.filter_cons,if_pos hdb];rfl
   ·first|omega|(simp;omega)
   show (zbA t).length-((k+1))<(zbA t).length-k;omega
  refine zbj<|zaF<|za Y<|zy Y zaS<|zc Y<|zb ?_;have hdb:ziU t l p=false:=by have q_:=c3;rw[List.take_of_length_le zU] at q_;simpa [ziU] using q_
  refine ⟨⟨k+1,F,T,Q⟩,⟨rfl,Y,trivial⟩,?_,⟨(B.t A),C,?_,?_⟩,?_⟩
  ·exact zaR
  ·refine OSl.to (a2.up A) ?_;rw[zaQ hp,List.filter_append,List.filter_cons,if_neg (by rw[hdb];decide)];simp
  ·first|omega|(simp;omega)
  show (zbA t).length-((k+1))<(zbA t).length-k;omega
 refine zcC<|zz<|zx<|zq F Y<|zH F Y<|zc Y<|zj<|zbs Tryz.results55 ?_;obtain ⟨h4,h5,f94,d6⟩:=OSl.freeze (k:=0) a9 a2 rfl (by have q_:=List.length_filter_le (ziU t l) ((zbA t).take k);rw[List.length_take] at q_;omega);refine ⟨h4,_,Y,d6.done,?_⟩;refine ⟨_,zdz Y (zaB ?_),Sl.to f94 ?_⟩
 ·exact hd.symm
 rw[zlg,if_pos hd,zdf,List.take_of_length_le zU]
theorem zmO (hs:Sub h w) {a:Copy} (a_f0:Sl zdS h a_v0 a.readings) {b:Copy} (b_f0:Sl zdS h b_v0 b.readings):Calls Tryz.prog 59 #[.agg #[iV a.id,a_v0],.agg #[iV b.id,b_v0]] w (zbe h w (fun _ _ res_=>res_=.bool (decide (a=b)))):=by
 refine zl 38 Tryz.func59 Y<|have b5:=zbM hs;have a8:=a_f0.le;have a9:=b_f0.le;zx<|ze [iV (a.id),a_v0] b5 Y<|fun b1 w2 h3 b6 L b8=>ze [iV (b.id),b_v0] b8 Y<|fun b7 w8 h9 B I A=>zd Y<|zb<|zat<|U zbt Y zG<|M 0 A.sub (L.up B) zO Y<|U zbt Y zG<|M 0 A.sub I zO Y<|zao Y<|zt Y ?_;refine zaC (d:=11) Y (fun b9=>?_) (fun b9=>?_)
 ·refine zaf 7 Y<|zi Y<|zb ?_;refine zap Y (fun b0=>?_) (fun b0=>?_)
  ·refine zx<|zd Y<|zj<|zJ<|zk Tryz.results59 ?_;refine ⟨h9,_,Y,A.done,?_⟩;refine zM ?_;have q:a≠b:=by
    rintro rfl;simp_all
   simp[q]
  cases b0
 refine Z Y<|U zbt Y zcQ<|Z Y<|M 1 A.sub (L.up B) zdh Y<|Z Y<|have Q:=b6.t B;zK (a_f0.up Q) zbf Y<|Z Y<|U zbt Y zcQ<|Z Y<|M 1 A.sub I zdh Y<|Z Y<|zK (b_f0.up Q) zbf Y<|Z Y<|zao Y<|zh Y<|zb ?_;refine zS Y (fun c0=>?_) (fun c0=>?_)
 ·refine zx<|zd Y<|zj<|zJ<|zk Tryz.results59 ?_;refine ⟨h9,_,Y,A.done,?_⟩;refine zM ?_;have q:a≠b:=by
   rintro rfl;simp_all
  simp[q]
 refine zaN<|zx<|zc Y<|zb<|zT ?_;refine zaM ([4,5]++zcp 20 18) (G:=Nat×Heap) (fun ⟨k,F⟩=>[(5,iV (k:Int))]) (fun ⟨k,F⟩ w'=>Le h9 F∧St h w F w' []∧(k≤a.readings.length)∧(a.readings.take k=b.readings.take k)) (fun ⟨k,F⟩=>a.readings.length-k) ⟨0,h9⟩ ⟨rfl,trivial⟩ ⟨Le.refl _,A,zbm,zbm⟩ ?_;rintro ⟨k,F⟩ _ c4 ⟨C,H,hk,he⟩;refine zat<|za Y<|U zbt Y zcQ<|M 1 H.sub (L.up (B.t C)) zdh Y<|have S:=Q.t C;zK (a_f0.up S) zbf Y<|zN Y<|zb ?_;refine zS Y (fun c1=>?_) (fun c1=>?_)
 ·refine zaN<|zT<|zaH<|zbZ Tryz.mixed zbL (Cls F _) (Cls.drew H)<|zD zbt Y zcQ<|zp Y (fun _ hC=>(zX (j:=1) hC.sub (L.up (B.t C)) Y Y Y zdh))<|zcW Y Y ?_;obtain ⟨x,hx⟩:∃ y_,(a.readings)[k]?=some y_:=zch zU;obtain ⟨c5,c6,_,a0,a3,hr_x⟩:=Sl.elem (a_f0.up S) hx;obtain ⟨rfl,c2,a4⟩:=hr_x;simp only[big] at a4;refine zaq a0 zbf zby Y<|zp Y (fun _ hC=>(zW hC.sub a3 Y zfc zby Y))<|zD zbt Y zcQ<|zp Y (fun _ hC=>(zX (j:=1) hC.sub (I.up C) Y Y Y zdh))<|zcW Y Y ?_;obtain ⟨y,hy⟩:∃ y_,(b.readings)[k]?=some y_:=zch zU;obtain ⟨c7,c8,_,a5,a6,hr_y⟩:=Sl.elem (b_f0.up S) hy;obtain ⟨rfl,c3,a7⟩:=hr_y;simp only[big] at a7;refine zaq a5 zbf zby Y<|zp Y (fun _ hC=>(zW hC.sub a6 Y zfc zby Y))<|zp Y (fun _ _=>(ziN Y Y Tryz.eqGuardType165 (Tryz.eq_Reading x y)))<|zbl ?_;rintro c9 ⟨b3,b4⟩;have P:=H.call0 b4;refine zz ?_;refine zS Y (fun T=>?_) (fun T=>?_)
  ·refine zx<|zd Y<|zj<|zan<|zJ<|zan<|zk Tryz.results59 ?_;refine ⟨b3,_,Y,P.done,?_⟩;refine zM ?_;have q:a≠b:=fun e=>zfR hx hy (by simpa using T) (by rw[e]);simp[q]
  refine zbj<|zaF<|za Y<|zy Y zaS<|zc Y<|zb ?_;refine ⟨⟨k+1,b3⟩,⟨rfl,trivial⟩,?_,⟨(C.trans b4.le),P,?_,?_⟩,?_⟩
  ·exact zaR
  ·first|omega|(simp;omega)
  ·exact zfp he hx hy (by simpa using T)
  show a.readings.length-((k+1))<a.readings.length-k;omega
 refine zcC<|zz<|zx<|zd Y<|zj<|zk Tryz.results59 ?_;refine ⟨F,_,Y,H.done,?_⟩;refine zM ?_;have q:=zgt he zU zU
 rcases a with ⟨a1,a2⟩;rcases b with ⟨b1,b2⟩
 simp_all
theorem zmN (hs:Sub h w) (c_f0:Sl zdS h c_v0 c.readings) (hsm:c.readings.length≤1000):Calls Tryz.prog 40 #[.agg #[iV c.id,c_v0]] w (zbe h w (fun h' _ res_=>∃ u0,res_=.agg #[iV (c).id,u0]∧Sl zdS h' u0 (c).readings)):=by
 refine zl 10 Tryz.func40 Y<|have c1:=zbM hs;have c0:=c_f0.le;zx<|ze [iV (c.id),c_v0] c1 Y<|fun b1 w2 h3 c2 S c3=>zad c3 Tryz.zeroValue97 Y Y<|fun b7 w8 c4=>zb<|zaH<|zba (er:=([],[],[],[],0)) (dsts:=[3,4,5,6,7,8,9]) c4 Tryz.mixed<|zF (zm zbt Y zG)<|zam (fun Q wD C P F hO _ _=>(zr 0 (P.sub F) S zO Y)) ?_;refine zaT (.res (fun _ res_=>∃ p,res_=.slice p 0 0) (fun _ _ _ _ f=>f)) ?_ ?_
 ·intro Q wD C P F hO;have T:=St.start F;refine zgk T Y ⟨_,zby⟩ zbf<|fun c9 d0 f13 a6=>?_;exact zB ⟨_,_,Y,a6,_,Y,f13⟩
 refine zF (zm zbt Y zcQ)<|zam (fun Q wD C P F hO _ _=>(zr 1 (P.sub F) S zdh Y)) ?_;refine zaT (.res (fun h' res_=>Sl zdS h' res_ c.readings) (fun _ _ _ hl f=>f.up hl)) ?_ ?_
 ·intro Q wD C P F hO gv2_ gf2_ _ _;have a7:=St.start F;have a8:=a7.snoc;have f17:=OSl.nil zdS 165 Q;have f18:=OSl.nil0 zdS 165 Q gf2_;refine zaO (k:=0) (nb:=48) a8 f18 rfl (c_f0.up (c2.trans P)) rfl rfl rfl zbf Tryz.info165 rfl rfl rfl (by decide) rfl (by simp only[List.length_nil,List.nil_append];omega) (by simp only[List.length_nil,List.nil_append];omega) ?_;intro d1 d2 d3 _ c5 f23 a9;subst c5;obtain ⟨d4,c6,f27,b0⟩:=OSl.freeze (k:=0) a9 f23 rfl (by simp only[List.nil_append];omega);exact zB ⟨_,_,Y,b0.done,_,Y,f27⟩
 refine zaT (.res (fun h' res_=>∃ gv6_0,res_=.agg #[iV ((Copy.mk ((c.id)) (c.readings))).id,gv6_0]∧Sl zdS h' gv6_0 ((Copy.mk ((c.id)) (c.readings))).readings) (by rintro _ _ _ hl ⟨gv6_0,e_,gf6_0⟩;exact ⟨gv6_0,e_,gf6_0.up hl⟩)) ?_ ?_
 ·intro Q wD C P F hO _ _ gv5_0 gf5_0;have b2:=St.start F;refine zar rfl rfl (zce (cs:=[iV (c.id),gv5_0]) (by obtain ⟨_,_,rfl⟩:=Sl.form gf5_0;kernel_rfl)) ?_;exact zB ⟨_,_,Y,b2,_,Y,⟨_,Y,gf5_0⟩⟩
 refine zbC<|zck<|fun c7 d5 _ c8 b3 _ _ _ _ a0 a1 _ _ _ _ gv5_0x30 gf5_0x30 a2 A=>?_;obtain ⟨gv6_0x30,rfl,gf6_0x30⟩:=A;refine zbE b3 (k:=0) Y Y Y (zaX Y (zaX gf6_0x30.one zdv)) zdP Y Y Y<|fun d6 b4=>?_;obtain ⟨d7,H,b5,b6⟩:=b4.freeze (k:=0) rfl;have b8:=zay.of b5;refine zB ⟨undef,Y,_,_,H,b6,?_⟩;intro b9 d8 _ I L _ _ _ _ a3 a4 _ _ _ _ gv5_0x46 gf5_0x46 a5 B;obtain ⟨gv6_0x46,rfl,gf6_0x46⟩:=B;refine zbk.fin Y<|zz<|zfS<|zdT Tryz.results40 Y zgG zdP Y L.sub (b8.up I) ?_;refine ⟨b9,_,Y,L.done,?_⟩;refine ⟨_,?_,Sl.to (gf6_0x30.up (H.t I)) ?_⟩
 ·rfl
 simp
theorem zjW (hs:Sub h w) {t:Text} (t_f0:Sl zax h t_v0 t.chapters) {e:Edition} {e_v0:Value} (e_f0:Sl zbw h e_v0 e.stretches):Calls Tryz.prog 45 #[.agg #[t_v0],.agg #[iV e.id,e_v0]] w (zbe h w (fun _ _ res_=>res_=iV ((zcH t e)))):=by
 refine zl 21 Tryz.func45 Y<|have Q:=zbM hs;have L:=t_f0.le;have P:=e_f0.le;zx<|ze [t_v0] Q Y<|fun b1 w2 h3 S T a0=>ze [iV (e.id),e_v0] a0 Y<|fun b7 w8 h9 C H A=>zc Y<|zb<|zx<|zg A.sub (T.up C) zaG zab Y<|zg A.sub H zco zbh Y<|have I:=S.t C;zn A Y Tryz.call82 (zov A.sub (t:=t) (t_f0.up I) (e:=e) (e_f0.up I))<|fun a5 a6 F a4 B a1=>?_;subst a1;refine zdy Y Y<|zR Y<|zR Y<|zR Y<|zc Y<|zc Y<|zc Y<|zb<|zaH<|zaH<|have hcs:=zvh t e;zag<|za Y<|zb<|zT<|zx<|zeb Y Y Y<|zd Y<|zb ?_;refine zS Y (fun a2=>?_) (fun a2=>?_)
 ·refine zx<|zc Y<|zj<|zan<|zk Tryz.results45 ?_;refine ⟨F,_,Y,B.done,?_⟩;refine zaB ?_
  first|exact (hcs.1 (by assumption)).symm|exact (hcs.2.1 (by assumption)).symm|exact (hcs.2.2 (by assumption) (by assumption)).symm|(simp_all;done)
 refine zx<|zeb Y Y Y<|zd Y<|zb ?_;refine zS Y (fun a3=>?_) (fun a3=>?_)
 ·refine zx<|zc Y<|zj<|zan<|zk Tryz.results45 ?_;refine ⟨F,_,Y,B.done,?_⟩;refine zaB ?_
  first|exact (hcs.1 (by assumption)).symm|exact (hcs.2.1 (by assumption)).symm|exact (hcs.2.2 (by assumption) (by assumption)).symm|(simp_all;done)
 refine zbj<|zeT<|zz<|zx<|za Y<|zc Y<|zj<|zk Tryz.results45 ?_;refine ⟨F,_,Y,B.done,?_⟩;refine zaB ?_
 first|exact (hcs.1 (by assumption)).symm|exact (hcs.2.1 (by assumption)).symm|exact (hcs.2.2 (by assumption) (by assumption)).symm|(simp_all;done)
theorem zgU (hs:Sub h w) (r_f0:Sl zax h r_v0 r.text.chapters) (r_f1:Sl zeS h r_v1 r.copies) (r_f2:Sl zcS h r_v2 r.lexicon.rules) (r_f3:Sl zau h r_v3 r.lexicon.decisions) (r_f4:Sl zbw h r_v4 r.edition.stretches) (r_l8:0≤r.cut.side∧r.cut.side≤255):Calls Tryz.prog 16 #[.agg #[r_v0,r_v1,r_v2,r_v3,iV r.edition.id,r_v4,iV r.cut.width,.int .u8 r.cut.side]] w (zbe h w (fun _ _ res_=>res_=iV ((zhT r)))):=by
 refine zl 39 Tryz.func16 Y<|have a8:=zbM hs;have a1:=r_f0.le;have a2:=r_f1.le;have a3:=r_f2.le;have a4:=r_f3.le;have a5:=r_f4.le;zx<|ze [r_v0,r_v1,r_v2,r_v3,iV (r.edition.id),r_v4,iV (r.cut.width),.int .u8 (r.cut.side)] a8 Y<|fun b1 w2 h3 P F Q=>zc Y<|zb<|zat<|U zah Y zab<|zw 0 [r_v0] Q.sub F zaG zab Y<|U zah Y zbv<|zw 2 [r_v2,r_v3] Q.sub F zcG zbv Y<|zn Q Y Tryz.call53 (ziF Q.sub (t:=r.text) (r_f0.up P) (x:=r.lexicon) (r_f2.up P) (r_f3.up P))<|fun r7 w8 h9 A B a9=>?_;subst a9;refine zc Y<|zb<|zx<|za Y<|zao Y<|zb ?_;refine zS Y (fun b0=>?_) (fun b0=>?_)
 ·refine zx<|za Y<|zc Y<|zj<|zJ<|zk Tryz.results16 ?_;refine ⟨h9,_,Y,B.done,?_⟩;refine zaB ?_;simp_all[zhT,orL]
 refine zaN<|zx<|U zah Y zab<|zw 0 [r_v0] B.sub (F.up A) zaG zab Y<|U zah Y zbh<|zw 4 [iV (r.edition.id),r_v4] B.sub (F.up A) zco zbh Y<|have S:=P.t A;zn B Y Tryz.call45 (zjW B.sub (t:=r.text) (r_f0.up S) (e:=r.edition) (r_f4.up S))<|fun c1 c2 b2 H I b3=>?_;subst b3;refine zc Y<|zb<|zx<|za Y<|zao Y<|zb ?_;refine zS Y (fun b4=>?_) (fun b4=>?_)
 ·refine zx<|za Y<|zc Y<|zj<|zJ<|zk Tryz.results16 ?_;refine ⟨b2,_,Y,I.done,?_⟩;refine zaB ?_;simp_all[zhT,orL]
 refine zaN<|zx<|U zah Y zgv<|zw 6 [iV (r.cut.width),.int .u8 (r.cut.side)] I.sub (F.up (A.t H)) Tryz.isAgg34 zgv Y<|zn I Y Tryz.call54 (zos I.sub (c:=r.cut) zdb)<|fun c3 c4 b5 L C b6=>?_;subst b6;refine zc Y<|zb<|zx<|za Y<|zao Y<|zb ?_;refine zS Y (fun b7=>?_) (fun b7=>?_)
 ·refine zx<|za Y<|zc Y<|zj<|zJ<|zk Tryz.results16 ?_;refine ⟨b5,_,Y,C.done,?_⟩;refine zaB ?_;simp_all[zhT,orL]
 refine zdF<|zx<|U zah Y zab<|zw 0 [r_v0] C.sub (F.up ((A.t H).t L)) zaG zab Y<|U zah Y zel<|M 1 C.sub (F.up ((A.t H).t L)) zeF Y<|have T:=(S.t H).t L;zn C Y Tryz.call55 (zkI C.sub (t:=r.text) (r_f0.up T) (r_f1.up T))<|fun c5 c6 b8 c0 a0 b9=>?_;obtain ⟨a6,rfl,f37⟩:=b9;have a7:=f37.le;refine zdy Y Y<|zaL a6 Y<|zR Y<|zH a6 Y<|zc Y<|zb<|zx<|za Y<|zc Y<|zj<|zk Tryz.results16 ?_;refine ⟨b8,_,Y,a0.done,?_⟩;refine zaB ?_;simp_all[zhT,orL]
theorem zqd (hs:Sub h w) (r_f0:Sl zax h r_v0 r.text.chapters) (r_f1:Sl zeS h r_v1 r.copies) (r_f2:Sl zcS h r_v2 r.lexicon.rules) (r_f3:Sl zau h r_v3 r.lexicon.decisions) (r_f4:Sl zbw h r_v4 r.edition.stretches) (r_l8:0≤r.cut.side∧r.cut.side≤255) {l:(List Place)} (l_f:Sl zcZ h l_v l):Calls Tryz.prog 80 #[.agg #[r_v0,r_v1,r_v2,r_v3,iV r.edition.id,r_v4,iV r.cut.width,.int .u8 r.cut.side],l_v,.agg #[iV p.chapter,iV p.line,iV p.word]] w (zbe h w (fun _ _ res_=>res_=.agg #[iV ((zhr r l p)).at_.chapter,iV ((zhr r l p)).at_.line,iV ((zhr r l p)).at_.word,iV ((zhr r l p)).ref.chapter,iV ((zhr r l p)).ref.line,iV ((zhr r l p)).ref.word,.int .u8 ((zhr r l p)).sure])):=by
 refine zl 35 Tryz.func80 Y<|have c3:=zbM hs;have b3:=r_f0.le;have b4:=r_f1.le;have b5:=r_f2.le;have b6:=r_f3.le;have b8:=r_f4.le;have l_f_b:=l_f.le;zx<|ze [r_v0,r_v1,r_v2,r_v3,iV (r.edition.id),r_v4,iV (r.cut.width),.int .u8 (r.cut.side)] c3 Y<|fun b1 w2 h3 c4 b9 c5=>ze [iV (p.chapter),iV (p.line),iV (p.word)] c5 Y<|fun b7 w8 h9 H I a2=>zad a2 Tryz.zeroValue140 Y Y<|fun c6 d2 L=>zb<|zx<|zg L.sub I zaE zP Y<|zQ Y (zce (cs:=[iV (p.chapter),iV (p.line),iV (p.word),iV 0,iV 0,iV 0,.int .u8 2]) zbL)<|zad L Tryz.zeroValue140 Y Y<|fun c7 d3 a3=>zo 1 a3 Y zex<|fun d4 A=>zb<|zx ?_;refine U zah Y zab<|zw 0 [r_v0] A.sub (b9.up H) zaG zab Y<|U zah Y zbh<|zw 4 [iV (r.edition.id),r_v4] A.sub (b9.up H) zco zbh Y<|zg A.sub I zaE zP Y<|have T:=c4.t H;zn A Y Tryz.call126 (zou A.sub (t:=r.text) (r_f0.up T) (e:=r.edition) (r_f4.up T) (p:=p))<|fun d5 d6 c0 P a4 c8=>?_;subst c8;refine zdy Y Y<|zaL (.agg (List.toArray _)) Y<|zR Y<|U Tryz.underlying140 Y zcK<|zo 1 a4 Y zcK<|fun d7 a5=>zb<|zat<|zc Y<|zb<|zT ?_;refine zaM ([8]++zcp 21 13) (G:=Nat×Int×Heap) (fun ⟨k,sv,F⟩=>[(8,iV (k:Int))]) (fun ⟨k,sv,F⟩ w'=>Le c0 F∧St h w F w' [[(c6,.cells (List.toArray [iV 0,iV 0,iV 0,iV 0,iV 0,iV 0,.int .u8 0]) 140)],[(c7,.cells (List.toArray [iV p.chapter,iV p.line,iV p.word,iV (zfn r.text r.edition p).chapter,iV (zfn r.text r.edition p).line,iV (zfn r.text r.edition p).word,.int .u8 sv]) 140)]]∧(k≤l.length)∧(sv=if p∈l.take k then 1 else 2)) (fun ⟨k,sv,F⟩=>l.length-k) ⟨0,2,c0⟩ ⟨rfl,trivial⟩ ⟨Le.refl _,a5,zbm,(by simp)⟩ ?_;rintro ⟨k,sv,F⟩ _ d8 ⟨B,C,hk,hsv⟩;refine zat<|za Y<|zq l_v Y<|have c1:=(T.t P).t B;zK (l_f.up c1) zbo Y<|zN Y<|zb ?_;refine zS Y (fun c9=>?_) (fun c9=>?_)
 ·refine zaN<|zT<|zaH<|zbZ Tryz.mixed zbL (Cls F _) (Cls.drew C)<|zbc l_v Y<|zcW Y Y ?_;obtain ⟨x,hx⟩:∃ y_,(l)[k]?=some y_:=zch zU;obtain ⟨d9,e0,_,a6,a7,hr_x⟩:=Sl.elem (l_f.up c1) hx;subst hr_x;refine zaq a6 zbo zP Y<|zp Y (fun _ hC=>(zW hC.sub a7 Y zaE zP Y))<|zp Y (fun _ hC=>(zW hC.sub (I.up (P.t B)) Y zaE zP Y))<|zp Y (fun _ _=>(zgK Y Y zeX (Tryz.eq_Place x p)))<|zbl ?_;rintro e1 ⟨c2,a0⟩;have Q:=C.call0 a0;refine zz ?_;refine zS Y (fun a1=>?_) (fun a1=>?_)
  ·refine zag<|U Tryz.underlying140 Y zbn<|zci Q (k:=1) Y Y Y Y zbn Y Y Y<|fun e2 a8=>zB<|zaF<|za Y<|zy Y zaS<|zc Y<|zb ?_;refine ⟨⟨k+1,1,c2⟩,⟨rfl,trivial⟩,?_,⟨(B.trans a0.le),a8,?_,?_⟩,?_⟩
   ·exact zaR
   ·first|omega|(simp;omega)
   ·have q_:x=p:=by simpa using a1
    rw[zaQ hx,q_];simp
   show l.length-((k+1))<l.length-k;omega
  refine zbj<|zaF<|za Y<|zy Y zaS<|zc Y<|zb ?_;refine ⟨⟨k+1,sv,c2⟩,⟨rfl,trivial⟩,?_,⟨(B.trans a0.le),Q,?_,?_⟩,?_⟩
  ·exact zaR
  ·first|omega|(simp;omega)
  ·have q_:¬ p=x:=fun e_=>absurd e_.symm (by simpa using a1);rw[hsv,zaQ hx];simp[q_]
  show l.length-((k+1))<l.length-k;omega
 refine zcC<|zz<|zx<|zcI (C.get (k:=1) Y) Y zij zex Y Y<|zo 0 C Y zex<|fun e3 a9=>?_;obtain ⟨d0,d1,b0,S⟩:=a9.freeze (k:=0) rfl;have b2:=zay.of b0;refine zj<|zdT Tryz.results80 Y zij zex Y S.sub b2 ?_;refine ⟨d0,_,Y,S.done,?_⟩;refine ?_;have hq:zhr r l p=⟨p,zfn r.text r.edition p,sv⟩:=by rw[zhr,hsv,List.take_of_length_le zU]
 simp only[hq];rfl
set_option maxHeartbeats 4000000 in
theorem zib (hs:Sub h w) (r_f0:Sl zax h r_v0 r.text.chapters) (r_f1:Sl zeS h r_v1 r.copies) (r_f2:Sl zcS h r_v2 r.lexicon.rules) (r_f3:Sl zau h r_v3 r.lexicon.decisions) (r_f4:Sl zbw h r_v4 r.edition.stretches) (r_l8:0≤r.cut.side∧r.cut.side≤255) (hx0:zbG r.text r.lexicon=0) (hd0:zem r.text r.copies=0):Calls Tryz.prog 43 #[.agg #[r_v0,r_v1,r_v2,r_v3,iV r.edition.id,r_v4,iV r.cut.width,.int .u8 r.cut.side]] w (zbe h w (fun h' _ res_=>∃ u0,res_=.agg #[u0]∧Sl zfT h' u0 ((Volume.mk (zhW r))).entries)):=by
 refine zl 122 Tryz.func43 Y ?_;have q1:=zbM hs;have o6:=r_f0.le;have o7:=r_f1.le;have o8:=r_f2.le;have o9:=r_f3.le;have p0:=r_f4.le;have q2:=zdk hx0;have hpl:=zdY q2;have hhl:(zfk zdU (zcD r.text r.lexicon)).length≤(zbA r.text).length:=by have q_:=zkp zjD (zcD r.text r.lexicon);rw[zcD,List.length_map] at q_;exact q_
 refine zx<|ze [r_v0,r_v1,r_v2,r_v3,iV (r.edition.id),r_v4,iV (r.cut.width),.int .u8 (r.cut.side)] q1 Y<|fun b1 w2 h3 j3 a5 q3=>zad q3 zey Y Y<|fun b7 w8 q4=>zb<|zx<|zad q4 zey Y Y<|fun j4 v2 a8=>zb<|zx<|U zah Y zab<|zw 0 [r_v0] a8.sub a5 zaG zab Y<|U zah Y zel<|M 1 a8.sub a5 zeF Y ?_;have con:=(zkI a8.sub (t:=r.text) (r_f0.up j3) (r_f1.up j3));rw[zsL hd0,hd0] at con;refine zn a8 Y Tryz.call55 con<|fun v3 v4 v5 a2 a9 q5=>?_;obtain ⟨j5,rfl,f20⟩:=q5;have p2:=f20.le;clear con;refine zdy Y Y<|zaL j5 Y<|zR Y<|zH j5 Y<|zc Y<|zb<|zx<|U zah Y zab<|zw 0 [r_v0] a9.sub (a5.up a2) zaG zab Y<|U zah Y zbv<|zw 2 [r_v2,r_v3] a9.sub (a5.up a2) zcG zbv Y ?_;have a6:=j3.t a2;have con:=(zop a9.sub (t:=r.text) (r_f0.up a6) (x:=r.lexicon) (r_f2.up a6) (r_f3.up a6));rw[show zmB r.text r.lexicon=(zfk zdU (zcD r.text r.lexicon)) from if_pos hx0,hx0] at con;refine zn a9 Y Tryz.call77 con<|fun v6 v7 j6 P j8 q6=>?_;obtain ⟨d3,rfl,f29⟩:=q6;have p3:=f29.le;clear con;refine zdy Y Y<|zaL d3 Y<|zR Y<|zH d3 Y<|zc Y<|zb<|zat<|zc Y<|zb<|zT ?_;have j9:=j8.snoc;have f34:=OSl.nil zfT 55 j6;refine zaM (zcp 8 9++zcp 33 88) (G:=Nat×Value×List (Nat×Obj)×Heap) (fun ⟨i,v_c1_0,o_c1_0,d4⟩=>[(8,iV (i:Int))]) (fun ⟨i,v_c1_0,o_c1_0,d4⟩ w'=>Le j6 d4∧St h w d4 w' [[(b7,.cells (List.toArray [(.slice none 0 0)]) 45)],[(j4,.cells (List.toArray [v_c1_0]) 45)],o_c1_0]∧(OSl zfT 55 d4 v_c1_0 ((((zfk zdU (zcD r.text r.lexicon)).take i).map (zhD r))) o_c1_0)∧(i≤(zfk zdU (zcD r.text r.lexicon)).length)) (fun ⟨i,v_c1_0,o_c1_0,d4⟩=>(zfk zdU (zcD r.text r.lexicon)).length-i) ⟨0,(.slice none 0 0),[],j6⟩ ⟨rfl,trivial⟩ ⟨Le.refl _,j9,(OSl.to f34 (by rfl)),zbm⟩ ?_;rintro ⟨i,v_c1_0,o_c1_0,d4⟩ _ v8 ⟨A,b0,hO_c1_0,hi⟩;refine zat<|za Y<|zq d3 Y<|zK (f29.up A) zak Y<|zN Y<|zb ?_;refine zS Y (fun q7=>?_) (fun q7=>?_)
 ·refine zaN<|zT<|zx<|zq d3 Y<|za Y ?_;obtain ⟨hd,hhd⟩:∃ y_,((zfk zdU (zcD r.text r.lexicon)))[i]?=some y_:=zch zU;obtain ⟨v9,w0,_,c9,d0,hr_hd⟩:=Sl.elem (f29.up A) hhd;obtain ⟨rfl,k0,r2⟩:=hr_hd;simp only[big] at k0;refine zL c9 zak zac Y<|zg b0.sub d0 zbr zac Y<|zQ Y (zce (cs:=[zae (hd.stem),.int .u8 (hd.mark),(.slice none 0 0)]) zbL)<|zad b0 zfJ Y Y<|fun p1 w1 k1=>zo 3 k1 Y zcd<|fun w3 k2=>zb<|zaH<|have h8:=(zvD hx0 (List.mem_of_getElem? hhd)).1;zba (er:=([],[],[],[],0)) (dsts:=[45,46,47,48,49,50,51,52,53,44,54,55,10,11]) k2 Tryz.mixed<|zF (zm zah Y zab)<|zam (fun hD wD C H I hO _ _=>(zaU 0 [r_v0] (H.sub I) (a5.up ((a2.t P).t A)) zaG zab Y))<|zF (zm zah Y zbv)<|zam (fun hD wD C H I hO _ _=>(zaU 2 [r_v2,r_v3] (H.sub I) (a5.up ((a2.t P).t A)) zcG zbv Y))<|zF (zaW d3 Y)<|zF (zeH Y)<|zF (zcB c9 zak zac Y)<|zam (fun hD wD C H I hO _ _=>(zW (H.sub I) d0 Y zbr zac Y)) ?_;refine zaT (.res (fun h' res_=>∃ gv8_0,res_=.tuple #[gv8_0,iV 0]∧Sl zcn h' gv8_0 ((zfk sLt ((zbW r.text r.lexicon hd).map (zbd r.text))))) (by rintro _ _ _ hl ⟨gv8_0,e_,gf8_0⟩;exact ⟨gv8_0,e_,gf8_0.up hl⟩)) ?_ ?_
  ·intro hD wD C H I hO _ _ _ _ _ _;have d5:=St.start I;have con:=(zor d5.sub (t:=r.text) (r_f0.up (((a6.t P).t A).trans H)) (x:=r.lexicon) (r_f2.up (((a6.t P).t A).trans H)) (r_f3.up (((a6.t P).t A).trans H)) (hd:=hd) zbq (by first|assumption|decide|(show _∧_;simp only[zhr];split <;> omega)|omega|(dsimp only;omega)|(simp;omega)));rw[show zny r.text r.lexicon hd=(zfk sLt ((zbW r.text r.lexicon hd).map (zbd r.text))) from if_pos h8,h8] at con;refine zn d5 Y Tryz.call78 con<|fun w4 w5 w6 r3 k3 q8=>?_;obtain ⟨w7,rfl,f56⟩:=q8;have p4:=f56.le;clear con;exact zB ⟨_,_,Y,k3,_,Y,⟨_,Y,f56⟩⟩
  refine zaT (.res (fun h' res_=>∃ gv9_0,res_=.tuple #[gv9_0,iV 0]∧Sl zcn h' gv9_0 (((zfk sLt ((zbW r.text r.lexicon hd).map (zbd r.text)))))) (by rintro _ _ _ hl ⟨gv9_0,e_,gf9_0⟩;exact ⟨gv9_0,e_,gf9_0.up hl⟩)) ?_ ?_
  ·intro hD wD C H I hO gv8_ gf8_;obtain ⟨gv8_0,rfl,gf8_0⟩:=gf8_;have k4:=St.start I;refine zdy Y Y ?_;exact zB ⟨_,_,Y,k4,_,Y,⟨_,Y,gf8_0⟩⟩
  refine zaT (.res (fun h' res_=>Sl zcn h' res_ ((((zfk sLt ((zbW r.text r.lexicon hd).map (zbd r.text))))))) (fun _ _ _ hl f=>f.up hl)) ?_ ?_
  ·intro hD wD C H I hO gv9_ gf9_;obtain ⟨gv9_0,rfl,gf9_0⟩:=gf9_;have k5:=St.start I;refine zaL gv9_0 Y ?_;exact zB ⟨_,_,Y,k5,_,Y,gf9_0⟩
  refine zaT (.det (iV 0)) ?_ ?_
  ·intro hD wD C H I hO gv9_ gf9_;obtain ⟨gv9_0,rfl,gf9_0⟩:=gf9_;have k6:=St.start I;refine zR Y ?_;exact zB ⟨_,_,Y,k6,(),Y,trivial⟩
  refine zaT (.res (fun h' res_=>Sl zcn h' res_ (((((zfk sLt ((zbW r.text r.lexicon hd).map (zbd r.text)))))))) (fun _ _ _ hl f=>f.up hl)) ?_ ?_
  ·intro hD wD C H I hO _ _ _ _ _ _ _ _ _ _ _ _ _ _ _ _ gv8_ gf8_ gv9_ gf9_ gv10_0 gf10_0;obtain ⟨gv8_0,rfl,gf8_0⟩:=gf8_;obtain ⟨gv9_0,rfl,gf9_0⟩:=gf9_;have k7:=St.start I;refine zH gv10_0 Y ?_;exact zB ⟨_,_,Y,k7,_,Y,gf10_0⟩
  refine zF (zns Y)<|zck<|fun r4 w9 _ S k8 _ _ _ _ _ _ _ _ _ _ _ _ _ _ _ _ h9 b2 j0 b3 gv10_0x65 gf10_0x65 _ _ gv12_0x65 gf12_0x65 _ _=>?_;obtain ⟨gv8_0x65,rfl,gf8_0x65⟩:=b2;obtain ⟨gv9_0x65,rfl,gf9_0x65⟩:=b3;refine zbk.fin Y<|zz<|zaH<|have j7:=((a2.t P).t A).t S;zba (er:=([],[],[],[],0)) (dsts:=[57,58,59,60,61,62,63,64,65,56,66,67,12,13]) k8 Tryz.mixed<|zF (zm zah Y zab)<|zam (fun hD wD C H I hO _ _=>(zaU 0 [r_v0] (H.sub I) (a5.up j7) zaG zab Y))<|zF (zm zah Y zbv)<|zam (fun hD wD C H I hO _ _=>(zaU 2 [r_v2,r_v3] (H.sub I) (a5.up j7) zcG zbv Y))<|zF (zaW d3 Y)<|zF (zeH Y)<|zF (zcB c9 zak zac Y)<|zam (fun hD wD C H I hO _ _=>(zW (H.sub I) (d0.up S) Y zbr zac Y)) ?_;refine zaT (.res (fun h' res_=>∃ gv8_0,res_=.tuple #[gv8_0,iV 0]∧Sl zcZ h' gv8_0 ((zbW r.text r.lexicon hd))) (by rintro _ _ _ hl ⟨gv8_0,e_,gf8_0⟩;exact ⟨gv8_0,e_,gf8_0.up hl⟩)) ?_ ?_
  ·intro hD wD C H I hO _ _ _ _ _ _;have d6:=St.start I;have con:=(ziE d6.sub (t:=r.text) (r_f0.up ((((a6.t P).t A).t S).trans H)) (x:=r.lexicon) (r_f2.up ((((a6.t P).t A).t S).trans H)) (r_f3.up ((((a6.t P).t A).t S).trans H)) (hd:=hd) zbq (by first|assumption|decide|(show _∧_;simp only[zhr];split <;> omega)|omega|(dsimp only;omega)|(simp;omega)));rw[show zgQ r.text r.lexicon hd=(zbW r.text r.lexicon hd) from if_pos h8,h8] at con;refine zn d6 Y Tryz.call48 con<|fun x0 x1 x2 r5 k9 q9=>?_;obtain ⟨x3,rfl,f75⟩:=q9;have p5:=f75.le;clear con;exact zB ⟨_,_,Y,k9,_,Y,⟨_,Y,f75⟩⟩
  refine zaT (.res (fun h' res_=>∃ gv9_0,res_=.tuple #[gv9_0,iV 0]∧Sl zcZ h' gv9_0 (((zbW r.text r.lexicon hd)))) (by rintro _ _ _ hl ⟨gv9_0,e_,gf9_0⟩;exact ⟨gv9_0,e_,gf9_0.up hl⟩)) ?_ ?_
  ·intro hD wD C H I hO gv8_ gf8_;obtain ⟨gv8_0,rfl,gf8_0⟩:=gf8_;have l0:=St.start I;refine zdy Y Y ?_;exact zB ⟨_,_,Y,l0,_,Y,⟨_,Y,gf8_0⟩⟩
  refine zaT (.res (fun h' res_=>Sl zcZ h' res_ ((((zbW r.text r.lexicon hd))))) (fun _ _ _ hl f=>f.up hl)) ?_ ?_
  ·intro hD wD C H I hO gv9_ gf9_;obtain ⟨gv9_0,rfl,gf9_0⟩:=gf9_;have l1:=St.start I;refine zaL gv9_0 Y ?_;exact zB ⟨_,_,Y,l1,_,Y,gf9_0⟩
  refine zaT (.det (iV 0)) ?_ ?_
  ·intro hD wD C H I hO gv9_ gf9_;obtain ⟨gv9_0,rfl,gf9_0⟩:=gf9_;have l2:=St.start I;refine zR Y ?_;exact zB ⟨_,_,Y,l2,(),Y,trivial⟩
  refine zaT (.res (fun h' res_=>Sl zcZ h' res_ (((((zbW r.text r.lexicon hd)))))) (fun _ _ _ hl f=>f.up hl)) ?_ ?_
  ·intro hD wD C H I hO _ _ _ _ _ _ _ _ _ _ _ _ _ _ _ _ gv8_ gf8_ gv9_ gf9_ gv10_0 gf10_0;obtain ⟨gv8_0,rfl,gf8_0⟩:=gf8_;obtain ⟨gv9_0,rfl,gf9_0⟩:=gf9_;have l3:=St.start I;refine zH gv10_0 Y ?_;exact zB ⟨_,_,Y,l3,_,Y,gf10_0⟩
  refine zF (zns Y)<|zck<|fun d1 x4 _ T l4 _ _ _ _ _ _ _ _ _ _ _ _ _ _ _ _ j1 b4 j2 b5 gv10_0x84 gf10_0x84 _ _ gv12_0x84 gf12_0x84 _ _=>?_;obtain ⟨gv8_0x84,rfl,gf8_0x84⟩:=b4;obtain ⟨gv9_0x84,rfl,gf9_0x84⟩:=b5;refine zbk.fin Y<|zz<|zaH<|zaH ?_;have hul:(zbW r.text r.lexicon hd).length≤(zbA r.text).length:=List.length_filter_le _ _;have hwl:(zfk sLt ((zbW r.text r.lexicon hd).map (zbd r.text))).length≤(zbA r.text).length:=by have q_:=zkp zpx ((zbW r.text r.lexicon hd).map (zbd r.text));rw[List.length_map] at q_;omega
  refine zag<|zc Y<|zb<|zT ?_;have l5:=l4.snoc;have f89:=OSl.nil zjO 125 d1;refine zaM ([14,15,16]++zcp 68 47) (G:=Nat×Value×List (Nat×Obj)×Heap) (fun ⟨j,v_c3_2,o_c3_2,a7⟩=>[(14,iV (j:Int))]) (fun ⟨j,v_c3_2,o_c3_2,a7⟩ w'=>Le d1 a7∧St h w a7 w' [[(b7,.cells (List.toArray [(.slice none 0 0)]) 45)],[(j4,.cells (List.toArray [v_c1_0]) 45)],o_c1_0,[(p1,.cells (List.toArray [zae (hd.stem),.int .u8 (hd.mark),v_c3_2]) 55)],o_c3_2]∧(OSl zjO 125 a7 v_c3_2 ((((zfk sLt ((zbW r.text r.lexicon hd).map (zbd r.text))).take j).map (zuC r hd))) o_c3_2)∧(j≤(zfk sLt ((zbW r.text r.lexicon hd).map (zbd r.text))).length)) (fun ⟨j,v_c3_2,o_c3_2,a7⟩=>(zfk sLt ((zbW r.text r.lexicon hd).map (zbd r.text))).length-j) ⟨0,(.slice none 0 0),[],d1⟩ ⟨rfl,trivial⟩ ⟨Le.refl _,l5,(OSl.to f89 (by rfl)),zbm⟩ ?_;rintro ⟨j,v_c3_2,o_c3_2,a7⟩ _ x5 ⟨Q,a4,hO_c3_2,hj⟩;refine zat<|za Y<|zq gv12_0x65 Y<|zK (gf12_0x65.up (T.t Q)) zC Y<|zN Y<|zb ?_;refine zS Y (fun r0=>?_) (fun r0=>?_)
  ·refine zaN<|zT<|zx<|zq gv12_0x65 Y<|za Y ?_;obtain ⟨wd,hwd⟩:∃ y_,((((((zfk sLt ((zbW r.text r.lexicon hd).map (zbd r.text))))))))[j]?=some y_:=zch zU;obtain ⟨x6,x7,_,d7,d8,hr_wd⟩:=Sl.elem (gf12_0x65.up (T.t Q)) hwd;obtain ⟨rfl,l6⟩:=hr_wd;simp only[big] at l6;refine zL d7 zC zaj Y<|M 0 a4.sub d8 zaK Y<|zQ Y (zce (cs:=[zae wd,(.slice none 0 0)]) zbL)<|zad a4 Tryz.zeroValue125 Y Y<|fun r1 x8 l7=>zo 5 l7 Y zhe<|fun r6 e3=>zb<|zat<|zc Y<|zb<|zT ?_;have e4:=e3.snoc;have f106:=OSl.nil zqR 140 a7;refine zaM ([16]++zcp 79 30) (G:=Nat×Value×List (Nat×Obj)×Heap) (fun ⟨m,v_c5_1,o_c5_1,a1⟩=>[(16,iV (m:Int))]) (fun ⟨m,v_c5_1,o_c5_1,a1⟩ w'=>Le a7 a1∧St h w a1 w' [[(b7,.cells (List.toArray [(.slice none 0 0)]) 45)],[(j4,.cells (List.toArray [v_c1_0]) 45)],o_c1_0,[(p1,.cells (List.toArray [zae (hd.stem),.int .u8 (hd.mark),v_c3_2]) 55)],o_c3_2,[(r1,.cells (List.toArray [zae wd,v_c5_1]) 125)],o_c5_1]∧(OSl zqR 140 a1 v_c5_1 (((((zbW r.text r.lexicon hd).take m).filter fun p_=>decide (zbd r.text p_=wd)).map (zyt r))) o_c5_1)∧(m≤(zbW r.text r.lexicon hd).length)) (fun ⟨m,v_c5_1,o_c5_1,a1⟩=>(zbW r.text r.lexicon hd).length-m) ⟨0,(.slice none 0 0),[],a7⟩ ⟨rfl,trivial⟩ ⟨Le.refl _,e4,(OSl.to f106 (by rfl)),zbm⟩ ?_;rintro ⟨m,v_c5_1,o_c5_1,a1⟩ _ r7 ⟨B,a0,hO_c5_1,hm⟩;refine zat<|za Y<|zq gv12_0x84 Y<|zK (gf12_0x84.up (Q.t B)) zbo Y<|zN Y<|zb ?_;refine zS Y (fun l8=>?_) (fun l8=>?_)
   ·refine zaN<|zT<|zaH ?_;obtain ⟨p,hp⟩:∃ p,(zbW r.text r.lexicon hd)[m]?=some p:=⟨_,List.getElem?_eq_getElem zU⟩;have hpp:zcz r.text p=true:=zhU (List.mem_filter.1 (List.mem_of_getElem? hp)).1;have hpw:=zjj hpp;refine zbZ Tryz.mixed zbL (Cls a1 _) (Cls.drew a0)<|zD zah Y zab<|have d9:=((j7.t T).t Q).t B;zp Y (fun _ hC=>(zfI (j:=0) hC.sub (a5.up d9) (us:=[r_v0]) Y Y zaG zab Y Y))<|zbc gv12_0x84 Y<|zcW Y Y ?_;obtain ⟨r8,r9,_,b6,b8,hr_p⟩:=Sl.elem (gf12_0x84.up (Q.t B)) hp;subst hr_p;refine zaq b6 zbo zP Y<|zp Y (fun _ hC=>(zW hC.sub b8 Y zaE zP Y)) ?_;have a3:=(((((a6.t P).t A).t S).t T).t Q).t B;refine zcl rfl rfl (fun _=>zbJ rfl Tryz.call79 rfl) (fun _ hC=>zbe.quiet hC (zfO hC.sub (t:=r.text) (r_f0.up a3) (p:=p) (by exact hpp))) ?_;refine zbc gv12_0x65 Y<|zcW Y Y<|zaq d7 zC zaj Y<|zp Y (fun _ hC=>(zX (j:=0) hC.sub (d8.up B) Y Y Y zaK))<|zzm Y Y Y<|zbl ?_;rintro s0 ⟨l9,F⟩;have b9:=a0.call0 F;refine zz ?_;refine zS Y (fun d2=>?_) (fun d2=>?_)
    ·refine zba (er:=([1],[],[],[],0)) (dsts:=[97,98,99,100,101,102,103,104,105,106,107,108]) b9 Tryz.mixed<|zF (zm zfy Y zhf)<|zam (fun hD wD C H I hO _ _=>(zji ((hO Y).get (k:=5) Y) Y Y Tryz.isAgg123))<|zam (fun hD wD C H I hO=>(zW (H.sub I) (a5.up (d9.trans F.le)) Y zdi zbR Y))<|zF (zaW j5 Y)<|zF (zaW gv12_0x84 Y)<|zF (zeH Y)<|zF (zcB b6 zbo zP Y)<|zam (fun hD wD C H I hO _ _=>(zW (H.sub I) (b8.up F.le) Y zaE zP Y)) ?_;refine zaT (.det (.agg (List.toArray [iV ((zhr (r) ((zdf r.text r.copies)) (p)).at_.chapter),iV ((zhr (r) ((zdf r.text r.copies)) (p)).at_.line),iV ((zhr (r) ((zdf r.text r.copies)) (p)).at_.word),iV ((zhr (r) ((zdf r.text r.copies)) (p)).ref.chapter),iV ((zhr (r) ((zdf r.text r.copies)) (p)).ref.line),iV ((zhr (r) ((zdf r.text r.copies)) (p)).ref.word),.int .u8 ((zhr (r) ((zdf r.text r.copies)) (p)).sure)]))) ?_ ?_
     ·intro hD wD C H I hO _ _ _ _ _ _;have c0:=St.start I;refine zaD c0 rfl rfl rfl Tryz.call80 rfl (zqd c0.sub (r:=r) (r_f0.up ((a3.trans F.le).trans H)) (r_f1.up ((a3.trans F.le).trans H)) (r_f2.up ((a3.trans F.le).trans H)) (r_f3.up ((a3.trans F.le).trans H)) (r_f4.up ((a3.trans F.le).trans H)) (by first|assumption|decide|(show _∧_;simp only[zhr];split <;> omega)|omega|(dsimp only;omega)|(simp;omega)) (f20.up (((((((P.t A).t S).t T).t Q).t B).trans F.le).trans H)) (p:=p)) ?_;intro s1 s2 s3 p6 e5 m0;subst m0;exact zB ⟨_,_,Y,e5,(),Y,trivial⟩
     refine zaT (.res (fun h' res_=>Sl zqR h' res_ ([(zhr (r) ((zdf r.text r.copies)) (p))])) (fun _ _ _ hl f=>f.up hl)) ?_ ?_
     ·intro hD wD C H I hO _ _;have e6:=St.start I;refine zhg (L:=zqR) (xs:=[(zhr (r) ((zdf r.text r.copies)) (p))]) (cs:=[iV ((zhr (r) ((zdf r.text r.copies)) (p)).at_.chapter),iV ((zhr (r) ((zdf r.text r.copies)) (p)).at_.line),iV ((zhr (r) ((zdf r.text r.copies)) (p)).at_.word),iV ((zhr (r) ((zdf r.text r.copies)) (p)).ref.chapter),iV ((zhr (r) ((zdf r.text r.copies)) (p)).ref.line),iV ((zhr (r) ((zdf r.text r.copies)) (p)).ref.word),.int .u8 ((zhr (r) ((zdf r.text r.copies)) (p)).sure)]) e6 (Enc.cons (L:=zqR) (vs:=[iV ((zhr (r) ((zdf r.text r.copies)) (p)).at_.chapter),iV ((zhr (r) ((zdf r.text r.copies)) (p)).at_.line),iV ((zhr (r) ((zdf r.text r.copies)) (p)).at_.word),iV ((zhr (r) ((zdf r.text r.copies)) (p)).ref.chapter),iV ((zhr (r) ((zdf r.text r.copies)) (p)).ref.line),iV ((zhr (r) ((zdf r.text r.copies)) (p)).ref.word),.int .u8 ((zhr (r) ((zdf r.text r.copies)) (p)).sure)]) (x:=(zhr (r) ((zdf r.text r.copies)) (p))) (h:=hD) (⟨rfl,by first|assumption|decide|(show _∧_;simp only[zhr];split <;> omega)|omega|(dsimp only;omega)|(simp;omega)⟩) Enc.nil) rfl rfl rfl zeW Tryz.info140 rfl rfl rfl zbL ?_;intro s4 s5 s6 p7 f130 e7;exact zB ⟨_,_,Y,e7,_,Y,f130⟩
     refine zbC<|zF (zm zfy Y zhf)<|zbC<|zck<|fun p8 s7 _ c1 e8 _ _ gv9_0x134 gf9_0x134 _ _=>?_;refine zaO (k:=6) (nb:=56) e8 (hO_c5_1.up (F.le.t c1)) rfl gf9_0x134 rfl rfl rfl zeW Tryz.info140 rfl rfl rfl (by decide) rfl (by first|(simp only[List.length_append,List.length_map,List.length_take,List.length_cons,List.length_nil];omega)|(have q_:=List.length_filter_le (fun p_=>decide (zbd r.text p_=wd)) ((zbW r.text r.lexicon hd).take m);rw[List.length_take] at q_;simp only[List.length_append,List.length_map,List.length_take,List.length_cons,List.length_nil];omega)) (by first|(simp only[List.length_append,List.length_map,List.length_take,List.length_cons,List.length_nil];omega)|(have q_:=List.length_filter_le (fun p_=>decide (zbd r.text p_=wd)) ((zbW r.text r.lexicon hd).take m);rw[List.length_take] at q_;simp only[List.length_append,List.length_map,List.length_take,List.length_cons,List.length_nil];omega)) ?_;intro e0 m1 s8 _ m2 f143 e9;subst m2;refine zB ⟨_,Y,_,_,Le.refl _,e9,?_⟩;intro p9 s9 _ c2 g0 _ _ _ _ _ _ _ _ _ _ _ _ _ _ _ _ _ _ _ _ gv9_0x145 gf9_0x145;refine zci g0 (k:=5) Y Y (v:=e0) Y f143.one zhf Y Y Y<|fun t0 g1=>?_;refine zB ⟨undef,Y,_,_,Le.refl _,g1,?_⟩;intro g2 t1 _ c3 g3 _ _ _ _ _ _ _ _ _ _ _ _ _ _ _ _ _ _ gv9_0x156 gf9_0x156 _ _;refine zbk.fin Y<|zaF<|za Y<|zy Y zaS<|zc Y<|zb ?_;have m3:=(((B.trans F.le).t c1).t c2).t c3;refine ⟨⟨m+1,e0,m1,g2⟩,⟨rfl,trivial⟩,?_,⟨m3,g3,?_,?_⟩,?_⟩
     ·exact zaR
     ·refine OSl.to (f143.up (c2.t c3)) ?_;rw[zaQ hp,List.filter_append,List.filter_cons,if_pos (by simpa using d2),List.map_append];rfl
     ·first|omega|(simp;omega)
     show (zbW r.text r.lexicon hd).length-((m+1))<(zbW r.text r.lexicon hd).length-m;omega
    refine zbj<|zaF<|za Y<|zy Y zaS<|zc Y<|zb ?_;refine ⟨⟨m+1,v_c5_1,o_c5_1,l9⟩,⟨rfl,trivial⟩,?_,⟨(B.trans F.le),b9,?_,?_⟩,?_⟩
    ·exact zaR
    ·refine OSl.to (hO_c5_1.up F.le) ?_;rw[zaQ hp,List.filter_append,List.filter_cons,if_neg (by simpa using d2)];simp
    ·first|omega|(simp;omega)
    show (zbW r.text r.lexicon hd).length-((m+1))<(zbW r.text r.lexicon hd).length-m;omega
   refine zcC<|zz<|zag<|U zdC Y zfF<|zez (a0.get (k:=3) Y) Y Y ziy Y<|zcI (a0.get (k:=5) Y) Y Tryz.isAgg125 zhe Y Y ?_;obtain ⟨m4,c4,f160,g4⟩:=OSl.freeze (k:=6) a0 hO_c5_1 rfl (by first|(simp only[List.length_append,List.length_map,List.length_take,List.length_cons,List.length_nil];omega)|(have q_:=List.length_filter_le (fun p_=>decide (zbd r.text p_=wd)) ((zbW r.text r.lexicon hd).take m);rw[List.length_take] at q_;simp only[List.length_append,List.length_map,List.length_take,List.length_cons,List.length_nil];omega));refine zA zjO [(Form.mk wd ((((zbW r.text r.lexicon hd).take m).filter fun p_=>decide (zbd r.text p_=wd)).map (zyt r)))] [zae wd,v_c5_1] g4 (Enc.cons (L:=zjO) (vs:=[zae wd,v_c5_1]) (x:=(Form.mk wd ((((zbW r.text r.lexicon hd).take m).filter fun p_=>decide (zbd r.text p_=wd)).map (zyt r)))) (h:=m4) (⟨_,Y,zbq,f160⟩) Enc.nil) Y zev Tryz.info125 zbL<|fun t2 t3 m5 c5 f164 g5=>?_;refine zaO (k:=4) (nb:=40) g5 (hO_c3_2.up ((B.t c4).t c5)) rfl f164 rfl rfl rfl zev Tryz.info125 rfl rfl rfl (by decide) rfl (by first|(simp only[List.length_append,List.length_map,List.length_take,List.length_cons,List.length_nil];omega)|(have q_:=List.length_filter_le (fun p_=>decide (zbd r.text p_=wd)) ((zbW r.text r.lexicon hd).take m);rw[List.length_take] at q_;simp only[List.length_append,List.length_map,List.length_take,List.length_cons,List.length_nil];omega)) (by first|(simp only[List.length_append,List.length_map,List.length_take,List.length_cons,List.length_nil];omega)|(have q_:=List.length_filter_le (fun p_=>decide (zbd r.text p_=wd)) ((zbW r.text r.lexicon hd).take m);rw[List.length_take] at q_;simp only[List.length_append,List.length_map,List.length_take,List.length_cons,List.length_nil];omega)) ?_;intro e1 m6 t4 _ m7 f172 g6;subst m7;refine U zdC Y zfF<|zci g6 (k:=3) Y Y (v:=e1) Y f172.one zfF Y Y Y<|fun t5 g7=>zB<|zaF<|za Y<|zy Y zaS<|zc Y<|zb ?_;have m8:=((Q.t B).t c4).t c5;refine ⟨⟨j+1,e1,m6,m5⟩,⟨rfl,trivial⟩,?_,⟨m8,g7.take 5,?_,?_⟩,?_⟩
   ·exact zaR
   ·refine OSl.to f172 ?_;rw[zaQ hwd,List.map_append,show (zbW r.text r.lexicon hd).take m=(zbW r.text r.lexicon hd) from List.take_of_length_le zU];rfl
   ·first|omega|(simp;omega)
   show (zfk sLt ((zbW r.text r.lexicon hd).map (zbd r.text))).length-((j+1))<(zfk sLt ((zbW r.text r.lexicon hd).map (zbd r.text))).length-j;omega
  refine zcC<|zz<|zag<|U zef Y zfs<|zez (a4.get (k:=1) Y) Y Y zhB Y<|zcI (a4.get (k:=3) Y) Y zeM zcd Y Y ?_;obtain ⟨m9,c6,f179,g8⟩:=OSl.freeze (k:=4) a4 hO_c3_2 rfl (by first|(simp only[List.length_append,List.length_map,List.length_take,List.length_cons,List.length_nil];omega)|(have q_:=List.length_filter_le (fun p_=>decide (zbd r.text p_=wd)) ((zbW r.text r.lexicon hd).take m);rw[List.length_take] at q_;simp only[List.length_append,List.length_map,List.length_take,List.length_cons,List.length_nil];omega));refine zhg (L:=zfT) (xs:=[(VEntry.mk (Head.mk (hd.stem) (hd.mark)) (((zfk sLt ((zbW r.text r.lexicon hd).map (zbd r.text))).take j).map (zuC r hd)))]) (cs:=[zae (hd.stem),.int .u8 (hd.mark),v_c3_2]) g8 (Enc.cons (L:=zfT) (vs:=[zae (hd.stem),.int .u8 (hd.mark),v_c3_2]) (x:=(VEntry.mk (Head.mk (hd.stem) (hd.mark)) (((zfk sLt ((zbW r.text r.lexicon hd).map (zbd r.text))).take j).map (zuC r hd)))) (h:=m9) (⟨_,rfl,zbq,by first|assumption|decide|(show _∧_;simp only[zhr];split <;> omega)|omega|(dsimp only;omega)|(simp;omega),f179⟩) Enc.nil) rfl rfl rfl zeg Tryz.info55 rfl rfl rfl zbL ?_;intro t6 t7 o0 c7 f183 g9;have o1:=(((S.t T).t Q).t c6).t c7;refine zaO (k:=2) (nb:=48) g9 (hO_c1_0.up o1) rfl f183 rfl rfl rfl zeg Tryz.info55 rfl rfl rfl (by decide) rfl (by first|(simp only[List.length_append,List.length_map,List.length_take,List.length_cons,List.length_nil];omega)|(have q_:=List.length_filter_le (fun p_=>decide (zbd r.text p_=wd)) ((zbW r.text r.lexicon hd).take m);rw[List.length_take] at q_;simp only[List.length_append,List.length_map,List.length_take,List.length_cons,List.length_nil];omega)) (by first|(simp only[List.length_append,List.length_map,List.length_take,List.length_cons,List.length_nil];omega)|(have q_:=List.length_filter_le (fun p_=>decide (zbd r.text p_=wd)) ((zbW r.text r.lexicon hd).take m);rw[List.length_take] at q_;simp only[List.length_append,List.length_map,List.length_take,List.length_cons,List.length_nil];omega)) ?_;intro e2 o2 t8 _ o3 f191 h0;subst o3;refine U zef Y zfs<|zci h0 (k:=1) Y Y (v:=e2) Y f191.one zfs Y Y Y<|fun t9 h1=>zB<|zaF<|za Y<|zy Y zaS<|zc Y<|zb ?_;have o4:=((((A.t S).t T).t Q).t c6).t c7;refine ⟨⟨i+1,e2,o2,o0⟩,⟨rfl,trivial⟩,?_,⟨o4,h1.take 3,?_,?_⟩,?_⟩
  ·exact zaR
  ·refine OSl.to f191 ?_;rw[zaQ hhd,List.map_append,show (zfk sLt ((zbW r.text r.lexicon hd).map (zbd r.text))).take j=(zfk sLt ((zbW r.text r.lexicon hd).map (zbd r.text))) from List.take_of_length_le zU];rfl
  ·first|omega|(simp;omega)
  show (zfk zdU (zcD r.text r.lexicon)).length-((i+1))<(zfk zdU (zcD r.text r.lexicon)).length-i;omega
 refine zcC<|zz<|zx<|zcI (b0.get (k:=1) Y) Y zeE zcj Y Y<|zbE b0 (k:=0) Y Y Y (zaX hO_c1_0.one zdv) zcj Y Y Y<|fun v0 h2=>?_;obtain ⟨v1,h4,h5,c8⟩:=h2.freeze (k:=0) rfl;have h6:=zay.of h5;refine zj<|zdT Tryz.results43 Y zeE zcj Y c8.sub h6 ?_;obtain ⟨o5,q0,f206,h7⟩:=OSl.freeze (k:=2) c8 (hO_c1_0.up h4) rfl (by first|(simp only[List.length_append,List.length_map,List.length_take,List.length_cons,List.length_nil];omega)|(have q_:=List.length_filter_le (fun p_=>decide (zbd r.text p_=wd)) ((zbW r.text r.lexicon hd).take m);rw[List.length_take] at q_;simp only[List.length_append,List.length_map,List.length_take,List.length_cons,List.length_nil];omega));refine ⟨o5,_,Y,h7.done,?_⟩;refine ⟨_,?_,Sl.to f206 ?_⟩
 all_goals first|rfl|(rw[List.take_of_length_le zU];rfl)
theorem zol (hs:Sub h w) {v:Volume} {v_v0:Value} (v_f0:Sl zfT h v_v0 v.entries) (hd_l1:hd.stem.length≤281474976710656) (hd_l2:0≤hd.mark∧hd.mark≤255):Calls Tryz.prog 49 #[.agg #[v_v0],.agg #[zae hd.stem,.int .u8 hd.mark]] w (zbe h w (fun h' _ res_=>∃ u0,res_=.tuple #[.agg #[zae (((zoE v.entries hd).getD zpr)).head.stem,.int .u8 (((zoE v.entries hd).getD zpr)).head.mark,u0],.bool ((zoE v.entries hd).isSome)]∧Sl zjO h' u0 (((zoE v.entries hd).getD zpr)).forms)):=by
 refine zl 28 Tryz.func49 Y<|have a9:=zbM hs;have a5:=v_f0.le;zx<|ze [v_v0] a9 Y<|fun b1 w2 h3 b0 T b2=>ze [zae (hd.stem),.int .u8 (hd.mark)] b2 Y<|fun b7 w8 h9 C a1 a2=>zad a2 zfJ Y Y<|fun b3 b6 a3=>zd Y<|zb<|zat<|zc Y<|zb<|zT ?_;refine zaM (zcp 5 22) (G:=Nat×Heap) (fun ⟨k,B⟩=>[(6,iV (k:Int))]) (fun ⟨k,B⟩ w'=>Le h9 B∧St h w B w' [[(b3,.cells (List.toArray [zae [],.int .u8 0,(.slice none 0 0)]) 55)]]∧(k≤v.entries.length)∧(∀ j y,j<k→v.entries[j]?=some y→¬ y.head=hd)) (fun ⟨k,B⟩=>v.entries.length-k) ⟨0,h9⟩ ⟨rfl,trivial⟩ ⟨Le.refl _,a3,zbm,(by intro j y hj;omega)⟩ ?_;rintro ⟨k,B⟩ _ b8 ⟨A,F,hk,hA⟩;refine zat<|za Y<|U zef Y zfs<|M 0 F.sub (T.up (C.t A)) zhB Y<|have a6:=(b0.t C).t A;zK (v_f0.up a6) zeg Y<|zN Y<|zb ?_;refine zS Y (fun b4=>?_) (fun b4=>?_)
 ·refine zaN<|zT<|zaH<|zbZ Tryz.mixed zbL (Cls B _) (Cls.drew F)<|zD zef Y zfs<|zp Y (fun _ hC=>(zX (j:=0) hC.sub (T.up (C.t A)) Y Y Y zhB))<|zcW Y Y ?_;obtain ⟨e,he⟩:∃ y_,(v.entries)[k]?=some y_:=zch zU;obtain ⟨b9,c0,_,L,P,hr_e⟩:=Sl.elem (v_f0.up a6) he;obtain ⟨c1,rfl,a4,b5,f29⟩:=hr_e;simp only[big] at a4;have a8:=f29.le;refine zaq L zeg zcd Y<|zD zdC Y zac<|zp Y (fun _ hC=>(zfI (j:=0) hC.sub P (us:=[zae (e.head.stem),.int .u8 (e.head.mark)]) Y Y zbr zac Y Y))<|zp Y (fun _ hC=>(zW hC.sub (a1.up A) Y zbr zac Y))<|zp Y (fun _ _=>(zgK Y Y zeY (Tryz.eq_Head e.head hd)))<|zbl ?_;rintro c2 ⟨a7,I⟩;have H:=F.call0 I;refine zz ?_;refine zS Y (fun a0=>?_) (fun a0=>?_)
  ·refine zx<|U zef Y zfs<|M 0 H.sub (T.up ((C.t A).trans I.le)) zhB Y<|za Y<|zL L zeg zcd Y<|zg H.sub (P.up I.le) zeM zcd Y<|zbE H (k:=0) Y Y Y (zaX Y (zaX Y (zaX f29.one zdv))) zcd Y Y Y<|fun c3 Q=>zd Y<|zj<|zan<|zJ<|zan<|zbP Tryz.results49 Y zeM zcd Y (Q.get (k:=0) Y) ?_;refine ⟨a7,_,Y,Q.done,?_⟩;refine ⟨_,zdz ?_ (zM ?_),Sl.to (f29.up I.le) ?_⟩
   all_goals rw[zzy he hA (by simpa using a0)]
   all_goals first|rfl|skip
  refine zbj<|zaF<|za Y<|zy Y zaS<|zc Y<|zb ?_;refine ⟨⟨k+1,a7⟩,⟨rfl,trivial⟩,?_,⟨(A.trans I.le),H,?_,?_⟩,?_⟩
  ·exact zaR
  ·first|omega|(simp;omega)
  ·intro j y hj hy
   rcases Nat.lt_or_eq_of_le (Nat.le_of_lt_succ hj) with q|q
   ·exact hA j y q hy
   ·subst q;rw[he] at hy;cases hy;simpa using a0
  show v.entries.length-((k+1))<v.entries.length-k;omega
 refine zcC<|zz<|zx<|zQ Y (zce (cs:=[zae [],.int .u8 0,(.slice none 0 0)]) zbL)<|zo 0 F Y zcd<|fun c4 S=>zd Y<|zj<|zbP Tryz.results49 Y zeM zcd Y (S.get (k:=0) Y) ?_;refine ⟨B,_,Y,S.done,?_⟩;refine ⟨_,zdz ?_ (zM ?_),Sl.to (Sl.nil _ _) ?_⟩
 all_goals rw[zxa (fun j y hy=>hA j y (by have q_:=(List.getElem?_eq_some_iff.1 hy).1;omega) hy)]
 all_goals first|rfl|skip
theorem zoZ (hs:Sub h w) (r_f0:Sl zax h r_v0 r.text.chapters) (r_f1:Sl zeS h r_v1 r.copies) (r_f2:Sl zcS h r_v2 r.lexicon.rules) (r_f3:Sl zau h r_v3 r.lexicon.decisions) (r_f4:Sl zbw h r_v4 r.edition.stretches) (r_l8:0≤r.cut.side∧r.cut.side≤255):Calls Tryz.prog 10 #[.agg #[r_v0,r_v1,r_v2,r_v3,iV r.edition.id,r_v4,iV r.cut.width,.int .u8 r.cut.side]] w (zbe h w (fun h' _ res_=>∃ u0,res_=.tuple #[.agg #[u0],iV ((zhT r))]∧Sl zfT h' u0 ((Volume.mk (zrk r))).entries)):=by
 refine zl 13 Tryz.func10 Y<|have a6:=zbM hs;have a0:=r_f0.le;have a1:=r_f1.le;have a2:=r_f2.le;have a3:=r_f3.le;have a4:=r_f4.le;zx<|ze [r_v0,r_v1,r_v2,r_v3,iV (r.edition.id),r_v4,iV (r.cut.width),.int .u8 (r.cut.side)] a6 Y<|fun b1 w2 h3 B S a7=>zad a7 zey Y Y<|fun b7 w8 P=>zc Y<|zb<|zat<|zg P.sub S zdi zbR Y<|zn P Y Tryz.call16 (zgU P.sub (r:=r) (r_f0.up B) (r_f1.up B) (r_f2.up B) (r_f3.up B) (r_f4.up B) zdb)<|fun b6 b8 a8 H A a9=>?_;subst a9;refine zc Y<|zb<|zx<|za Y<|zao Y<|zb ?_;refine zS Y (fun Q=>?_) (fun Q=>?_)
 ·refine zx<|zQ Y (zce (cs:=[(.slice none 0 0)]) zbL)<|za Y<|zo 0 A Y zcj<|fun b9 I=>zc Y<|zj<|zJ<|zbP Tryz.results10 Y zeE zcj Y (I.get (k:=0) Y) ?_;refine ⟨a8,_,Y,I.done,?_⟩;refine ⟨_,zdz ?_ (zaB ?_),Sl.to (Sl.nil _ _) ?_⟩
  ·rfl
  ·rfl
  rw[zrk,if_neg (by simpa using Q)]
 refine zaN ?_;have F:zhT r=0:=by simpa using Q
 have b0:=(zla F).1;have b2:=(zla F).2.2.2;refine zag<|zg A.sub (S.up H) zdi zbR Y ?_;have C:=B.t H;refine zaD A rfl rfl rfl Tryz.call43 rfl (zib A.sub (r:=r) (r_f0.up C) (r_f1.up C) (r_f2.up C) (r_f3.up C) (r_f4.up C) zdb (by exact b0) (by exact b2)) ?_;intro c0 c1 b3 b5 T b4;obtain ⟨c2,rfl,f27⟩:=b4;have a5:=f27.le;refine zbE T (k:=0) Y Y Y (zaX f27.one zdv) zcj Y Y Y<|fun c3 L=>zc Y<|zj<|zbP Tryz.results10 Y zeE zcj Y (L.get (k:=0) Y) ?_;refine ⟨b3,_,Y,L.done,?_⟩;refine ⟨_,zdz ?_ (zaB ?_),Sl.to f27 ?_⟩
 ·rfl
 ·exact F.symm
 rw[zrk,if_pos F]
theorem zqE (hs:Sub h w) (r_f0:Sl zax h r_v0 r.text.chapters) (r_f1:Sl zeS h r_v1 r.copies) (r_f2:Sl zcS h r_v2 r.lexicon.rules) (r_f3:Sl zau h r_v3 r.lexicon.decisions) (r_f4:Sl zbw h r_v4 r.edition.stretches) (r_l8:0≤r.cut.side∧r.cut.side≤255) (hd_l1:hd.stem.length≤281474976710656) (hd_l2:0≤hd.mark∧hd.mark≤255):Calls Tryz.prog 14 #[.agg #[r_v0,r_v1,r_v2,r_v3,iV r.edition.id,r_v4,iV r.cut.width,.int .u8 r.cut.side],.agg #[zae hd.stem,.int .u8 hd.mark]] w (zbe h w (fun h' _ res_=>∃ u0,res_=.tuple #[.agg #[zae ((ofR r hd)).head.stem,.int .u8 ((ofR r hd)).head.mark,u0],iV ((ofE r hd))]∧Sl zjO h' u0 ((ofR r hd)).forms)):=by
 refine zl 38 Tryz.func14 Y<|have g7:=zbM hs;have e6:=r_f0.le;have e7:=r_f1.le;have e8:=r_f2.le;have e9:=r_f3.le;have g0:=r_f4.le;zx<|ze [r_v0,r_v1,r_v2,r_v3,iV (r.edition.id),r_v4,iV (r.cut.width),.int .u8 (r.cut.side)] g7 Y<|fun b1 w2 h3 g8 c1 g9=>ze [zae (hd.stem),.int .u8 (hd.mark)] g9 Y<|fun b7 w8 h9 F a9 d4=>zad d4 zfJ Y Y<|fun j3 j4 S=>zc Y<|zb<|zat<|zg S.sub (c1.up F) zdi zbR Y<|have I:=g8.t F;zn S Y Tryz.call16 (zgU S.sub (r:=r) (r_f0.up I) (r_f1.up I) (r_f2.up I) (r_f3.up I) (r_f4.up I) zdb)<|fun j5 j6 h0 B C h1=>?_;subst h1;refine zc Y<|zb<|zx<|za Y<|zao Y<|zb ?_;refine zS Y (fun c2=>?_) (fun c2=>?_)
 ·refine zx<|zQ Y (zce (cs:=[zae [],.int .u8 0,(.slice none 0 0)]) zbL)<|za Y<|zo 0 C Y zcd<|fun j7 b0=>zc Y<|zj<|zJ<|zbP Tryz.results14 Y zeM zcd Y (b0.get (k:=0) Y) ?_;refine ⟨h0,_,Y,b0.done,?_⟩;refine ⟨_,zdz ?_ (zaB ?_),Sl.to (Sl.nil _ _) ?_⟩
  all_goals have T:ofE r hd=zhT r:=by rw[ofE,if_pos (by simpa using c2)]
  all_goals have a8:¬ ofE r hd=0:=by rw[T];simpa using c2
  ·rw[ofR,if_neg a8];rfl
  ·exact T.symm
  rw[ofR,if_neg a8];rfl
 refine zaN<|zaH ?_;have c3:zhT r=0:=by simpa using c2
 have g1:=(zla c3).1;have h2:=(zla c3).2.2.2;refine zag<|U zah Y zab<|zw 0 [r_v0] C.sub (c1.up (F.t B)) zaG zab Y<|U zah Y zbv<|zw 2 [r_v2,r_v3] C.sub (c1.up (F.t B)) zcG zbv Y<|zg C.sub (a9.up B) zbr zac Y<|have H:=I.t B;zn C Y Tryz.call48 (ziE C.sub (t:=r.text) (r_f0.up H) (x:=r.lexicon) (r_f2.up H) (r_f3.up H) (hd:=hd) zbq zdb)<|fun j8 j9 h4 A b2 h5=>?_;obtain ⟨g2,rfl,f34⟩:=h5;have g4:=f34.le;refine zdy Y Y<|zaL g2 Y<|zR Y<|zH g2 Y<|zc Y<|zb<|zx<|za Y<|zao Y<|zb ?_;refine zS Y (fun d2=>?_) (fun d2=>?_)
 ·refine zx<|zQ Y (zce (cs:=[zae [],.int .u8 0,(.slice none 0 0)]) zbL)<|za Y<|zo 0 b2 Y zcd<|fun k0 b3=>zc Y<|zj<|zJ<|zbP Tryz.results14 Y zeM zcd Y (b3.get (k:=0) Y) ?_;refine ⟨h4,_,Y,b3.done,?_⟩;refine ⟨_,zdz ?_ (zaB ?_),Sl.to (Sl.nil _ _) ?_⟩
  all_goals have T:ofE r hd=zeA r.text r.lexicon hd:=by rw[ofE,if_neg (by simp[c3])]
  all_goals have a8:¬ ofE r hd=0:=by rw[T];simpa using d2
  ·rw[ofR,if_neg a8];rfl
  ·exact T.symm
  rw[ofR,if_neg a8];rfl
 refine zaN ?_;have g3:zeA r.text r.lexicon hd=0:=by simpa using d2
 have d3:ofE r hd=0:=by rw[ofE,if_neg (by simp[c3])];exact g3
 have hsk:=zyp g1 g3;refine zba (er:=([],[],[],[],0)) (dsts:=[31,32,33,34,30,35,36,9,10]) b2 Tryz.mixed<|zam (fun hD wD L P Q hO=>(zW (P.sub Q) (c1.up ((F.t B).t A)) Y zdi zbR Y)) ?_;refine zaT (.res (fun h' res_=>∃ gv1_0,res_=.agg #[gv1_0]∧Sl zfT h' gv1_0 ((Volume.mk (zhW (r)))).entries) (by rintro _ _ _ hl ⟨gv1_0,e_,gf1_0⟩;exact ⟨gv1_0,e_,gf1_0.up hl⟩)) ?_ ?_
 ·intro hD wD L P Q hO _ _;have b4:=St.start Q;refine zaD b4 rfl rfl rfl Tryz.call43 rfl (zib b4.sub (r:=r) (r_f0.up ((H.t A).trans P)) (r_f1.up ((H.t A).trans P)) (r_f2.up ((H.t A).trans P)) (r_f3.up ((H.t A).trans P)) (r_f4.up ((H.t A).trans P)) zdb (by exact g1) (by exact h2)) ?_;intro k1 k2 k3 h8 d5 h6;obtain ⟨k4,rfl,f46⟩:=h6;have g5:=f46.le;exact zB ⟨_,_,Y,d5,_,Y,⟨_,Y,f46⟩⟩
 refine zam (fun hD wD L P Q hO=>(zW (P.sub Q) (a9.up (B.t A)) Y zbr zac Y)) ?_;refine zaT (.res (fun h' res_=>∃ gv3_0,res_=.tuple #[.agg #[zae ((zhD r hd)).head.stem,.int .u8 ((zhD r hd)).head.mark,gv3_0],.bool true]∧Sl zjO h' gv3_0 ((zhD r hd)).forms) (by rintro _ _ _ hl ⟨gv3_0,e_,gf3_0⟩;exact ⟨gv3_0,e_,gf3_0.up hl⟩)) ?_ ?_
 ·intro hD wD L P Q hO _ _ gv1_ gf1_;obtain ⟨gv1_0,rfl,gf1_0⟩:=gf1_;have b5:=St.start Q;have con:=(zol b5.sub (v:=(Volume.mk (zhW (r)))) gf1_0 (hd:=hd) zbq zdb);rw[hsk] at con;refine zn b5 Y Tryz.call49 con<|fun k5 k6 k7 j0 d6 h7=>?_;obtain ⟨k8,rfl,f55⟩:=h7;have g6:=f55.le;clear con;exact zB ⟨_,_,Y,d6,_,Y,⟨_,Y,f55⟩⟩
 refine zaT (.res (fun h' res_=>∃ gv4_0,res_=.tuple #[.agg #[zae ((zhD r hd)).head.stem,.int .u8 ((zhD r hd)).head.mark,gv4_0],.bool true]∧Sl zjO h' gv4_0 ((zhD r hd)).forms) (by rintro _ _ _ hl ⟨gv4_0,e_,gf4_0⟩;exact ⟨gv4_0,e_,gf4_0.up hl⟩)) ?_ ?_
 ·intro hD wD L P Q hO gv3_ gf3_;obtain ⟨gv3_0,rfl,gf3_0⟩:=gf3_;have d7:=St.start Q;refine zdy Y Y ?_;exact zB ⟨_,_,Y,d7,_,Y,⟨_,Y,gf3_0⟩⟩
 refine zaT (.res (fun h' res_=>∃ gv5_0,res_=.agg #[zae ((zhD r hd)).head.stem,.int .u8 ((zhD r hd)).head.mark,gv5_0]∧Sl zjO h' gv5_0 ((zhD r hd)).forms) (by rintro _ _ _ hl ⟨gv5_0,e_,gf5_0⟩;exact ⟨gv5_0,e_,gf5_0.up hl⟩)) ?_ ?_
 ·intro hD wD L P Q hO gv4_ gf4_;obtain ⟨gv4_0,rfl,gf4_0⟩:=gf4_;have d8:=St.start Q;refine zaL (.agg (List.toArray _)) Y ?_;exact zB ⟨_,_,Y,d8,_,Y,⟨_,Y,gf4_0⟩⟩
 refine zaT (.det (.bool true)) ?_ ?_
 ·intro hD wD L P Q hO gv4_ gf4_;obtain ⟨gv4_0,rfl,gf4_0⟩:=gf4_;have d9:=St.start Q;refine zbK Y ?_;exact zB ⟨_,_,Y,d9,(),Y,trivial⟩
 refine zil zfJ Y<|zbC<|zF (zpH Y)<|zck<|fun k9=>fun j1 l0 _ j2 e0 _ _ c4 a0 _ _ c5 a1 c6 a2 c7 a3=>?_;obtain ⟨gv1_0x60,rfl,gf1_0x60⟩:=a0;obtain ⟨gv3_0x60,rfl,gf3_0x60⟩:=a1;obtain ⟨gv4_0x60,rfl,gf4_0x60⟩:=a2;obtain ⟨gv5_0x60,rfl,gf5_0x60⟩:=a3;refine zbE e0 (k:=1) Y Y Y (zaX Y (zaX Y (zaX gf5_0x60.one zdv))) zcd Y Y Y<|fun l1 e1=>?_;obtain ⟨l2,b6,e2,e3⟩:=e1.freeze (k:=1) rfl;have e4:=zay.of e2;refine zB ⟨undef,Y,_,_,b6,e3,?_⟩;intro e5 l3 _ b8 b9 _ _ c8 a4 _ _ c9 a5 d0 a6 d1 a7 _ _ _ _;obtain ⟨gv1_0x76,rfl,gf1_0x76⟩:=a4;obtain ⟨gv3_0x76,rfl,gf3_0x76⟩:=a5;obtain ⟨gv4_0x76,rfl,gf4_0x76⟩:=a6;obtain ⟨gv5_0x76,rfl,gf5_0x76⟩:=a7;refine zbk.fin Y<|zz<|zx<|zg b9.sub (e4.up b8) zeM zcd Y<|zbE b9 (k:=0) Y Y Y (zaX Y (zaX Y (zaX gf5_0x60.one zdv))) zcd Y Y Y<|fun l4 c0=>zc Y<|zj<|zbP Tryz.results14 Y zeM zcd Y (c0.get (k:=0) Y) ?_;refine ⟨e5,_,Y,c0.done,?_⟩;refine ⟨_,zdz ?_ (zaB ?_),Sl.to (gf5_0x60.up (b6.t b8)) ?_⟩
 ·rw[ofR,if_pos d3];rfl
 ·exact d3.symm
 rw[ofR,if_pos d3]
theorem zqF (hs:Sub h w) (r_f0:Sl zax h r_v0 r.text.chapters) (r_f1:Sl zeS h r_v1 r.copies) (r_f2:Sl zcS h r_v2 r.lexicon.rules) (r_f3:Sl zau h r_v3 r.lexicon.decisions) (r_f4:Sl zbw h r_v4 r.edition.stretches) (r_l8:0≤r.cut.side∧r.cut.side≤255) (x_f0:Sl zbw h x_v0 x.stretches):Calls Tryz.prog 12 #[.agg #[r_v0,r_v1,r_v2,r_v3,iV r.edition.id,r_v4,iV r.cut.width,.int .u8 r.cut.side],.agg #[iV x.id,x_v0]] w (zbe h w (fun h' _ res_=>∃ u0,res_=.tuple #[.agg #[u0],iV ((inE r x))]∧Sl zfT h' u0 ((Volume.mk (inR r x))).entries)):=by
 refine zl 26 Tryz.func12 Y<|have b6:=zbM hs;have a6:=r_f0.le;have a7:=r_f1.le;have a8:=r_f2.le;have a9:=r_f3.le;have b0:=r_f4.le;have b2:=x_f0.le;zx<|zmq b6 (cs:=[r_v0,r_v1,r_v2,r_v3,iV (r.edition.id),r_v4,iV (r.cut.width),.int .u8 (r.cut.side)]) Y Y Y<|fun b1 w2 b7=>ze [iV (x.id),x_v0] b7 Y<|fun b4 w5 h6 B b3 b8=>zad b8 zey Y Y<|fun c9 d0 C=>zc Y<|zb<|zat<|zcI (C.get (k:=0) Y) Y zdi zbR Y Y<|zn C Y Tryz.call16 (zgU C.sub (r:=r) (r_f0.up B) (r_f1.up B) (r_f2.up B) (r_f3.up B) (r_f4.up B) zdb)<|fun d1 d2 b9 F A c0=>?_;subst c0;refine zc Y<|zb<|zx<|za Y<|zao Y<|zb ?_;refine zS Y (fun P=>?_) (fun P=>?_)
 ·refine zx<|zQ Y (zce (cs:=[(.slice none 0 0)]) zbL)<|za Y<|zo 1 A Y zcj<|fun d3 S=>zc Y<|zj<|zJ<|zbP Tryz.results12 Y zeE zcj Y (S.get (k:=1) Y) ?_;refine ⟨b9,_,Y,S.done,?_⟩;refine ⟨_,zdz ?_ (zaB ?_),Sl.to (Sl.nil _ _) ?_⟩
  all_goals have hi:inE r x=zhT r:=by rw[inE,if_pos (by simpa using P)]
  all_goals have a2:¬ inE r x=0:=by rw[hi];simpa using P
  ·rfl
  ·exact hi.symm
  rw[inR,if_neg a2]
 refine zaN<|zaH ?_;have Q:zhT r=0:=by simpa using P
 have c1:=(zla Q).1;have c2:=(zla Q).2.2.2;refine zag<|U zah Y zab<|zQ Y (zuq (A.get (k:=0) Y) Y zaG zab (us:=[r_v0]) Y Y)<|zg A.sub (b3.up F) zco zbh Y<|have a3:=B.t F;zn A Y Tryz.call45 (zjW A.sub (t:=r.text) (r_f0.up a3) (e:=x) (x_f0.up a3))<|fun d4 d5 c3 T H c4=>?_;subst c4;refine zc Y<|zb<|zx<|za Y<|zao Y<|zb ?_;refine zS Y (fun a4=>?_) (fun a4=>?_)
 ·refine zx<|zQ Y (zce (cs:=[(.slice none 0 0)]) zbL)<|za Y<|zo 1 H Y zcj<|fun d6 a0=>zc Y<|zj<|zJ<|zbP Tryz.results12 Y zeE zcj Y (a0.get (k:=1) Y) ?_;refine ⟨c3,_,Y,a0.done,?_⟩;refine ⟨_,zdz ?_ (zaB ?_),Sl.to (Sl.nil _ _) ?_⟩
  all_goals have hi:inE r x=zcH r.text x:=by rw[inE,if_neg (by simp[Q])]
  all_goals have a2:¬ inE r x=0:=by rw[hi];simpa using a4
  ·rfl
  ·exact hi.symm
  rw[inR,if_neg a2]
 refine zaN ?_;have c5:zcH r.text x=0:=by simpa using a4
 refine zag<|zg H.sub (b3.up (F.t T)) zco zbh Y<|U zah Y zbh<|zbE H (k:=0) Y Y Y (zaX Y (zaX x_f0.one zdv)) zbh Y Y Y<|fun d7 I=>zb<|zx<|zcI (I.get (k:=0) Y) Y zdi zbR Y Y ?_;have L:=a3.t T;refine zaD I rfl rfl rfl Tryz.call43 rfl (zib I.sub (r:=({ r with edition:=x })) (r_f0.up L) (r_f1.up L) (r_f2.up L) (r_f3.up L) (x_f0.up L) zdb (by exact c1) (by exact c2)) ?_;intro d8 d9 c6 c8 a5 c7;obtain ⟨e0,rfl,f42⟩:=c7;have b5:=f42.le;refine zbE a5 (k:=1) Y Y Y (zaX f42.one zdv) zcj Y Y Y<|fun e1 a1=>zc Y<|zj<|zbP Tryz.results12 Y zeE zcj Y (a1.get (k:=1) Y) ?_;refine ⟨c6,_,Y,a1.done,?_⟩;refine ⟨_,zdz ?_ (zaB ?_),Sl.to f42 ?_⟩
 all_goals have hi:inE r x=0:=by rw[inE,if_neg (by simp[Q])];exact c5
 ·rfl
 ·exact hi.symm
 rw[inR,if_pos hi]
theorem zmJ (hs:Sub h w) {a_v:Value} {a:(List Row)} (a_f:Sl zqR h a_v a) {b_v:Value} {b:(List Row)} (b_f:Sl zqR h b_v b):Calls Tryz.prog 56 #[a_v,b_v] w (zbe h w (fun _ _ res_=>res_=.bool (decide (a=b)))):=by
 refine zl 26 Tryz.func56 Y<|have I:=zbM hs;have a_f_b:=a_f.le;have b_f_b:=b_f.le;zx<|zd Y<|zb<|zat<|zq a_v Y<|zK a_f zeW Y<|zq b_v Y<|zK b_f zeW Y<|zao Y<|zb ?_;refine zS Y (fun c1=>?_) (fun c1=>?_)
 ·refine zx<|zd Y<|zj<|zJ<|zk Tryz.results56 ?_;refine ⟨h,_,Y,I.done,?_⟩;refine zM ?_;have q:a≠b:=by
   rintro rfl;simp_all
  simp[q]
 refine zaN<|zx<|zc Y<|zb<|zT ?_;refine zaM ([4,5]++zcp 11 15) (G:=Nat×Heap) (fun ⟨k,C⟩=>[(5,iV (k:Int))]) (fun ⟨k,C⟩ w'=>Le h C∧St h w C w' []∧(k≤a.length)∧(a.take k=b.take k)) (fun ⟨k,C⟩=>a.length-k) ⟨0,h⟩ ⟨rfl,trivial⟩ ⟨Le.refl _,I,zbm,zbm⟩ ?_;rintro ⟨k,C⟩ _ w5 ⟨A,F,hk,he⟩;refine zat<|za Y<|zq a_v Y<|zK (a_f.up A) zeW Y<|zN Y<|zb ?_;refine zS Y (fun c6=>?_) (fun c6=>?_)
 ·refine zaN<|zT<|zaH<|zbZ Tryz.mixed zbL (Cls C _) (Cls.drew F)<|zbc a_v Y<|zcW Y Y ?_;obtain ⟨x,hx⟩:∃ y_,(a)[k]?=some y_:=zch zU;obtain ⟨b7,o8,_,L,a0,hr_x⟩:=Sl.elem (a_f.up A) hx;obtain ⟨rfl,a2⟩:=hr_x;refine zaq L zeW zex Y<|zp Y (fun _ hC=>(zW hC.sub a0 Y zij zex Y))<|zbc b_v Y<|zcW Y Y ?_;obtain ⟨y,hy⟩:∃ y_,(b)[k]?=some y_:=zch zU;obtain ⟨a4,a5,_,P,Q,hr_y⟩:=Sl.elem (b_f.up A) hy;obtain ⟨rfl,a3⟩:=hr_y;refine zaq P zeW zex Y<|zp Y (fun _ hC=>(zW hC.sub Q Y zij zex Y))<|zp Y (fun _ _=>(ziN Y Y Tryz.eqGuardType140 (Tryz.eq_Row x y)))<|zbl ?_;rintro a6 ⟨S,T⟩;have B:=F.call0 T;refine zz ?_;refine zS Y (fun H=>?_) (fun H=>?_)
  ·refine zx<|zd Y<|zj<|zan<|zJ<|zan<|zk Tryz.results56 ?_;refine ⟨S,_,Y,B.done,?_⟩;refine zM ?_;have q:=zfR hx hy (by simpa using H);simp[q]
  refine zbj<|zaF<|za Y<|zy Y zaS<|zc Y<|zb ?_;have a1:=A.trans T.le;refine ⟨⟨k+1,S⟩,⟨rfl,trivial⟩,?_,⟨a1,B,?_,?_⟩,?_⟩
  ·exact zaR
  ·first|omega|(simp;omega)
  ·exact zfp he hx hy (by simpa using H)
  show a.length-((k+1))<a.length-k;omega
 refine zcC<|zz<|zx<|zd Y<|zj<|zk Tryz.results56 ?_;refine ⟨C,_,Y,F.done,?_⟩;refine zM ?_;have q:=zgt he zU zU;simp[q]
theorem zjn (hs:Sub h w) {a:VEntry} (a_l1:a.head.stem.length≤281474976710656) (a_l2:0≤a.head.mark∧a.head.mark≤255) (a_f0:Sl zjO h a_v0 a.forms) {b:VEntry} (b_l1:b.head.stem.length≤281474976710656) (b_l2:0≤b.head.mark∧b.head.mark≤255) (b_f0:Sl zjO h b_v0 b.forms):Calls Tryz.prog 18 #[.agg #[zae a.head.stem,.int .u8 a.head.mark,a_v0],.agg #[zae b.head.stem,.int .u8 b.head.mark,b_v0]] w (zbe h w (fun _ _ res_=>res_=.bool (decide (a=b)))):=by
 refine zl 56 Tryz.func18 Y<|have b9:=zbM hs;have a8:=a_f0.le;have a9:=b_f0.le;zx<|ze [zae (a.head.stem),.int .u8 (a.head.mark),a_v0] b9 Y<|fun b1 w2 h3 c0 L c1=>ze [zae (b.head.stem),.int .u8 (b.head.mark),b_v0] c1 Y<|fun b7 w8 h9 C I A=>zd Y<|zb<|zat<|U zdC Y zac<|zw 0 [zae (a.head.stem),.int .u8 (a.head.mark)] A.sub (L.up C) zbr zac Y<|U zdC Y zac<|zw 0 [zae (b.head.stem),.int .u8 (b.head.mark)] A.sub I zbr zac Y<|zQ Y (ziN Y Y zeY (Tryz.eq_Head a.head b.head))<|zt Y ?_;refine zaC (d:=11) Y (fun c2=>?_) (fun c2=>?_)
 ·refine zaf 7 Y<|zi Y<|zb ?_;refine zap Y (fun b0=>?_) (fun b0=>?_)
  ·refine zx<|zd Y<|zj<|zJ<|zk Tryz.results18 ?_;refine ⟨h9,_,Y,A.done,?_⟩;refine zM ?_;have q:a≠b:=by
    rintro rfl;simp_all
   simp[q]
  cases b0
 refine Z Y<|U zdC Y zfF<|Z Y<|M 2 A.sub (L.up C) ziy Y<|Z Y<|have a3:=c0.t C;zK (a_f0.up a3) zev Y<|Z Y<|U zdC Y zfF<|Z Y<|M 2 A.sub I ziy Y<|Z Y<|zK (b_f0.up a3) zev Y<|Z Y<|zao Y<|zh Y<|zb ?_;refine zS Y (fun c3=>?_) (fun c3=>?_)
 ·refine zx<|zd Y<|zj<|zJ<|zk Tryz.results18 ?_;refine ⟨h9,_,Y,A.done,?_⟩;refine zM ?_;have q:a≠b:=by
   rintro rfl;simp_all
  simp[q]
 refine zaN<|zx<|zc Y<|zb<|zT ?_;refine zaM ([4,5]++zcp 20 36) (G:=Nat×Heap) (fun ⟨k,H⟩=>[(5,iV (k:Int))]) (fun ⟨k,H⟩ w'=>Le h9 H∧St h w H w' []∧(k≤a.forms.length)∧(a.forms.take k=b.forms.take k)) (fun ⟨k,H⟩=>a.forms.length-k) ⟨0,h9⟩ ⟨rfl,trivial⟩ ⟨Le.refl _,A,zbm,zbm⟩ ?_;rintro ⟨k,H⟩ _ c9 ⟨B,F,hk,he⟩;refine zat<|za Y<|U zdC Y zfF<|M 2 F.sub (L.up (C.t B)) ziy Y<|have a4:=a3.t B;zK (a_f0.up a4) zev Y<|zN Y<|zb ?_;refine zS Y (fun c4=>?_) (fun c4=>?_)
 ·refine zaN<|zT<|zaH<|zbZ Tryz.mixed zbL (Cls H _) (Cls.drew F)<|zD zdC Y zfF<|zp Y (fun _ hC=>(zX (j:=2) hC.sub (L.up (C.t B)) Y Y Y ziy))<|zcW Y Y ?_;obtain ⟨x,hx⟩:∃ y_,(a.forms)[k]?=some y_:=zch zU;obtain ⟨d0,d1,_,P,Q,hr_x⟩:=Sl.elem (a_f0.up a4) hx;obtain ⟨d2,rfl,a5,f29⟩:=hr_x;simp only[big] at a5;have b6:=f29.le;refine zaq P zev zhe Y<|zD zfy Y zaj<|zp Y (fun _ hC=>(zX (j:=0) hC.sub Q Y Y Y zaK))<|zD zdC Y zfF<|zp Y (fun _ hC=>(zX (j:=2) hC.sub (I.up B) Y Y Y ziy))<|zcW Y Y ?_;obtain ⟨y,hy⟩:∃ y_,(b.forms)[k]?=some y_:=zch zU;obtain ⟨d3,d4,_,S,T,hr_y⟩:=Sl.elem (b_f0.up a4) hy;obtain ⟨d5,rfl,a6,f36⟩:=hr_y;simp only[big] at a6;have b8:=f36.le;refine zaq S zev zhe Y<|zD zfy Y zaj<|zp Y (fun _ hC=>(zX (j:=0) hC.sub T Y Y Y zaK))<|zp Y (fun _ _=>(zkz Y Y))<|zdl Y Y ?_;refine zeI (d:=40) Y (fun c5=>?_) (fun c5=>?_)
  ·refine zbT 14 Y<|zaw Y<|zbl ?_;rintro d6 ⟨c6,c7⟩;have a7:=F.call0 c7;refine zz ?_;refine zap Y (fun b3=>?_) (fun b3=>?_)
   ·refine zx<|zd Y<|zj<|zan<|zJ<|zan<|zk Tryz.results18 ?_;refine ⟨c6,_,Y,a7.done,?_⟩;refine zM ?_;have q:a≠b:=fun e=>zfR hx hy (by rintro rfl;simp_all) (by rw[e]);simp[q]
   cases b3
  refine zf Y<|zD zdC Y zfF<|zf Y<|zp Y (fun _ hC=>(zX (j:=2) hC.sub (L.up (C.t B)) Y Y Y ziy))<|zf Y<|zcW Y Y<|zf Y<|zaq P zev zhe Y<|zf Y<|zD zfy Y zhf<|zf Y<|zp Y (fun _ hC=>(zX (j:=1) hC.sub Q Y Y Y Tryz.isAgg123))<|zf Y<|zD zdC Y zfF<|zf Y<|zp Y (fun _ hC=>(zX (j:=2) hC.sub (I.up B) Y Y Y ziy))<|zf Y<|zcW Y Y<|zf Y<|zaq S zev zhe Y<|zf Y<|zD zfy Y zhf<|zf Y<|zp Y (fun _ hC=>(zX (j:=1) hC.sub T Y Y Y Tryz.isAgg123))<|zf Y<|zcl Y Y (fun _=>zbJ Y Tryz.call56 Y) (fun _ hC=>zbe.quiet hC (zmJ hC.sub f29 f36))<|zf Y<|zmc Y Y<|zZ Y<|zbl ?_;rintro d7 ⟨b4,b5⟩;have a0:=F.call0 b5;refine zz ?_;refine zap Y (fun c8=>?_) (fun c8=>?_)
  ·refine zx<|zd Y<|zj<|zan<|zJ<|zan<|zk Tryz.results18 ?_;refine ⟨b4,_,Y,a0.done,?_⟩;refine zM ?_;have q:a≠b:=fun e=>zfR hx hy (by rintro rfl;simp_all) (by rw[e]);simp[q]
  refine zbj<|zaF<|za Y<|zy Y zaS<|zc Y<|zb ?_;refine ⟨⟨k+1,b4⟩,⟨rfl,trivial⟩,?_,⟨(B.trans b5.le),a0,?_,?_⟩,?_⟩
  ·exact zaR
  ·first|omega|(simp;omega)
  ·exact zfp he hx hy (by rcases x with ⟨x1,x2⟩;rcases y with ⟨y1,y2⟩;simp_all)
  show a.forms.length-((k+1))<a.forms.length-k;omega
 refine zcC<|zz<|zx<|zd Y<|zj<|zk Tryz.results18 ?_;refine ⟨H,_,Y,F.done,?_⟩;refine zM ?_;have q:=zgt he zU zU
 rcases a with ⟨a1,a2⟩;rcases b with ⟨b1,b2⟩
 simp_all
theorem zll (hs:Sub h w) {a:Volume} (a_f0:Sl zfT h a_v0 a.entries) {b:Volume} (b_f0:Sl zfT h b_v0 b.entries):Calls Tryz.prog 17 #[.agg #[a_v0],.agg #[b_v0]] w (zbe h w (fun _ _ res_=>res_=.bool (decide (a=b)))):=by
 refine zl 32 Tryz.func17 Y<|have b4:=zbM hs;have a7:=a_f0.le;have a8:=b_f0.le;zx<|ze [a_v0] b4 Y<|fun b1 w2 h3 b5 P b6=>ze [b_v0] b6 Y<|fun b7 w8 h9 C I F=>zd Y<|zb<|zat<|U zef Y zfs<|M 0 F.sub (P.up C) zhB Y<|have Q:=b5.t C;zK (a_f0.up Q) zeg Y<|U zef Y zfs<|M 0 F.sub I zhB Y<|zK (b_f0.up Q) zeg Y<|zao Y<|zb ?_;refine zS Y (fun b8=>?_) (fun b8=>?_)
 ·refine zx<|zd Y<|zj<|zJ<|zk Tryz.results17 ?_;refine ⟨h9,_,Y,F.done,?_⟩;refine zM ?_;have q:a≠b:=by
   rintro rfl;simp_all
  simp[q]
 refine zaN<|zx<|zc Y<|zb<|zT ?_;refine zaM ([4,5]++zcp 13 19) (G:=Nat×Heap) (fun ⟨k,B⟩=>[(5,iV (k:Int))]) (fun ⟨k,B⟩ w'=>Le h9 B∧St h w B w' []∧(k≤a.entries.length)∧(a.entries.take k=b.entries.take k)) (fun ⟨k,B⟩=>a.entries.length-k) ⟨0,h9⟩ ⟨rfl,trivial⟩ ⟨Le.refl _,F,zbm,zbm⟩ ?_;rintro ⟨k,B⟩ _ c2 ⟨A,H,hk,he⟩;refine zat<|za Y<|U zef Y zfs<|M 0 H.sub (P.up (C.t A)) zhB Y<|have S:=Q.t A;zK (a_f0.up S) zeg Y<|zN Y<|zb ?_;refine zS Y (fun b9=>?_) (fun b9=>?_)
 ·refine zaN<|zT<|zaH<|zbZ Tryz.mixed zbL (Cls B _) (Cls.drew H)<|zD zef Y zfs<|zp Y (fun _ hC=>(zX (j:=0) hC.sub (P.up (C.t A)) Y Y Y zhB))<|zcW Y Y ?_;obtain ⟨x,hx⟩:∃ y_,(a.entries)[k]?=some y_:=zch zU;obtain ⟨c3,c4,_,a0,a2,hr_x⟩:=Sl.elem (a_f0.up S) hx;obtain ⟨c5,rfl,a3,c0,f28⟩:=hr_x;simp only[big] at a3;have b2:=f28.le;refine zaq a0 zeg zcd Y<|zp Y (fun _ hC=>(zW hC.sub a2 Y zeM zcd Y))<|zD zef Y zfs<|zp Y (fun _ hC=>(zX (j:=0) hC.sub (I.up A) Y Y Y zhB))<|zcW Y Y ?_;obtain ⟨y,hy⟩:∃ y_,(b.entries)[k]?=some y_:=zch zU;obtain ⟨c6,c7,_,a4,a5,hr_y⟩:=Sl.elem (b_f0.up S) hy;obtain ⟨c8,rfl,a6,c1,f36⟩:=hr_y;simp only[big] at a6;have b3:=f36.le;refine zaq a4 zeg zcd Y<|zp Y (fun _ hC=>(zW hC.sub a5 Y zeM zcd Y))<|zcl Y Y (fun _=>zbJ Y Tryz.call18 Y) (fun _ hC=>zbe.quiet hC (zjn hC.sub (a:=x) zbq zdb f28 (b:=y) zbq zdb f36))<|zmc Y Y<|zbl ?_;rintro c9 ⟨a9,b0⟩;have L:=H.call0 b0;refine zz ?_;refine zap Y (fun T=>?_) (fun T=>?_)
  ·refine zx<|zd Y<|zj<|zan<|zJ<|zan<|zk Tryz.results17 ?_;refine ⟨a9,_,Y,L.done,?_⟩;refine zM ?_;have q:a≠b:=fun e=>zfR hx hy (by simpa using T) (by rw[e]);simp[q]
  refine zbj<|zaF<|za Y<|zy Y zaS<|zc Y<|zb ?_;refine ⟨⟨k+1,a9⟩,⟨rfl,trivial⟩,?_,⟨(A.trans b0.le),L,?_,?_⟩,?_⟩
  ·exact zaR
  ·first|omega|(simp;omega)
  ·exact zfp he hx hy (by simpa using T)
  show a.entries.length-((k+1))<a.entries.length-k;omega
 refine zcC<|zz<|zx<|zd Y<|zj<|zk Tryz.results17 ?_;refine ⟨B,_,Y,H.done,?_⟩;refine zM ?_;have q:=zgt he zU zU
 rcases a with ⟨a1⟩;rcases b with ⟨b1⟩
 simp_all
theorem zly (hs:Sub h w) {a:Records} (a_f0:Sl zax h a_v0 a.text.chapters) {a_v1:Value} (a_f1:Sl zeS h a_v1 a.copies) {a_v2:Value} (a_f2:Sl zcS h a_v2 a.lexicon.rules) {a_v3:Value} (a_f3:Sl zau h a_v3 a.lexicon.decisions) {a_v4:Value} (a_f4:Sl zbw h a_v4 a.edition.stretches) (a_l8:0≤a.cut.side∧a.cut.side≤255) {b:Records} (b_f0:Sl zax h b_v0 b.text.chapters) {b_v1:Value} (b_f1:Sl zeS h b_v1 b.copies) {b_v2:Value} (b_f2:Sl zcS h b_v2 b.lexicon.rules) {b_v3:Value} (b_f3:Sl zau h b_v3 b.lexicon.decisions) {b_v4:Value} (b_f4:Sl zbw h b_v4 b.edition.stretches) (b_l8:0≤b.cut.side∧b.cut.side≤255):Calls Tryz.prog 19 #[.agg #[a_v0,a_v1,a_v2,a_v3,iV a.edition.id,a_v4,iV a.cut.width,.int .u8 a.cut.side],.agg #[b_v0,b_v1,b_v2,b_v3,iV b.edition.id,b_v4,iV b.cut.width,.int .u8 b.cut.side]] w (zbe h w (fun _ _ res_=>res_=.bool (decide (a=b)))):=by
 refine zl 63 Tryz.func19 Y<|have e4:=zbM hs;have c5:=a_f0.le;have c6:=a_f1.le;have c7:=a_f2.le;have c8:=a_f3.le;have c9:=a_f4.le;have d0:=b_f0.le;have d1:=b_f1.le;have d2:=b_f2.le;have d3:=b_f3.le;have d4:=b_f4.le;zx<|ze [a_v0,a_v1,a_v2,a_v3,iV (a.edition.id),a_v4,iV (a.cut.width),.int .u8 (a.cut.side)] e4 Y<|fun b1 w2 h3 e5 Q e6=>ze [b_v0,b_v1,b_v2,b_v3,iV (b.edition.id),b_v4,iV (b.cut.width),.int .u8 (b.cut.side)] e6 Y<|fun b7 w8 h9 C F a0=>zd Y<|zb<|zat<|U zah Y zab<|zw 0 [a_v0] a0.sub (Q.up C) zaG zab Y<|U zah Y zab<|zw 0 [b_v0] a0.sub F zaG zab Y<|have b0:=e5.t C;zn a0 Y Tryz.call57 (zpj a0.sub (a:=a.text) (a_f0.up b0) (b:=b.text) (b_f0.up b0)) ?_;intro g8 g9 d5 A B e7;subst e7;refine zcq Y Y<|zt Y ?_;refine zbp (d:=12) Y (fun e8=>?_) (fun e8=>?_)
 ·refine zaf 7 Y<|zi Y<|zt Y<|zaf 6 Y<|zi Y<|zt Y<|zaf 6 Y<|zi Y<|zt Y<|zaf 5 Y ?_;refine zi Y<|zb ?_;refine zap Y (fun d6=>?_) (fun d6=>?_)
  ·refine zx<|zd Y<|zj<|zJ<|zk zih ?_;refine ⟨d5,_,Y,B.done,?_⟩;refine zM ?_;have q:a≠b:=by
    rintro rfl;simp_all
   simp[q]
  cases d6
 refine Z Y<|U zah Y zel<|Z Y<|M 1 B.sub (Q.up (C.t A)) zeF Y<|Z Y<|have S:=b0.t A;zK (a_f1.up S) zcv Y<|Z Y<|U zah Y zel<|Z Y<|M 1 B.sub (F.up A) zeF Y<|Z Y<|zK (b_f1.up S) zcv Y<|Z Y<|zao Y<|zh Y<|zt Y ?_;refine zaC (d:=21) Y (fun e9=>?_) (fun e9=>?_)
 ·refine zaf 6 Y<|zi Y<|zt Y<|zaf 6 Y<|zi Y<|zt Y<|zaf 5 Y<|zi Y<|zb ?_;refine zap Y (fun d7=>?_) (fun d7=>?_)
  ·refine zx<|zd Y<|zj<|zJ<|zk zih ?_;refine ⟨d5,_,Y,B.done,?_⟩;refine zM ?_;have q:a≠b:=by
    rintro rfl;simp_all
   simp[q]
  cases d7
 refine Z Y<|U zah Y zbv<|Z Y<|zw 2 [a_v2,a_v3] B.sub (Q.up (C.t A)) zcG zbv Y<|Z Y<|U zah Y zbv<|Z Y<|zw 2 [b_v2,b_v3] B.sub (F.up A) zcG zbv Y<|Z Y<|zn B Y Tryz.call58 (zpc B.sub (a:=a.lexicon) (a_f2.up S) (a_f3.up S) (b:=b.lexicon) (b_f2.up S) (b_f3.up S))<|fun h0 h1 g0 H I g1=>?_;subst g1;refine Z Y<|zcq Y Y<|zh Y<|zt Y ?_;refine zbp (d:=29) Y (fun g2=>?_) (fun g2=>?_)
 ·refine zaf 6 Y<|zi Y<|zt Y<|zaf 5 Y<|zi Y<|zb ?_;refine zap Y (fun d8=>?_) (fun d8=>?_)
  ·refine zx<|zd Y<|zj<|zJ<|zk zih ?_;refine ⟨g0,_,Y,I.done,?_⟩;refine zM ?_;have q:a≠b:=by
    rintro rfl;simp_all
   simp[q]
  cases d8
 refine Z Y<|U zah Y zbh<|Z Y<|zw 4 [iV (a.edition.id),a_v4] I.sub (Q.up ((C.t A).t H)) zco zbh Y<|Z Y<|U zah Y zbh<|Z Y<|zw 4 [iV (b.edition.id),b_v4] I.sub (F.up (A.t H)) zco zbh Y<|Z Y<|have b6:=S.t H;zn I Y Tryz.call20 (zln I.sub (a:=a.edition) (a_f4.up b6) (b:=b.edition) (b_f4.up b6))<|fun h2 h4 a9 a6 L g3=>?_;subst g3;refine Z Y<|zcq Y Y<|zh Y<|zt Y ?_;refine zbp (d:=37) Y (fun g4=>?_) (fun g4=>?_)
 ·refine zaf 5 Y<|zi Y<|zb ?_;refine zap Y (fun d9=>?_) (fun d9=>?_)
  ·refine zx<|zd Y<|zj<|zJ<|zk zih ?_;refine ⟨a9,_,Y,L.done,?_⟩;refine zM ?_;have q:a≠b:=by
    rintro rfl;simp_all
   simp[q]
  cases d9
 refine Z Y<|U zah Y zgv<|Z Y<|have b8:=((C.t A).t H).t a6;zw 6 [iV (a.cut.width),.int .u8 (a.cut.side)] L.sub (Q.up b8) Tryz.isAgg34 zgv Y<|Z Y<|U zah Y zgv<|Z Y<|zw 6 [iV (b.cut.width),.int .u8 (b.cut.side)] L.sub (F.up ((A.t H).t a6)) Tryz.isAgg34 zgv Y<|Z Y<|zQ Y (ziN Y Y Tryz.eqGuardType34 (Tryz.eq_Cut a.cut b.cut))<|zh Y<|zb ?_;refine zS Y (fun g5=>?_) (fun g5=>?_)
 ·refine zx<|zd Y<|zj<|zJ<|zk zih ?_;refine ⟨a9,_,Y,L.done,?_⟩;refine zM ?_;have q:a≠b:=by
   rintro rfl;simp_all
  simp[q]
 refine zaN<|zx<|zc Y<|zb<|zT ?_;refine zaM ([4,5]++zcp 44 19) (G:=Nat×Heap) (fun ⟨k,T⟩=>[(5,iV (k:Int))]) (fun ⟨k,T⟩ w'=>Le a9 T∧St h w T w' []∧(k≤a.copies.length)∧(a.copies.take k=b.copies.take k)) (fun ⟨k,T⟩=>a.copies.length-k) ⟨0,a9⟩ ⟨rfl,trivial⟩ ⟨Le.refl _,L,zbm,zbm⟩ ?_;rintro ⟨k,T⟩ _ h5 ⟨P,a7,hk,he⟩;refine zat<|za Y<|U zah Y zel<|M 1 a7.sub (Q.up (b8.t P)) zeF Y<|have b9:=(b6.t a6).t P;zK (a_f1.up b9) zcv Y<|zN Y<|zb ?_;refine zS Y (fun g6=>?_) (fun g6=>?_)
 ·refine zaN<|zT<|zaH<|zbZ Tryz.mixed zbL (Cls T _) (Cls.drew a7)<|zD zah Y zel<|zp Y (fun _ hC=>(zX (j:=1) hC.sub (Q.up (b8.t P)) Y Y Y zeF))<|zcW Y Y ?_;obtain ⟨x,hx⟩:∃ y_,(a.copies)[k]?=some y_:=zch zU;obtain ⟨h6,h7,_,c1,c2,hr_x⟩:=Sl.elem (a_f1.up b9) hx;obtain ⟨h8,rfl,f55⟩:=hr_x;have e2:=f55.le;refine zaq c1 zcv zdP Y<|zp Y (fun _ hC=>(zW hC.sub c2 Y zgG zdP Y))<|zD zah Y zel<|have g7:=((A.t H).t a6).t P;zp Y (fun _ hC=>(zX (j:=1) hC.sub (F.up g7) Y Y Y zeF))<|zcW Y Y ?_;obtain ⟨y,hy⟩:∃ y_,(b.copies)[k]?=some y_:=zch zU;obtain ⟨j0,j1,_,c3,c4,hr_y⟩:=Sl.elem (b_f1.up b9) hy;obtain ⟨j2,rfl,f62⟩:=hr_y;have e3:=f62.le;refine zaq c3 zcv zdP Y<|zp Y (fun _ hC=>(zW hC.sub c4 Y zgG zdP Y))<|zcl Y Y (fun _=>zbJ Y Tryz.call59 Y) (fun _ hC=>zbe.quiet hC (zmO hC.sub (a:=x) f55 (b:=y) f62))<|zmc Y Y<|zbl ?_;rintro j3 ⟨e0,e1⟩;have a8:=a7.call0 e1;refine zz ?_;refine zap Y (fun c0=>?_) (fun c0=>?_)
  ·refine zx<|zd Y<|zj<|zan<|zJ<|zan<|zk zih ?_;refine ⟨e0,_,Y,a8.done,?_⟩;refine zM ?_;have q:a≠b:=fun e=>zfR hx hy (by simpa using c0) (by rw[e]);simp[q]
  refine zbj<|zaF<|za Y<|zy Y zaS<|zc Y<|zb ?_;refine ⟨⟨k+1,e0⟩,⟨rfl,trivial⟩,?_,⟨(P.trans e1.le),a8,?_,?_⟩,?_⟩
  ·exact zaR
  ·first|omega|(simp;omega)
  ·exact zfp he hx hy (by simpa using c0)
  show a.copies.length-((k+1))<a.copies.length-k;omega
 refine zcC<|zz<|zx<|zd Y<|zj<|zk zih ?_;refine ⟨T,_,Y,a7.done,?_⟩;refine zM ?_;have q:=zgt he zU zU
 rcases a with ⟨a1,a2,a3,a4,a5⟩;rcases b with ⟨b1,b2,b3,b4,b5⟩
 simp_all
theorem zom (hs:Sub h w) (r_f0:Sl zax h r_v0 r.text.chapters) (r_f1:Sl zeS h r_v1 r.copies) (r_f2:Sl zcS h r_v2 r.lexicon.rules) (r_f3:Sl zau h r_v3 r.lexicon.decisions) (r_f4:Sl zbw h r_v4 r.edition.stretches) (r_l8:0≤r.cut.side∧r.cut.side≤255):Calls Tryz.prog 5 #[.agg #[r_v0,r_v1,r_v2,r_v3,iV r.edition.id,r_v4,iV r.cut.width,.int .u8 r.cut.side]] w (zbe h w (fun _ _ res_=>res_=.bool ((ziT r)))):=by
 refine zl 36 Tryz.func5 Y<|have c3:=zbM hs;have a7:=r_f0.le;have a8:=r_f1.le;have a9:=r_f2.le;have b0:=r_f3.le;have b2:=r_f4.le;zx<|ze [r_v0,r_v1,r_v2,r_v3,iV (r.edition.id),r_v4,iV (r.cut.width),.int .u8 (r.cut.side)] c3 Y<|fun b1 w2 h3 b3 L a1=>zd Y<|zb<|zat<|U zah Y zab<|zw 0 [r_v0] a1.sub L zaG zab Y<|zn a1 Y Tryz.call35 (zow a1.sub (t:=r.text) (r_f0.up b3))<|fun r7 w8 h9 B C c4=>?_;subst c4;refine zt Y ?_;refine zbp (d:=7) Y (fun c5=>?_) (fun c5=>?_)
 ·refine zaf 3 Y<|zi Y<|zt Y<|zaf 3 Y<|zi Y<|zt Y<|zaf 4 Y<|zi Y<|zb ?_;refine zap Y (fun b4=>?_) (fun b4=>?_)
  ·refine zx<|zd Y<|zj<|zJ<|zk Tryz.results5 ?_;refine ⟨h9,_,Y,C.done,?_⟩;refine zM ?_
   first|(simp_all[ziT];done)|(simp_all[ziT];omega)
  cases b4
 refine Z Y<|U zah Y zbv<|Z Y<|zw 2 [r_v2,r_v3] C.sub (L.up B) zcG zbv Y<|Z Y<|have a2:=b3.t B;zn C Y Tryz.call36 (zoq C.sub (x:=r.lexicon) (r_f2.up a2) (r_f3.up a2))<|fun d4 d5 c6 F H c7=>?_;subst c7;refine zh Y<|zt Y ?_;refine zbp (d:=12) Y (fun c8=>?_) (fun c8=>?_)
 ·refine zaf 3 Y<|zi Y<|zt Y<|zaf 4 Y<|zi Y<|zb ?_;refine zap Y (fun b5=>?_) (fun b5=>?_)
  ·refine zx<|zd Y<|zj<|zJ<|zk Tryz.results5 ?_;refine ⟨c6,_,Y,H.done,?_⟩;refine zM ?_
   first|(simp_all[ziT];done)|(simp_all[ziT];omega)
  cases b5
 refine Z Y<|U zah Y zbh<|Z Y<|zw 4 [iV (r.edition.id),r_v4] H.sub (L.up (B.t F)) zco zbh Y<|Z Y<|have b6:=a2.t F;zn H Y Tryz.call6 (zkF H.sub (e:=r.edition) (r_f4.up b6))<|fun d6 d7 T Q I c9=>?_;subst c9;refine zh Y<|zt Y ?_;refine zbp (d:=17) Y (fun d0=>?_) (fun d0=>?_)
 ·refine zaf 4 Y<|zi Y<|zb ?_;refine zap Y (fun b7=>?_) (fun b7=>?_)
  ·refine zx<|zd Y<|zj<|zJ<|zk Tryz.results5 ?_;refine ⟨T,_,Y,I.done,?_⟩;refine zM ?_
   first|(simp_all[ziT];done)|(simp_all[ziT];omega)
  cases b7
 refine Z Y<|U zah Y zel<|Z Y<|M 1 I.sub (L.up ((B.t F).t Q)) zeF Y<|Z Y<|have b8:=b6.t Q;zK (r_f1.up b8) zcv Y<|Z Y<|zfe Y Y Y<|zh Y<|zb ?_;refine zS Y (fun d1=>?_) (fun d1=>?_)
 ·refine zx<|zd Y<|zj<|zJ<|zk Tryz.results5 ?_;refine ⟨T,_,Y,I.done,?_⟩;refine zM ?_
  first|(simp_all[ziT];done)|(simp_all[ziT];omega)
 refine zaN<|zx<|zc Y<|zb<|zT ?_;refine zaM ([2,3]++zcp 23 13) (G:=Nat×Heap) (fun ⟨k,P⟩=>[(3,iV (k:Int))]) (fun ⟨k,P⟩ w'=>Le T P∧St h w P w' []∧(k≤r.copies.length)∧((r.copies.take k).any zkB=false)) (fun ⟨k,P⟩=>r.copies.length-k) ⟨0,T⟩ ⟨rfl,trivial⟩ ⟨Le.refl _,I,zbm,(by rfl)⟩ ?_;rintro ⟨k,P⟩ _ d8 ⟨S,A,hk,hA⟩;refine zat<|za Y<|U zah Y zel<|have b9:=((B.t F).t Q).t S;M 1 A.sub (L.up b9) zeF Y<|have c0:=b8.t S;zK (r_f1.up c0) zcv Y<|zN Y<|zb ?_;refine zS Y (fun d2=>?_) (fun d2=>?_)
 ·refine zaN<|zT<|zx<|U zah Y zel<|M 1 A.sub (L.up b9) zeF Y<|za Y ?_;obtain ⟨c,hc⟩:∃ y_,(r.copies)[k]?=some y_:=zch zU;obtain ⟨d9,e0,_,a4,a5,hr_c⟩:=Sl.elem (r_f1.up c0) hc;obtain ⟨e1,rfl,f47⟩:=hr_c;have c2:=f47.le;refine zL a4 zcv zdP Y<|zg A.sub a5 zgG zdP Y<|zn A Y Tryz.call37 (zml A.sub (c:=c) f47)<|fun e2 e3 c1 a6 a0 d3=>?_;subst d3;refine zb ?_;refine zap Y (fun a3=>?_) (fun a3=>?_)
  ·refine zx<|zd Y<|zj<|zan<|zJ<|zan<|zk Tryz.results5 ?_;refine ⟨c1,_,Y,a0.done,?_⟩;refine zM ?_;have q_:r.copies.any zkB=true:=List.any_eq_true.2 ⟨c,List.mem_of_getElem? hc,by simpa using a3⟩;simp[ziT,q_]
  refine zbj<|zaF<|za Y<|zy Y zaS<|zc Y<|zb ?_;refine ⟨⟨k+1,c1⟩,⟨rfl,trivial⟩,?_,⟨(S.t a6),a0,?_,?_⟩,?_⟩
  ·exact zaR
  ·first|omega|(simp;omega)
  ·rw[zmo hc,hA,Bool.false_or];simpa using a3
  show r.copies.length-((k+1))<r.copies.length-k;omega
 refine zcC<|zz<|zx<|zd Y<|zj<|zk Tryz.results5 ?_;refine ⟨P,_,Y,A.done,?_⟩;refine zM ?_;rw[List.take_of_length_le zU] at hA;have h8_:¬ 8<r.copies.length:=by omega
 simp only[ziT,hA,decide_eq_false h8_,Bool.or_false];simp_all
theorem zoY (hs:Sub h w) (r_f0:Sl zax h r_v0 r.text.chapters) (r_f1:Sl zeS h r_v1 r.copies) (r_f2:Sl zcS h r_v2 r.lexicon.rules) (r_f3:Sl zau h r_v3 r.lexicon.decisions) (r_f4:Sl zbw h r_v4 r.edition.stretches) (r_l8:0≤r.cut.side∧r.cut.side≤255) (hg:ziT r=false):Calls Tryz.prog 7 #[.agg #[r_v0,r_v1,r_v2,r_v3,iV r.edition.id,r_v4,iV r.cut.width,.int .u8 r.cut.side]] w (zbe h w (fun h' _ res_=>∃ u0 u1 u2 u3 u4,res_=.agg #[u0,u1,u2,u3,iV (r).edition.id,u4,iV (r).cut.width,.int .u8 (r).cut.side]∧Sl zax h' u0 (r).text.chapters∧Sl zeS h' u1 (r).copies∧Sl zcS h' u2 (r).lexicon.rules∧Sl zau h' u3 (r).lexicon.decisions∧Sl zbw h' u4 (r).edition.stretches)):=by
 refine zl 36 Tryz.func7 Y<|have j5:=zbM hs;have h1:=r_f0.le;have h2:=r_f1.le;have h4:=r_f2.le;have h5:=r_f3.le;have h6:=r_f4.le;have hgn:=zsG hg;zx<|ze [r_v0,r_v1,r_v2,r_v3,iV (r.edition.id),r_v4,iV (r.cut.width),.int .u8 (r.cut.side)] j5 Y<|fun b1 w2 h3 b8 S j6=>zad j6 Tryz.zeroValue36 Y Y<|fun b7 w8 j7=>zb<|zaH<|zba (er:=([],[],[],[],0)) (dsts:=[5,6,7,8,9,10,11,12,13,14,15,16,3]) j7 Tryz.mixed<|zF (zm zah Y zab)<|zam (fun T wD B F C hO _ _=>(zaU 0 [r_v0] (F.sub C) S zaG zab Y)) ?_;refine zaT (.res (fun h' res_=>∃ gv2_0,res_=.agg #[gv2_0]∧Sl zax h' gv2_0 ((r.text)).chapters) (by rintro _ _ _ hl ⟨gv2_0,e_,gf2_0⟩;exact ⟨gv2_0,e_,gf2_0.up hl⟩)) ?_ ?_
 ·intro T wD B F C hO _ _;have b9:=St.start C;refine zaD b9 rfl rfl rfl Tryz.call38 rfl (zpi b9.sub (t:=r.text) (r_f0.up (b8.trans F)) (by exact hgn.1)) ?_;intro l7 l8 l9 k6 e3 j8;obtain ⟨m0,rfl,f18⟩:=j8;have h9:=f18.le;exact zB ⟨_,_,Y,e3,_,Y,⟨_,Y,f18⟩⟩
 refine zF (zm zah Y zbv)<|zam (fun T wD B F C hO _ _=>(zaU 2 [r_v2,r_v3] (F.sub C) S zcG zbv Y)) ?_;refine zaT (.res (fun h' res_=>∃ gv5_0 gv5_1,res_=.agg #[gv5_0,gv5_1]∧Sl zcS h' gv5_0 ((r.lexicon)).rules∧Sl zau h' gv5_1 ((r.lexicon)).decisions) (by rintro _ _ _ hl ⟨gv5_0,gv5_1,e_,gf5_0,gf5_1⟩;exact ⟨gv5_0,gv5_1,e_,gf5_0.up hl,gf5_1.up hl⟩)) ?_ ?_
 ·intro T wD B F C hO _ _ gv2_ gf2_;obtain ⟨gv2_0,rfl,gf2_0⟩:=gf2_;have c0:=St.start C;refine zaD c0 rfl rfl rfl Tryz.call39 rfl (zpb c0.sub (x:=r.lexicon) (r_f2.up (b8.trans F)) (r_f3.up (b8.trans F)) (by exact hgn.2.1)) ?_;intro m1 m2 m3 k7 e4 j9;obtain ⟨m4,m5,rfl,f27,f29⟩:=j9;have j0:=f27.le;have j1:=f29.le;exact zB ⟨_,_,Y,e4,_,Y,⟨_,_,Y,f27,f29⟩⟩
 refine zF (zm zah Y zbh)<|zam (fun T wD B F C hO _ _=>(zaU 4 [iV (r.edition.id),r_v4] (F.sub C) S zco zbh Y)) ?_;refine zaT (.res (fun h' res_=>∃ gv8_0,res_=.agg #[iV ((r.edition)).id,gv8_0]∧Sl zbw h' gv8_0 ((r.edition)).stretches) (by rintro _ _ _ hl ⟨gv8_0,e_,gf8_0⟩;exact ⟨gv8_0,e_,gf8_0.up hl⟩)) ?_ ?_
 ·intro T wD B F C hO _ _ gv5_ gf5_;obtain ⟨gv5_0,gv5_1,rfl,gf5_0,gf5_1⟩:=gf5_;have c1:=St.start C;refine zaD c1 rfl rfl rfl Tryz.call8 rfl (zlm c1.sub (e:=r.edition) (r_f4.up (b8.trans F)) (by exact hgn.2.2.1)) ?_;intro m6 m7 m8 k8 e5 k0;obtain ⟨m9,rfl,f38⟩:=k0;have j2:=f38.le;exact zB ⟨_,_,Y,e5,_,Y,⟨_,Y,f38⟩⟩
 refine zF (zm zah Y zgv)<|zam (fun T wD B F C hO _ _=>(zaU 6 [iV (r.cut.width),.int .u8 (r.cut.side)] (F.sub C) S Tryz.isAgg34 zgv Y)) ?_;refine zaT (.res (fun h' res_=>∃ gv11_0 gv11_1 gv11_2 gv11_3,res_=.agg #[gv11_0,(.slice none 0 0),gv11_1,gv11_2,iV ((Records.mk (Text.mk (((r.text)).chapters)) [] (Lexicon.mk (((r.lexicon)).rules) (((r.lexicon)).decisions)) (Edition.mk (((r.edition)).id) (((r.edition)).stretches)) (Cut.mk (r.cut.width) (r.cut.side)))).edition.id,gv11_3,iV ((Records.mk (Text.mk (((r.text)).chapters)) [] (Lexicon.mk (((r.lexicon)).rules) (((r.lexicon)).decisions)) (Edition.mk (((r.edition)).id) (((r.edition)).stretches)) (Cut.mk (r.cut.width) (r.cut.side)))).cut.width,.int .u8 ((Records.mk (Text.mk (((r.text)).chapters)) [] (Lexicon.mk (((r.lexicon)).rules) (((r.lexicon)).decisions)) (Edition.mk (((r.edition)).id) (((r.edition)).stretches)) (Cut.mk (r.cut.width) (r.cut.side)))).cut.side]∧Sl zax h' gv11_0 ((Records.mk (Text.mk (((r.text)).chapters)) [] (Lexicon.mk (((r.lexicon)).rules) (((r.lexicon)).decisions)) (Edition.mk (((r.edition)).id) (((r.edition)).stretches)) (Cut.mk (r.cut.width) (r.cut.side)))).text.chapters∧Sl zcS h' gv11_1 ((Records.mk (Text.mk (((r.text)).chapters)) [] (Lexicon.mk (((r.lexicon)).rules) (((r.lexicon)).decisions)) (Edition.mk (((r.edition)).id) (((r.edition)).stretches)) (Cut.mk (r.cut.width) (r.cut.side)))).lexicon.rules∧Sl zau h' gv11_2 ((Records.mk (Text.mk (((r.text)).chapters)) [] (Lexicon.mk (((r.lexicon)).rules) (((r.lexicon)).decisions)) (Edition.mk (((r.edition)).id) (((r.edition)).stretches)) (Cut.mk (r.cut.width) (r.cut.side)))).lexicon.decisions∧Sl zbw h' gv11_3 ((Records.mk (Text.mk (((r.text)).chapters)) [] (Lexicon.mk (((r.lexicon)).rules) (((r.lexicon)).decisions)) (Edition.mk (((r.edition)).id) (((r.edition)).stretches)) (Cut.mk (r.cut.width) (r.cut.side)))).edition.stretches) (by rintro _ _ _ hl ⟨gv11_0,gv11_1,gv11_2,gv11_3,e_,gf11_0,gf11_1,gf11_2,gf11_3⟩;exact ⟨gv11_0,gv11_1,gv11_2,gv11_3,e_,gf11_0.up hl,gf11_1.up hl,gf11_2.up hl,gf11_3.up hl⟩)) ?_ ?_
 ·intro T wD B F C hO gv2_ gf2_ gv5_ gf5_ gv8_ gf8_ _ _;obtain ⟨gv2_0,rfl,gf2_0⟩:=gf2_;obtain ⟨gv5_0,gv5_1,rfl,gf5_0,gf5_1⟩:=gf5_;obtain ⟨gv8_0,rfl,gf8_0⟩:=gf8_;have e6:=St.start C;refine zar rfl rfl (zce (cs:=[gv2_0,(.slice none 0 0),gv5_0,gv5_1,iV ((r.edition)).id,gv8_0,iV (r.cut.width),.int .u8 (r.cut.side)]) (by obtain ⟨_,_,rfl⟩:=Sl.form gf2_0;obtain ⟨_,_,rfl⟩:=Sl.form gf5_0;obtain ⟨_,_,rfl⟩:=Sl.form gf5_1;obtain ⟨_,_,rfl⟩:=Sl.form gf8_0;kernel_rfl)) ?_;exact zB ⟨_,_,Y,e6,_,Y,⟨_,_,_,_,Y,gf2_0,gf5_0,gf5_1,gf8_0⟩⟩
 refine zil Tryz.zeroValue36 Y<|zbC<|zck<|fun k1=>fun k9 o0 _ b4 e7 _ _ _ _ d5 a3 _ _ _ _ d6 a4 _ _ _ _ d7 a5 _ _ _ _ d2 a0=>?_;obtain ⟨gv2_0x41,rfl,gf2_0x41⟩:=a3;obtain ⟨gv5_0x41,gv5_1x41,rfl,gf5_0x41,gf5_1x41⟩:=a4;obtain ⟨gv8_0x41,rfl,gf8_0x41⟩:=a5;obtain ⟨gv11_0x41,gv11_1x41,gv11_2x41,gv11_3x41,rfl,gf11_0x41,gf11_1x41,gf11_2x41,gf11_3x41⟩:=a0;refine zbE e7 (k:=1) Y Y Y (zaX gf11_0x41.one (zaX Y (zaX gf11_1x41.one (zaX gf11_2x41.one (zaX Y (zaX gf11_3x41.one Y)))))) zbR Y Y Y<|fun o1 e8=>?_;refine zB ⟨undef,Y,_,_,Le.refl _,e8,?_⟩;intro b5 o2 _ H e9 _ _ _ _ d8 a6 _ _ _ _ d9 a7 _ _ _ _ e0 a8 _ _ _ _ d3 a1;obtain ⟨gv2_0x52,rfl,gf2_0x52⟩:=a6;obtain ⟨gv5_0x52,gv5_1x52,rfl,gf5_0x52,gf5_1x52⟩:=a7;obtain ⟨gv8_0x52,rfl,gf8_0x52⟩:=a8;obtain ⟨gv11_0x52,gv11_1x52,gv11_2x52,gv11_3x52,rfl,gf11_0x52,gf11_1x52,gf11_2x52,gf11_3x52⟩:=a1;refine zbk.fin Y<|zz<|zat<|zc Y<|zb<|zT ?_;have g0:=e9.snoc;have f57:=OSl.nil zeS 97 b5;refine zaM ([4]++zcp 17 18) (G:=Nat×Value×List (Nat×Obj)×Heap) (fun ⟨i,v_c1_1,o_c1_1,b6⟩=>[(4,iV (i:Int))]) (fun ⟨i,v_c1_1,o_c1_1,b6⟩ w'=>Le b5 b6∧St h w b6 w' [[(b7,.cells (List.toArray [(.slice none 0 0),(.slice none 0 0),(.slice none 0 0),(.slice none 0 0),iV 0,(.slice none 0 0),iV 0,.int .u8 0]) 36)],[(k1,.cells (List.toArray [gv11_0x41,v_c1_1,gv11_1x41,gv11_2x41,iV ((Records.mk (Text.mk (((r.text)).chapters)) [] (Lexicon.mk (((r.lexicon)).rules) (((r.lexicon)).decisions)) (Edition.mk (((r.edition)).id) (((r.edition)).stretches)) (Cut.mk (r.cut.width) (r.cut.side)))).edition.id,gv11_3x41,iV ((Records.mk (Text.mk (((r.text)).chapters)) [] (Lexicon.mk (((r.lexicon)).rules) (((r.lexicon)).decisions)) (Edition.mk (((r.edition)).id) (((r.edition)).stretches)) (Cut.mk (r.cut.width) (r.cut.side)))).cut.width,.int .u8 ((Records.mk (Text.mk (((r.text)).chapters)) [] (Lexicon.mk (((r.lexicon)).rules) (((r.lexicon)).decisions)) (Edition.mk (((r.edition)).id) (((r.edition)).stretches)) (Cut.mk (r.cut.width) (r.cut.side)))).cut.side]) 36)],o_c1_1]∧(OSl zeS 97 b6 v_c1_1 ((r.copies.take i)) o_c1_1)∧(i≤r.copies.length)) (fun ⟨i,v_c1_1,o_c1_1,b6⟩=>r.copies.length-i) ⟨0,(.slice none 0 0),[],b5⟩ ⟨rfl,trivial⟩ ⟨Le.refl _,g0,(OSl.to f57 (by rfl)),zbm⟩ ?_;rintro ⟨i,v_c1_1,o_c1_1,b6⟩ _ o3 ⟨A,Q,hO_c1_1,hi⟩;refine zaH<|zaH<|have o4:=hgn.2.2.2.1;zag<|za Y<|U zah Y zel<|M 1 Q.sub (S.up ((b4.t H).t A)) zeF Y<|have h7:=((b8.t b4).t H).t A;zK (r_f1.up h7) zcv Y<|zN Y<|zb ?_;refine zS Y (fun k2=>?_) (fun k2=>?_)
 ·refine zaN<|zT ?_;obtain ⟨c,hc⟩:∃ y_,(r.copies)[i]?=some y_:=zch zU;obtain ⟨o5,o6,_,g1,g2,hr_c⟩:=Sl.elem (r_f1.up h7) hc;obtain ⟨o7,rfl,f66⟩:=hr_c;have j3:=f66.le;refine zba (er:=([1],[],[],[],0)) (dsts:=[24,25,26,27,28,29,30,31,32,33,34]) Q Tryz.mixed<|zF (zm zah Y zel)<|zam (fun T wD B F C hO _ _=>(zji ((hO Y).get (k:=1) Y) Y Y zeF))<|zF (zm zah Y zel)<|zam (fun T wD B F C hO _ _=>(zr 1 (F.sub C) (S.up ((b4.t H).t A)) zeF Y))<|zF (zeH Y)<|zF (zcB g1 zcv zdP Y)<|zam (fun T wD B F C hO _ _=>(zW (F.sub C) g2 Y zgG zdP Y)) ?_;refine zaT (.res (fun h' res_=>∃ gv7_0,res_=.agg #[iV ((c)).id,gv7_0]∧Sl zdS h' gv7_0 ((c)).readings) (by rintro _ _ _ hl ⟨gv7_0,e_,gf7_0⟩;exact ⟨gv7_0,e_,gf7_0.up hl⟩)) ?_ ?_
  ·intro T wD B F C hO _ _;have c2:=St.start C;refine zaD c2 rfl rfl rfl Tryz.call40 rfl (zmN c2.sub (c:=c) (f66.up F) (by have q_:=hgn.2.2.2.2 c (List.mem_of_getElem? hc);simp only[zkB,Bool.or_eq_false_iff,decide_eq_false_iff_not] at q_;omega)) ?_;intro o8 o9 p0 l0 g3 k3;obtain ⟨p1,rfl,f75⟩:=k3;have j4:=f75.le;exact zB ⟨_,_,Y,g3,_,Y,⟨_,Y,f75⟩⟩
  refine zaT (.res (fun h' res_=>Sl zeS h' res_ ([(c)])) (fun _ _ _ hl f=>f.up hl)) ?_ ?_
  ·intro T wD B F C hO gv7_ gf7_;obtain ⟨gv7_0,rfl,gf7_0⟩:=gf7_;have g4:=St.start C;refine zA zeS [(c)] [iV ((c)).id,gv7_0] g4 (Enc.cons (L:=zeS) (vs:=[iV ((c)).id,gv7_0]) (x:=(c)) (h:=T) (⟨_,Y,gf7_0⟩) Enc.nil) Y zcv Tryz.info97 zbL<|fun p2 p3 p4 l1 f79 g5=>?_;exact zB ⟨_,_,Y,g5,_,Y,f79⟩
  refine zbC<|zF (zm zah Y zel)<|zbC<|zck<|fun l2 p5 _ c3 g6 _ _ gv8_0x83 gf8_0x83 e1 a9=>?_;obtain ⟨gv7_0x83,rfl,gf7_0x83⟩:=a9;refine zaO (k:=2) (nb:=32) g6 (hO_c1_1.up c3) rfl gf8_0x83 rfl rfl rfl zcv Tryz.info97 rfl rfl rfl (by decide) rfl (by simp only[List.length_append,List.length_take,List.length_cons,List.length_nil];omega) (by simp only[List.length_append,List.length_take,List.length_cons,List.length_nil];omega) ?_;intro h8 k4 p6 _ k5 f92 g7;subst k5;refine zB ⟨_,Y,_,_,Le.refl _,g7,?_⟩;intro l3 p7 _ c4 g8 _ _ _ _ _ _ _ _ _ _ _ _ _ _ _ _ e2 b0 gv8_0x94 gf8_0x94;obtain ⟨gv7_0x94,rfl,gf7_0x94⟩:=b0;refine zci g8 (k:=1) Y Y (v:=h8) Y f92.one zel Y Y Y<|fun p8 c5=>?_;refine zB ⟨undef,Y,_,_,Le.refl _,c5,?_⟩;intro c6 l4 _ b2 c7 _ _ _ _ _ _ _ _ _ _ _ _ _ _ d4 a2 gv8_0x105 gf8_0x105 _ _;obtain ⟨gv7_0x105,rfl,gf7_0x105⟩:=a2;refine zbk.fin Y<|zaF<|za Y<|zy Y zaS<|zc Y<|zb ?_;have g9:=((A.t c3).t c4).t b2;refine ⟨⟨i+1,h8,k4,c6⟩,⟨rfl,trivial⟩,?_,⟨g9,c7,?_,?_⟩,?_⟩
  ·exact zaR
  ·refine OSl.to (f92.up (c4.t b2)) ?_;rw[zaQ hc]
  ·first|omega|(simp;omega)
  show r.copies.length-((i+1))<r.copies.length-i;omega
 refine zcC<|zz<|zx<|zcI (Q.get (k:=1) Y) Y zdi zbR Y Y<|zbE Q (k:=0) Y Y Y (zaX gf11_0x41.one (zaX hO_c1_1.one (zaX gf11_1x41.one (zaX gf11_2x41.one (zaX Y (zaX gf11_3x41.one Y)))))) zbR Y Y Y<|fun l5 c8=>?_;obtain ⟨l6,I,c9,b3⟩:=c8.freeze (k:=0) rfl;have d0:=zay.of c9;refine zj<|zdT Tryz.results7 Y zdi zbR Y b3.sub d0 ?_;obtain ⟨h0,P,f116,d1⟩:=OSl.freeze (k:=2) b3 (hO_c1_1.up I) rfl (by simp only[List.length_append,List.length_take,List.length_cons,List.length_nil];omega);refine ⟨h0,_,Y,d1.done,?_⟩;refine ⟨_,_,_,_,_,?_,Sl.to (gf11_0x41.up (((H.t A).t I).t P)) ?_,Sl.to f116 ?_,Sl.to (gf11_1x41.up (((H.t A).t I).t P)) ?_,Sl.to (gf11_2x41.up (((H.t A).t I).t P)) ?_,Sl.to (gf11_3x41.up (((H.t A).t I).t P)) ?_⟩
 all_goals first|rfl|(rw[List.take_of_length_le zU];done)
set_option maxHeartbeats 1000000 in
theorem zmm (hs:Sub h w) (r_f0:Sl zax h r_v0 r.text.chapters) (r_f1:Sl zeS h r_v1 r.copies) (r_f2:Sl zcS h r_v2 r.lexicon.rules) (r_f3:Sl zau h r_v3 r.lexicon.decisions) (r_f4:Sl zbw h r_v4 r.edition.stretches) (r_l8:0≤r.cut.side∧r.cut.side≤255) (x_f0:Sl zbw h x_v0 x.stretches) (hd_l1:hd.stem.length≤281474976710656) (hd_l2:0≤hd.mark∧hd.mark≤255) (K3:zay h 3 0 Tryz.glob3) (K1:zay h 1 0 Tryz.glob1) (K0:zay h 0 0 Tryz.glob0):Calls Tryz.prog 3 #[.agg #[r_v0,r_v1,r_v2,r_v3,iV r.edition.id,r_v4,iV r.cut.width,.int .u8 r.cut.side],.agg #[iV x.id,x_v0],.agg #[zae hd.stem,.int .u8 hd.mark]] w (zbe h w (fun _ _ res_=>res_=.bool (true))):=by
 refine zl 116 Tryz.func3 Y<|have y1:=zbM hs;have v5:=r_f0.le;have v6:=r_f1.le;have v7:=r_f2.le;have v8:=r_f3.le;have v9:=r_f4.le;have w0:=x_f0.le;zx<|ze [r_v0,r_v1,r_v2,r_v3,iV (r.edition.id),r_v4,iV (r.cut.width),.int .u8 (r.cut.side)] y1 Y<|fun b1 w2 h3 y2 d7 y3=>ze [iV (x.id),x_v0] y3 Y<|fun b7 w8 h9 d8 c4 o3=>ze [zae (hd.stem),.int .u8 (hd.mark)] o3 Y<|fun E7 E8 E9 b5 d9 e0=>zd Y<|zb<|zat<|zg e0.sub (d7.up (d8.t b5)) zdi zbR Y<|have e3:=(y2.t d8).t b5;zn e0 Y Tryz.call5 (zom e0.sub (r:=r) (r_f0.up e3) (r_f1.up e3) (r_f2.up e3) (r_f3.up e3) (r_f4.up e3) zdb)<|fun F0 F1 y4 a7 c5 y5=>?_;subst y5;refine zt Y ?_;refine zbp (d:=23) Y (fun w9=>?_) (fun w9=>?_)
 ·refine zaf 2 Y<|zi Y<|zt Y<|zaf 4 Y<|zi Y<|zb ?_;refine zap Y (fun x0=>?_) (fun x0=>?_)
  ·refine zx<|zd Y<|zj<|zJ<|zk zfY ?_;refine ⟨y4,_,Y,c5.done,?_⟩;refine zM ?_
   all_goals first|rfl|(simp_all;done)
  cases x0
 refine Z Y<|zg c5.sub (c4.up (b5.t a7)) zco zbh Y<|Z Y<|have d6:=e3.t a7;zn c5 Y Tryz.call6 (zkF c5.sub (e:=x) (x_f0.up d6))<|fun F2 F3 x1 a3 c6 y6=>?_;subst y6;refine zh Y<|zt Y ?_;refine zbp (d:=27) Y (fun x2=>?_) (fun x2=>?_)
 ·refine zaf 4 Y<|zi Y<|zb ?_;refine zap Y (fun x3=>?_) (fun x3=>?_)
  ·refine zx<|zd Y<|zj<|zJ<|zk zfY ?_;refine ⟨x1,_,Y,c6.done,?_⟩;refine zM ?_
   all_goals first|rfl|(simp_all;done)
  cases x3
 refine Z Y<|U zcU Y zaj<|Z Y<|M 0 c6.sub (d9.up (a7.t a3)) zaK Y<|Z Y<|zdG Y zbx Y<|Z Y<|zfe Y Y Y<|zh Y<|zb ?_;refine zS Y (fun y7=>?_) (fun y7=>?_)
 ·refine zx<|zd Y<|zj<|zJ<|zk zfY ?_;refine ⟨x1,_,Y,c6.done,?_⟩;refine zM ?_
  all_goals first|rfl|(simp_all;done)
 refine zaN ?_;have hg:ziT r=false:=by simpa using w9
 have o4:x.stretches.length≤20:=by have q_:=x2;simp at q_;omega
 have z0:=(zsG hg).2.2.1;have x4:=((d8.t b5).t a7).t a3;refine zba (er:=([],[],[],[],0)) (dsts:=[33,34,35,36,7,8]) c6 Tryz.mixed<|zam (fun hD wD o2 hL hS hO=>(zW (hL.sub hS) (d7.up x4) Y zdi zbR Y)) ?_;refine zaT (.res (fun h' res_=>∃ gv1_0 gv1_1 gv1_2 gv1_3 gv1_4,res_=.agg #[gv1_0,gv1_1,gv1_2,gv1_3,iV ((r)).edition.id,gv1_4,iV ((r)).cut.width,.int .u8 ((r)).cut.side]∧Sl zax h' gv1_0 ((r)).text.chapters∧Sl zeS h' gv1_1 ((r)).copies∧Sl zcS h' gv1_2 ((r)).lexicon.rules∧Sl zau h' gv1_3 ((r)).lexicon.decisions∧Sl zbw h' gv1_4 ((r)).edition.stretches) (by rintro _ _ _ hl ⟨gv1_0,gv1_1,gv1_2,gv1_3,gv1_4,e_,gf1_0,gf1_1,gf1_2,gf1_3,gf1_4⟩;exact ⟨gv1_0,gv1_1,gv1_2,gv1_3,gv1_4,e_,gf1_0.up hl,gf1_1.up hl,gf1_2.up hl,gf1_3.up hl,gf1_4.up hl⟩)) ?_ ?_
 ·intro hD wD o2 hL hS hO _ _;have e5:=St.start hS;refine zaD e5 rfl rfl rfl Tryz.call7 rfl (zoY e5.sub (r:=r) (r_f0.up ((d6.t a3).trans hL)) (r_f1.up ((d6.t a3).trans hL)) (r_f2.up ((d6.t a3).trans hL)) (r_f3.up ((d6.t a3).trans hL)) (r_f4.up ((d6.t a3).trans hL)) zdb (by exact hg)) ?_;intro F4 F5 F6 z1 o5 y8;obtain ⟨F7,F8,F9,G0,G1,rfl,f47,f49,f51,f53,f55⟩:=y8;have x5:=f47.le;have x6:=f49.le;have x7:=f51.le;have x8:=f53.le;have x9:=f55.le;exact zB ⟨_,_,Y,o5,_,Y,⟨_,_,_,_,_,Y,f47,f49,f51,f53,f55⟩⟩
 refine zam (fun hD wD o2 hL hS hO=>(zW (hL.sub hS) (c4.up ((b5.t a7).t a3)) Y zco zbh Y)) ?_;refine zaT (.res (fun h' res_=>∃ gv3_0,res_=.agg #[iV ((x)).id,gv3_0]∧Sl zbw h' gv3_0 ((x)).stretches) (by rintro _ _ _ hl ⟨gv3_0,e_,gf3_0⟩;exact ⟨gv3_0,e_,gf3_0.up hl⟩)) ?_ ?_
 ·intro hD wD o2 hL hS hO _ _ gv1_ gf1_;obtain ⟨gv1_0,gv1_1,gv1_2,gv1_3,gv1_4,rfl,gf1_0,gf1_1,gf1_2,gf1_3,gf1_4⟩:=gf1_;have e6:=St.start hS;refine zaD e6 rfl rfl rfl Tryz.call8 rfl (zlm e6.sub (e:=x) (x_f0.up ((d6.t a3).trans hL)) (by exact o4)) ?_;intro G2 G3 G4 z2 o6 y9;obtain ⟨G5,rfl,f64⟩:=y9;have y0:=f64.le;exact zB ⟨_,_,Y,o6,_,Y,⟨_,Y,f64⟩⟩
 refine zil Tryz.zeroValue36 Y<|zil Tryz.zeroValue32 Y<|zbC<|zbC<|zck<|fun G6=>fun G7=>fun z3 G8 _ c7 o7 m6 d0 _ _ m7 d1=>?_;obtain ⟨gv3_0x67,rfl,gf3_0x67⟩:=d0;obtain ⟨gv1_0x67,gv1_1x67,gv1_2x67,gv1_3x67,gv1_4x67,rfl,gf1_0x67,gf1_1x67,gf1_2x67,gf1_3x67,gf1_4x67⟩:=d1;refine zbE o7 (k:=0) Y Y Y (zaX gf1_0x67.one (zaX gf1_1x67.one (zaX gf1_2x67.one (zaX gf1_3x67.one (zaX Y (zaX gf1_4x67.one Y)))))) zbR Y Y Y<|fun G9 o8=>?_;obtain ⟨H0,b6,o9,p0⟩:=o8.freeze (k:=0) rfl;have c2:=zay.of o9;refine zB ⟨undef,Y,_,_,b6,p0,?_⟩;intro z4 H1 _ a8 p1 _ _ m8 d2 _ _ m9 d3;obtain ⟨gv1_0x79,gv1_1x79,gv1_2x79,gv1_3x79,gv1_4x79,rfl,gf1_0x79,gf1_1x79,gf1_2x79,gf1_3x79,gf1_4x79⟩:=d2;obtain ⟨gv3_0x79,rfl,gf3_0x79⟩:=d3;refine zbE p1 (k:=1) Y Y Y (zaX Y (zaX gf3_0x79.one zdv)) zbh Y Y Y<|fun H2 p2=>?_;obtain ⟨H3,a5,p3,p4⟩:=p2.freeze (k:=1) rfl;have e7:=zay.of p3;refine zB ⟨undef,Y,_,_,a5,p4,?_⟩;intro p5 H4 _ a6 p6 _ _ o0 d4 _ _ o1 d5;obtain ⟨gv1_0x95,gv1_1x95,gv1_2x95,gv1_3x95,gv1_4x95,rfl,gf1_0x95,gf1_1x95,gf1_2x95,gf1_3x95,gf1_4x95⟩:=d4;obtain ⟨gv3_0x95,rfl,gf3_0x95⟩:=d5;refine zbk.fin Y<|zz<|zaH ?_;have e1:St h w p5 _ [[],[]]:=p6;refine zag<|zg e1.sub (c2.up ((a8.t a5).t a6)) zdi zbR Y ?_;have e4:=((b6.t a8).t a5).t a6;have m5:=(((((d6.t a3).t c7).t b6).t a8).t a5).t a6;refine zaD e1 rfl rfl rfl Tryz.call9 rfl (zwA e1.sub (r:=(r)) (gf1_0x67.up e4) (gf1_1x67.up e4) (gf1_2x67.up e4) (gf1_3x67.up e4) (gf1_4x67.up e4) zdb (K3.up m5) (K1.up m5) (K0.up m5) zU) ?_;intro H5 z5 z6 a2 g8 p7;obtain ⟨z7,rfl,f106⟩:=p7;have w1:=f106.le;refine zdy Y Y<|zaL (.agg (List.toArray _)) Y<|zR Y<|zad g8 zey Y Y<|fun z8 z9 g9=>zbE g9 (k:=2) Y Y Y (zaX f106.one zdv) zcj Y Y Y<|fun A0 h0=>?_;obtain ⟨p8,a1,h1,h2⟩:=h0.freeze (k:=2) rfl;have h4:=zay.of h1;refine zc Y<|zb<|zaH ?_;have c3:St h w p8 _ [[],[],[]]:=h2;refine zag<|have e8:=((((((x4.t c7).t b6).t a8).t a5).t a6).t a2).t a1;zg c3.sub (d7.up e8) zdi zbR Y<|have b8:=(m5.t a2).t a1;zn c3 Y Tryz.call10 (zoZ c3.sub (r:=r) (r_f0.up b8) (r_f1.up b8) (r_f2.up b8) (r_f3.up b8) (r_f4.up b8) zdb)<|fun A1 A2 A3 T h5 p9=>?_;obtain ⟨A4,rfl,f127⟩:=p9;have w3:=f127.le;refine zdy Y Y<|zaL (.agg (List.toArray _)) Y<|zR Y<|zad h5 zey Y Y<|fun A5 A6 h6=>zbE h6 (k:=3) Y Y Y (zaX f127.one zdv) zcj Y Y Y<|fun A7 h7=>?_;obtain ⟨q0,Q,h8,j0⟩:=h7.freeze (k:=3) rfl;have j1:=zay.of h8;refine zc Y<|zb<|zaH ?_;have b0:St h w q0 _ [[],[],[],[]]:=j0;refine zag<|have e9:=(((((a8.t a5).t a6).t a2).t a1).t T).t Q;zg b0.sub (c2.up e9) zdi zbR Y<|have g0:=(((a6.t a2).t a1).t T).t Q;zg b0.sub (e7.up g0) zco zbh Y ?_;have b9:=(((e4.t a2).t a1).t T).t Q;have g1:=((((a5.t a6).t a2).t a1).t T).t Q;have c8:=(b8.t T).t Q;refine zaD b0 rfl rfl rfl Tryz.call11 rfl (zzc b0.sub (r:=(r)) (gf1_0x67.up b9) (gf1_1x67.up b9) (gf1_2x67.up b9) (gf1_3x67.up b9) (gf1_4x67.up b9) zdb (x:=(x)) (gf3_0x79.up g1) (K3.up c8) (K1.up c8) (K0.up c8) zU zU) ?_;intro A8 A9 B0 P j2 q1;obtain ⟨B1,rfl,f151⟩:=q1;have w4:=f151.le
 refine zdy Y Y<|zaL (.agg (List.toArray _)) Y<|zR Y<|zad j2 zey Y Y<|fun B2 B3 j3=>zbE j3 (k:=4) Y Y Y (zaX f151.one zdv) zcj Y Y Y<|fun B4 j4=>?_;obtain ⟨q2,L,j5,j6⟩:=j4.freeze (k:=4) rfl;have j7:=zay.of j5;refine zc Y<|zb<|zaH ?_;have b2:St h w q2 _ [[],[],[],[],[]]:=j6;refine zag<|have g2:=(((e8.t T).t Q).t P).t L;zg b2.sub (d7.up g2) zdi zbR Y<|have g3:=((((((((((((b5.t a7).t a3).t c7).t b6).t a8).t a5).t a6).t a2).t a1).t T).t Q).t P).t L;zg b2.sub (c4.up g3) zco zbh Y<|have a9:=(c8.t P).t L;zn b2 Y Tryz.call12 (zqF b2.sub (r:=r) (r_f0.up a9) (r_f1.up a9) (r_f2.up a9) (r_f3.up a9) (r_f4.up a9) zdb (x:=x) (x_f0.up a9))<|fun B5 B6 B7 I j8 q3=>?_;obtain ⟨B8,rfl,f173⟩:=q3;have w5:=f173.le;refine zdy Y Y<|zaL (.agg (List.toArray _)) Y<|zR Y<|zad j8 zey Y Y<|fun B9 C0 j9=>zbE j9 (k:=5) Y Y Y (zaX f173.one zdv) zcj Y Y Y<|fun C1 k0=>?_;obtain ⟨q4,H,k1,k2⟩:=k0.freeze (k:=5) rfl;have k3:=zay.of k1;refine zc Y<|zb<|zaH ?_;have b3:St h w q4 _ [[],[],[],[],[],[]]:=k2;refine zag<|have g4:=(((e9.t P).t L).t I).t H;zg b3.sub (c2.up g4) zdi zbR Y<|have g5:=(((((((((((((a7.t a3).t c7).t b6).t a8).t a5).t a6).t a2).t a1).t T).t Q).t P).t L).t I).t H;zg b3.sub (d9.up g5) zbr zac Y ?_;have c0:=(((b9.t P).t L).t I).t H;have c9:=(a9.t I).t H;refine zaD b3 rfl rfl rfl Tryz.call13 rfl (zzb b3.sub (r:=(r)) (gf1_0x67.up c0) (gf1_1x67.up c0) (gf1_2x67.up c0) (gf1_3x67.up c0) (gf1_4x67.up c0) zdb (hd:=hd) zbq zdb (K3.up c9) (K1.up c9) (K0.up c9) zU) ?_;intro C2 C3 C4 F k4 q5;obtain ⟨C5,rfl,f196⟩:=q5;have w6:=f196.le;refine zdy Y Y<|zaL (.agg (List.toArray _)) Y<|zR Y<|zad k4 zfJ Y Y<|fun C6 C7 k5=>zbE k5 (k:=6) Y Y Y (zaX Y (zaX Y (zaX f196.one zdv))) zcd Y Y Y<|fun C8 k6=>?_;obtain ⟨q6,C,k7,k8⟩:=k6.freeze (k:=6) rfl;have k9:=zay.of k7;refine zc Y<|zb<|zaH ?_;have b4:St h w q6 _ [[],[],[],[],[],[],[]]:=k8;refine zag<|have e2:=(((g2.t I).t H).t F).t C;zg b4.sub (d7.up e2) zdi zbR Y<|zg b4.sub (d9.up ((g5.t F).t C)) zbr zac Y<|have c1:=(c9.t F).t C;zn b4 Y Tryz.call14 (zqE b4.sub (r:=r) (r_f0.up c1) (r_f1.up c1) (r_f2.up c1) (r_f3.up c1) (r_f4.up c1) zdb (hd:=hd) zbq zdb)<|fun C9 D0 D1 B l0 q7=>?_;obtain ⟨D2,rfl,f217⟩:=q7;have w7:=f217.le;refine zdy Y Y<|zaL (.agg (List.toArray _)) Y<|zR Y<|zad l0 zfJ Y Y<|fun D3 D4 l1=>zbE l1 (k:=7) Y Y Y (zaX Y (zaX Y (zaX f217.one zdv))) zcd Y Y Y<|fun D5 l2=>?_;obtain ⟨g6,A,l3,l4⟩:=l2.freeze (k:=7) rfl;have l5:=zay.of l3;refine zc Y<|zb<|zaH ?_;have hof:(ofR r hd).head.stem.length≤281474976710656∧0≤(ofR r hd).head.mark∧(ofR r hd).head.mark≤255:=by unfold ofR;split;exact ⟨by assumption,by assumption⟩;exact ⟨Nat.zero_le _,by decide⟩
 have D6:=hof.1;have D7:=hof.2;have a0:St h w g6 _ [[],[],[],[],[],[],[],[]]:=l4;refine zbZ Tryz.mixed zbL (Cls g6 _) (Cls.drew a0)<|have g7:=(((g4.t F).t C).t B).t A;zp Y (fun _ hC=>(zW hC.sub (c2.up g7) Y zdi zbR Y)) ?_;have a4:=(((c0.t F).t C).t B).t A;have S:=(c1.t B).t A;refine zcl rfl rfl (fun _=>zbJ rfl Tryz.call15 rfl) (fun _ hC=>zbe.quiet hC (zmG hC.sub (r:=(r)) (gf1_0x67.up a4) (gf1_1x67.up a4) (gf1_2x67.up a4) (gf1_3x67.up a4) (gf1_4x67.up a4) zdb (K3.up S) (K1.up S) (K0.up S) zU)) ?_;refine zp Y (fun _ hC=>(zW hC.sub (d7.up ((e2.t B).t A)) Y zdi zbR Y))<|zcl Y Y (fun _=>zbJ Y Tryz.call16 Y) (fun _ hC=>zbe.quiet hC (zgU hC.sub (r:=r) (r_f0.up S) (r_f1.up S) (r_f2.up S) (r_f3.up S) (r_f4.up S) zdb))<|znl Y Y Y<|zdl Y Y ?_;refine zeI (d:=76) Y (fun q8=>?_) (fun q8=>?_)
 ·refine zf Y<|have q9:=((((((((T.t Q).t P).t L).t I).t H).t F).t C).t B).t A;zp Y (fun _ hC=>(zW hC.sub (h4.up q9) Y zeE zcj Y))<|zf Y<|have r0:=((((((P.t L).t I).t H).t F).t C).t B).t A;zp Y (fun _ hC=>(zW hC.sub (j1.up r0) Y zeE zcj Y))<|zf Y<|have r1:=(((((((((a1.t T).t Q).t P).t L).t I).t H).t F).t C).t B).t A;have r2:=(((((((Q.t P).t L).t I).t H).t F).t C).t B).t A;zcl Y Y (fun _=>zbJ Y Tryz.call17 Y) (fun _ hC=>zbe.quiet hC (zll hC.sub (a:=(Volume.mk (zrk ((r))))) (f106.up r1) (b:=(Volume.mk (zrk (r)))) (f127.up r2)))<|zaw Y<|zdl Y Y ?_;refine zfd (d:=81) Y (fun r3=>?_) (fun r3=>?_)
  ·refine zf Y<|zcW Y Y<|zf Y<|zcW Y Y<|zf Y<|znl Y Y Y<|zaw Y<|zdl Y Y ?_;refine zeI (d:=86) Y (fun r4=>?_) (fun r4=>?_)
   ·refine zf Y<|have r5:=((((I.t H).t F).t C).t B).t A;zp Y (fun _ hC=>(zW hC.sub (j7.up r5) Y zeE zcj Y))<|zf Y<|have r6:=((F.t C).t B).t A;zp Y (fun _ hC=>(zW hC.sub (k3.up r6) Y zeE zcj Y))<|zf Y<|have r7:=(((((L.t I).t H).t F).t C).t B).t A;have r8:=(((H.t F).t C).t B).t A;zcl Y Y (fun _=>zbJ Y Tryz.call17 Y) (fun _ hC=>zbe.quiet hC (zll hC.sub (a:=(Volume.mk (inR ((r)) ((x))))) (f151.up r7) (b:=(Volume.mk (inR (r) (x)))) (f173.up r8)))<|zaw Y<|zdl Y Y ?_;refine zfd (d:=91) Y (fun r9=>?_) (fun r9=>?_)
    ·refine zf Y<|zcW Y Y<|zf Y<|zcW Y Y<|zf Y<|znl Y Y Y<|zaw Y<|zdl Y Y ?_;refine zeI (d:=96) Y (fun s0=>?_) (fun s0=>?_)
     ·refine zf Y<|zp Y (fun _ hC=>(zW hC.sub (k9.up (B.t A)) Y zeM zcd Y))<|zf Y<|zp Y (fun _ hC=>(zW hC.sub l5 Y zeM zcd Y))<|zf Y<|zcl Y Y (fun _=>zbJ Y Tryz.call18 Y) (fun _ hC=>zbe.quiet hC (zjn hC.sub (a:=(ofR ((r)) (hd))) zbq zdb (f196.up ((C.t B).t A)) (b:=(ofR (r) (hd))) zbq zdb (f217.up A)))<|zaw Y<|zdl Y Y ?_;refine zfd (d:=101) Y (fun s1=>?_) (fun s1=>?_)
      ·refine zf Y<|zcW Y Y<|zf Y<|zcW Y Y<|zf Y<|znl Y Y Y<|zaw Y<|zdl Y Y ?_;refine zeI (d:=106) Y (fun s2=>?_) (fun s2=>?_)
       ·refine zf Y<|zp Y (fun _ hC=>(zW hC.sub (c2.up g7) Y zdi zbR Y))<|zf Y<|zp Y (fun _ hC=>(zW hC.sub (d7.up ((e2.t B).t A)) Y zdi zbR Y))<|zf Y<|zcl Y Y (fun _=>zbJ Y Tryz.call19 Y) (fun _ hC=>zbe.quiet hC (zly hC.sub (a:=(r)) (gf1_0x67.up a4) (gf1_1x67.up a4) (gf1_2x67.up a4) (gf1_3x67.up a4) (gf1_4x67.up a4) zdb (b:=r) (r_f0.up S) (r_f1.up S) (r_f2.up S) (r_f3.up S) (r_f4.up S) zdb))<|zaw Y<|zdl Y Y ?_;refine zfd (d:=111) Y (fun s3=>?_) (fun s3=>?_)
        ·refine zf Y<|have s4:=(((((((g0.t P).t L).t I).t H).t F).t C).t B).t A;zp Y (fun _ hC=>(zW hC.sub (e7.up s4) Y zco zbh Y))<|zf Y<|have s5:=(((((g3.t I).t H).t F).t C).t B).t A;zp Y (fun _ hC=>(zW hC.sub (c4.up s5) Y zco zbh Y))<|zf Y<|have s6:=(((((((g1.t P).t L).t I).t H).t F).t C).t B).t A;zcl Y Y (fun _=>zbJ Y Tryz.call20 Y) (fun _ hC=>zbe.quiet hC (zln hC.sub (a:=(x)) (gf3_0x79.up s6) (b:=x) (x_f0.up S)))<|zaw Y<|zjS Y Y<|zbl ?_;rintro D8 ⟨s7,s8⟩;have l6:=a0.call0 s8;refine zz<|zfS<|zk zfY ?_;refine ⟨s7,_,Y,l6.done,?_⟩;refine zM ?_
         all_goals first|rfl|(simp_all;done)
        refine zbT 3 Y<|zZ Y<|zjS Y Y<|zbl ?_;rintro D9 ⟨s9,t0⟩;have l7:=a0.call0 t0;refine zz<|zfS<|zk zfY ?_;refine ⟨s9,_,Y,l7.done,?_⟩;refine zM ?_
        all_goals first|rfl|(simp_all;done)
       refine zbT 3 Y<|zZ Y<|zdl Y Y<|zbT 3 Y<|zZ Y<|zjS Y Y<|zbl ?_;rintro E0 ⟨t1,t2⟩;have l8:=a0.call0 t2;refine zz<|zfS<|zk zfY ?_;refine ⟨t1,_,Y,l8.done,?_⟩;refine zM ?_
       all_goals first|rfl|(simp_all;done)
      refine zbT 3 Y<|zZ Y<|zdl Y Y<|zbT 3 Y<|zZ Y<|zdl Y Y<|zbT 3 Y<|zZ Y<|zjS Y Y<|zbl ?_;rintro E1 ⟨t3,t4⟩;have l9:=a0.call0 t4;refine zz<|zfS<|zk zfY ?_;refine ⟨t3,_,Y,l9.done,?_⟩;refine zM ?_
      all_goals first|rfl|(simp_all;done)
     refine zbT 3 Y<|zZ Y<|zdl Y Y<|zbT 3 Y<|zZ Y<|zdl Y Y<|zbT 3 Y<|zZ Y<|zdl Y Y<|zbT 3 Y<|zZ Y<|zjS Y Y<|zbl ?_;rintro E2 ⟨t5,t6⟩;have m0:=a0.call0 t6;refine zz<|zfS<|zk zfY ?_;refine ⟨t5,_,Y,m0.done,?_⟩;refine zM ?_
     all_goals first|rfl|(simp_all;done)
    refine zbT 3 Y<|zZ Y<|zdl Y Y<|zbT 3 Y<|zZ Y<|zdl Y Y<|zbT 3 Y<|zZ Y<|zdl Y Y<|zbT 3 Y<|zZ Y<|zdl Y Y<|zbT 3 Y<|zZ Y<|zjS Y Y<|zbl ?_;rintro E3 ⟨t7,t8⟩;have m1:=a0.call0 t8;refine zz<|zfS<|zk zfY ?_;refine ⟨t7,_,Y,m1.done,?_⟩;refine zM ?_
    all_goals first|rfl|(simp_all;done)
   refine zbT 3 Y<|zZ Y<|zdl Y Y<|zbT 3 Y<|zZ Y<|zdl Y Y<|zbT 3 Y<|zZ Y<|zdl Y Y<|zbT 3 Y<|zZ Y<|zdl Y Y<|zbT 3 Y<|zZ Y<|zdl Y Y<|zbT 3 Y<|zZ Y<|zjS Y Y ?_;refine zbl ?_;rintro E4 ⟨t9,v0⟩;have m2:=a0.call0 v0;refine zz<|zfS<|zk zfY ?_;refine ⟨t9,_,Y,m2.done,?_⟩;refine zM ?_
   all_goals first|rfl|(simp_all;done)
  refine zbT 3 Y<|zZ Y<|zdl Y Y<|zbT 3 Y<|zZ Y<|zdl Y Y<|zbT 3 Y<|zZ Y<|zdl Y Y<|zbT 3 Y<|zZ Y<|zdl Y Y<|zbT 3 Y<|zZ Y<|zdl Y Y<|zbT 3 Y<|zZ Y<|zdl Y Y ?_;refine zbT 3 Y<|zZ Y<|zjS Y Y<|zbl ?_;rintro E5 ⟨v1,v2⟩;have m3:=a0.call0 v2;refine zz<|zfS<|zk zfY ?_;refine ⟨v1,_,Y,m3.done,?_⟩;refine zM ?_
  all_goals first|rfl|(simp_all;done)
 refine zbT 3 Y<|zZ Y<|zdl Y Y<|zbT 3 Y<|zZ Y<|zdl Y Y<|zbT 3 Y<|zZ Y<|zdl Y Y<|zbT 3 Y<|zZ Y<|zdl Y Y<|zbT 3 Y<|zZ Y<|zdl Y Y<|zbT 3 Y<|zZ Y<|zdl Y Y ?_;refine zbT 3 Y<|zZ Y<|zdl Y Y<|zbT 3 Y<|zZ Y<|zjS Y Y<|zbl ?_;rintro E6 ⟨v3,v4⟩;have m4:=a0.call0 v4;refine zz<|zfS<|zk zfY ?_;refine ⟨v3,_,Y,m4.done,?_⟩;refine zM ?_
 all_goals first|rfl|(simp_all;done)
end Go.Pk
