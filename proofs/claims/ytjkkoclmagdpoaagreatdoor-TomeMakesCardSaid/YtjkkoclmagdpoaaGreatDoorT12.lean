/- A PART OF THE PROOF: contracts of functions, each walked once (much of it printed by a program of the author's own). -/
import Derived.Test.YtjkkoclmagdpoaaGreatDoorT8
import Derived.Test.YtjkkoclmagdpoaaGreatDoorT9
import Derived.Test.YtjkkoclmagdpoaaGreatDoorT3
import Derived.Test.YtjkkoclmagdpoaaGreatDoorT1
import Derived.Test.YtjkkoclmagdpoaaGreatDoorT4
import Derived.Test.YtjkkoclmagdpoaaGreatDoorT2
import Derived.Test.YtjkkoclmagdpoaaGreatDoorT7
import Derived.Test.YtjkkoclmagdpoaaGreatDoorT5
set_option linter.unusedSimpArgs false
set_option linter.unusedVariables false
set_option maxRecDepth 4000
namespace Go.Pk
open Go Go.RowKit Go.Proofs
variable {h:Heap} {w:World} {b_b:Nat} {b:Text} {b_v0:Value}
theorem zqg {h0: Heap} {w0: World} {rest:Own} {l:Nat} (b_f0:Sl zax h b_v0 b.chapters) (b_c:zay h b_b 0 [b_v0]) {b_bb:Nat} (b_cc:zay h b_bb 0 [.pointer (some ⟨b_b,0,none⟩)]) {J Jx:List Place→Heap→Own→Prop} (hJm:∀ xs h1 h2 o,J xs h1 o→Le h1 h2→J xs h2 o) (hJxm:∀ xs h1 h2 o,Jx xs h1 o→Le h1 h2→Jx xs h2 o) (hJ0:J [] h rest) (hY:∀ (pre:List Place) (x:Place) h1 w1 B rest us,Le h h1→J pre h1 rest→St h0 w0 h1 w1 (B++rest)→(∃ u_ v_,us=[u_,v_]∧(u_=.agg #[iV x.chapter,iV x.line,iV x.word]∧v_=zae (zbd b x))∧(zbA b)[pre.length]?=some x)→zmU Tryz.prog l us.toArray w1 fun v w2=>∃ h2 rest2,Le h1 h2∧St h0 w0 h2 w2 (B++rest2)∧((v=.bool true∧J (pre++[x]) h2 rest2)∨(v=.bool false∧Jx (pre++[x]) h2 rest2))) (st0:St h0 w0 h w rest):Calls Tryz.prog 148 #[.func (.yield l) #[] #[],.pointer (some ⟨b_bb,0,none⟩)] w (fun e_ w'=>∃ h' rest' v_,e_=.returned v_∧Le h h'∧St h0 w0 h' w' rest'∧((∃ xs,xs=zbA b∧J xs h' rest')∨(∃ pre,Jx pre h' rest'))):=by
 refine zl 46 Tryz.func148 Y<|have b2:=b_f0.le;zx<|M 0 st0.sub b_cc Tryz.isAgg187 Y<|zQ Y (zbX Y)<|U zgF Y zab<|U zaI Y zbi<|M 0 st0.sub b_c zbI Y<|zK b_f0 zav Y<|za Y<|zb<|zT ?_;refine zaM (zcp 3 6++zcp 15 31) (G:=Nat×Own×Heap) (fun ⟨i,rest,h1⟩=>[(15,iV (i:Int))]) (fun ⟨i,rest,h1⟩ w'=>Le h h1∧St h0 w0 h1 w' (rest)∧(i≤b.chapters.length)∧(J ((List.range i).flatMap (ziA b)) h1 rest)) (fun ⟨i,rest,h1⟩=>b.chapters.length-i) ⟨0,rest,h⟩ ⟨rfl,trivial⟩ ⟨Le.refl _,st0,zbm,(by exact hJm _ _ _ _ hJ0 (Le.refl _))⟩ ?_;rintro ⟨i,rest,h1⟩ _ w4 ⟨Q,a2,hi,hJ⟩;refine zx<|zN Y<|zb<|zaH ?_;refine zS Y (fun c5=>?_) (fun c5=>?_)
 ·refine zaN<|zT<|zx<|za Y ?_;obtain ⟨c,hc⟩:∃ y_,(b.chapters)[i]?=some y_:=zch zU;obtain ⟨b6,o7,_,b9,c0,hr_c⟩:=Sl.elem (b_f0.up Q) hc;obtain ⟨c1,rfl,f11⟩:=hr_c;have b7:=f11.le;refine zL b9 zav zbb Y<|zg a2.sub c0 zgw zbb Y<|ztq a2 zeu Y Y (fun _=>Y) Y Y Y (us:=[iV (c.id),c1]) (fun _=>Y) (zaX Y (zaX f11.one zdv)) zbb Y<|fun c8 c9 b3 C a4 T=>zb<|zx<|U zaz Y zbu<|M 1 T.sub a4 zbS Y<|zK (f11.up C) zaJ Y<|za Y<|zb<|zT ?_;refine zaM ([5,6,7,8]++zcp 23 22) (G:=Nat×Own×Heap) (fun ⟨n,rest,A⟩=>[(23,iV (n:Int))]) (fun ⟨n,rest,A⟩ w'=>Le b3 A∧St h0 w0 A w' (rest)∧(n≤c.lines.length)∧(J ((List.range i).flatMap (ziA b)++(List.range n).flatMap (ziI b i)) A rest)) (fun ⟨n,rest,A⟩=>c.lines.length-n) ⟨0,rest,b3⟩ ⟨rfl,trivial⟩ ⟨Le.refl _,T,zbm,(by simpa using hJm _ _ _ _ hJ C)⟩ ?_;rintro ⟨n,rest,A⟩ _ d0 ⟨H,L,hn,hJ⟩;refine zx<|zN Y<|zb<|zaH ?_;refine zS Y (fun c2=>?_) (fun c2=>?_)
  ·refine zaN<|zT<|zx<|za Y ?_;obtain ⟨ln,hln⟩:∃ y_,(c.lines)[n]?=some y_:=zch zU;obtain ⟨d1,d2,_,a5,a6,hr_ln⟩:=Sl.elem (f11.up (C.t H)) hln;obtain ⟨b4,rfl,f28⟩:=hr_ln;have b8:=f28.le;refine zL a5 zaJ zdd Y<|M 0 L.sub a6 zdx Y<|zc Y<|zH b4 Y<|zb<|zx<|zq b4 Y<|zK f28 zC Y<|za Y<|zb<|zT ?_;refine zaM ([7,8]++zcp 30 14) (G:=Nat×Own×Heap) (fun ⟨m,rest,F⟩=>[(30,iV (m:Int))]) (fun ⟨m,rest,F⟩ w'=>Le A F∧St h0 w0 F w' (rest)∧(m≤ln.length)∧(J ((List.range i).flatMap (ziA b)++(List.range n).flatMap (ziI b i)++(List.range m).map (mkP i n)) F rest)) (fun ⟨m,rest,F⟩=>ln.length-m) ⟨0,rest,A⟩ ⟨rfl,trivial⟩ ⟨Le.refl _,L,zbm,(by simpa using hJm _ _ _ _ hJ (Le.refl _))⟩ ?_;rintro ⟨m,rest,F⟩ _ d3 ⟨I,P,hm,hJ⟩;refine zx<|zN Y<|zb<|zaH ?_;refine zS Y (fun c3=>?_) (fun c3=>?_)
   ·refine zaN<|zT<|zx<|za Y ?_;obtain ⟨s,hs⟩:∃ y_,(ln)[m]?=some y_:=zch zU;obtain ⟨d4,d5,_,a7,a8,hr_s⟩:=Sl.elem (f28.up I) hs;obtain ⟨rfl,a9⟩:=hr_s;simp only[big] at a9;refine zL a7 zC zaj Y<|M 0 P.sub a8 zaK Y<|zc Y<|zff Y Y<|zb<|zx<|zlQ Y Y<|za Y<|za Y<|za Y<|zQ Y (zce (cs:=[iV (i:Int),iV (n:Int),iV (m:Int)]) zbL)<|zdc Y Y ?_;have hJc:=hJm _ _ _ _ hJ (Le.refl _);have hAc:∃ u_ v_,[.agg #[iV (mkP i n m).chapter,iV (mkP i n m).line,iV (mkP i n m).word],zae s]=[u_,v_]∧(u_=.agg #[iV (mkP i n m).chapter,iV (mkP i n m).line,iV (mkP i n m).word]∧v_=zae (zbd b (mkP i n m)))∧(zbA b)[((List.range i).flatMap (ziA b)++(List.range n).flatMap (ziI b i)++(List.range m).map (mkP i n)).length]?=some (mkP i n m):=⟨_,_,rfl,⟨rfl,by rw[zuQ hc hln hs]⟩,zyC hc hln (List.getElem?_eq_some_iff.1 hs).1⟩;have b5:=((Q.t C).t H).t I;refine zjL Y Y Y Y Y (hY _ _ _ _ [] rest _ b5 hJc P hAc) ?_;intro c7 d6 c4 S a0 a1 b0 b1;refine zcq Y Y<|zb ?_;refine zap Y (fun a3=>?_) (fun a3=>?_)
    ·refine zfS<|zan<|zJ<|zeJ<|zan<|zJ<|zeJ<|zan<|zJ<|zeJ<|zkS Tryz.results148 ?_;exact ⟨_,_,_,rfl,(b5.t a0),a1,.inr ⟨_,hJxm _ _ _ _ (b1 (by simpa using a3)) (Le.refl _)⟩⟩
    refine zbj<|zaF<|zy Y zaS<|za Y<|zb ?_;refine ⟨⟨m+1,S,c4⟩,⟨rfl,trivial⟩,?_,⟨(I.t a0),a1,?_,?_⟩,?_⟩
    ·exact zaR
    ·first|omega|(simp;omega)
    ·rw[List.range_succ,List.map_append,← List.append_assoc];exact hJm _ _ _ _ (b0 (by simpa using a3)) (Le.refl _)
    show ln.length-((m+1))<ln.length-m;omega
   refine zcC<|zaF<|zy Y zaS<|za Y<|zb ?_;refine ⟨⟨n+1,rest,F⟩,⟨rfl,trivial⟩,?_,⟨(H.t I),P,?_,?_⟩,?_⟩
   ·exact zaR
   ·first|omega|(simp;omega)
   ·rw[zeU,← zmz hc hln (w:=m) zU,← List.append_assoc];exact hJm _ _ _ _ hJ (Le.refl _)
   show c.lines.length-((n+1))<c.lines.length-n;omega
  refine zcC<|zaF<|zy Y zaS<|za Y<|zb ?_;have c6:=(Q.t C).t H;refine ⟨⟨i+1,rest,A⟩,⟨rfl,trivial⟩,?_,⟨c6,L,?_,?_⟩,?_⟩
  ·exact zaR
  ·first|omega|(simp;omega)
  ·rw[zeU,← zmE hc (n:=n) zU];exact hJm _ _ _ _ hJ (Le.refl _)
  show b.chapters.length-((i+1))<b.chapters.length-i;omega
 refine zcC<|zuO Tryz.results148 ?_;exact ⟨_,_,_,rfl,Q,a2,.inl ⟨_,rfl,by rw[zbA,show b.chapters.length=i by omega];exact hJm _ _ _ _ hJ (Le.refl _)⟩⟩
theorem zrF (hs:Sub h w) (b_f0:Sl zax h b_v0 b.chapters) (b_c:zay h b_b 0 [b_v0]):Calls Tryz.prog 94 #[.pointer (some ⟨b_b,0,none⟩)] w (fun e_ w'=>∃ h' bo,e_=.returned (.func (.func 148) #[] #[.pointer (some ⟨bo,0,none⟩)])∧Le h h'∧St h w h' w' []∧zay h' bo 0 [.pointer (some ⟨b_b,0,none⟩)]):=by
 refine zl 4 Tryz.func94 Y<|have B:=zbM hs;have A:=b_f0.le;zx<|ze [.pointer (some ⟨b_b,0,none⟩)] B Y<|fun L P I C F H=>zdo Y Y<|zb<|zx<|zeo Y Y Y<|zQ Y (zzQ Y)<|zj<|zk Tryz.results94 ?_;exact ⟨I,_,Y,C,H,F⟩
end Go.Pk

namespace Go.Pk
open Go Go.RowKit Go.Proofs
end Go.Pk

namespace Go.Pk
open Go Go.RowKit Go.Proofs
variable {h:Heap} {w:World} {l_v b_v0 c_v0 t_v0 e_v0:Value} {l:(List Str)} {b:Text} {b_b:Nat} {c:Copy} {s:Stretch} {e:Edition} {p:Place}
def _root_.Go.Proofs.Tryz.glob0:List Value:=[iV 0,.nilFunc,.nilFunc,iV 0,.func (.func 289) #[] #[],.func (.func 290) #[] #[],iV 1,.func (.func 291) #[] #[],.func (.func 292) #[] #[],iV 0,.func (.func 293) #[] #[],.func (.func 294) #[] #[]]
theorem zkv:KeyG Tryz.prog 68 zgr:=zyD zal (fun x y w=>Tryz.eq_Place x y w) (zwd zal zcu zO rfl rfl rfl)
theorem zmP (hs:Sub h w) (l_f:Sl zcn h l_v l) (j:Int) (hw:0≤j∧j≤(l.length:Int)):Calls Tryz.prog 143 #[l_v,iV j] w (zbe h w (fun _ _ res_=>res_=zae ((zfu l j.toNat)))):=by
 refine zl 13 Tryz.func143 Y<|have A:=zbM hs;have l_f_b:=l_f.le;zx<|zff Y Y<|zb<|zat<|za Y<|zq l_v Y<|zK l_f zC Y<|zeb Y Y Y<|zb ?_;refine zS Y (fun H=>?_) (fun H=>?_)
 ·refine zx<|zff Y Y<|zj<|zJ<|zk Tryz.results143 ?_;refine ⟨h,_,Y,A.done,?_⟩;refine zfa ?_
  all_goals (rw[zfu,List.getElem?_eq_none zU];rfl)
 refine zdF<|zx<|zq l_v Y<|za Y ?_;obtain ⟨a,ha⟩:∃ y_,(l)[j.toNat]?=some y_:=zch zU;obtain ⟨I,L,_,B,C,hr_a⟩:=Sl.elem l_f ha;obtain ⟨rfl,F⟩:=hr_a;simp only[big] at F;refine zar rfl rfl (zbz B rfl rfl (hk:=(show _=((j.toNat:Nat):Int) by omega)) (hu:=zC) (hz:=zaj)) ?_;refine M 0 A.sub C zaK Y<|zff Y Y<|zj<|zk Tryz.results143 ?_;refine ⟨h,_,Y,A.done,?_⟩;refine zfa ?_
 all_goals first|(rw[zfu,ha];rfl)|omega
theorem zvm (hs:Sub h w) {l:(List Int)} (l_f:Sl zcy h l_v l):Calls Tryz.prog 192 #[l_v] w (zbe h w (fun _ _ res_=>res_=iV ((orL l)))):=by
 refine zl 18 Tryz.func192 Y<|have H:=zbM hs;have l_f_b:=l_f.le;zx<|zc Y<|zb<|zx<|zc Y<|zb<|zat<|zq l_v Y<|zK l_f zaV Y<|za Y<|zb<|zT ?_;refine zaM ([2,5]++zcp 8 9) (G:=Nat×Heap) (fun ⟨k,B⟩=>[(8,iV (k:Int))]) (fun ⟨k,B⟩ w'=>Le h B∧St h w B w' []∧(k≤l.length)∧(orL l=orL (l.drop k))) (fun ⟨k,B⟩=>l.length-k) ⟨0,h⟩ ⟨rfl,trivial⟩ ⟨Le.refl _,H,zbm,(by rfl)⟩ ?_;rintro ⟨k,B⟩ _ Q ⟨F,A,hk,he⟩;refine zx<|zN Y<|zb<|zaH ?_;refine zS Y (fun P=>?_) (fun P=>?_)
 ·refine zaN<|zT<|zx ?_;obtain ⟨a,ha⟩:∃ y_,(l)[k]?=some y_:=zch zU;obtain ⟨S,T,_,I,L,hr_a⟩:=Sl.elem (l_f.up F) ha;subst hr_a;refine zL I zaV zG Y<|M 0 A.sub L zO Y<|zc Y<|zb<|zx<|za Y<|za Y<|zao Y<|zb ?_;refine zS Y (fun C=>?_) (fun C=>?_)
  ·refine zx<|za Y<|zc Y<|zj<|zan<|zJ<|zan<|zk Tryz.results192 ?_;refine ⟨B,_,Y,A.done,?_⟩;refine zaB ?_;rw[he,zpM ha,if_pos (by simpa using C)]
  refine zbj<|zaF<|zy Y zaS<|za Y<|zb ?_;refine ⟨⟨k+1,B⟩,⟨rfl,trivial⟩,?_,⟨F,A,?_,?_⟩,?_⟩
  ·exact zaR
  ·first|omega|(simp;omega)
  ·rw[he,zpM ha,if_neg (by simpa using C)]
  show l.length-((k+1))<l.length-k;omega
 refine zcC<|zz<|zx<|za Y<|zc Y<|zj<|zk Tryz.results192 ?_;refine ⟨B,_,Y,A.done,?_⟩;refine zaB ?_;rw[he,List.drop_eq_nil_of_le zU];rfl
theorem zmQ (hs:Sub h w) {a:Place} {b:Place}:Calls Tryz.prog 144 #[.agg #[iV a.chapter,iV a.line,iV a.word],.agg #[iV b.chapter,iV b.line,iV b.word]] w (zbe h w (fun _ _ res_=>res_=iV (zgA a b))):=by
 refine zl 22 Tryz.func144 Y<|have b3:=zbM hs;zx<|ze [iV (a.chapter),iV (a.line),iV (a.word)] b3 Y<|fun b1 w2 h3 c6 a2 b4=>ze [iV (b.chapter),iV (b.line),iV (b.word)] b4 Y<|fun b7 w8 h9 H I a3=>zc Y<|zb<|zaH<|zba (er:=([],[],[],[],0)) (dsts:=[5,6,7,8,9,10,11,12,13,14,15,16,17,18,19,20,21,4]) a3 Tryz.mixed<|zF (zm zal Y zG)<|zam (fun F P A C B Q _ _=>(zr 0 (C.sub B) (a2.up H) zO Y))<|zF (zm zal Y zG)<|zam (fun F P A C B Q _ _=>(zr 0 (C.sub B) I zO Y)) ?_;refine zaT (.det (iV (zgN ((a.chapter)) ((b.chapter))))) ?_ ?_
 ·intro F P A C B Q _ _ _ _;have S:=St.start B;refine zn S Y Tryz.call193 (zhL S.sub _ _)<|fun c7 c8 c9 c0 a4 b5=>?_;subst b5;exact zB ⟨_,_,Y,a4,(),Y,trivial⟩
 refine zF (zm zal Y zG)<|zam (fun F P A C B Q _ _=>(zr 1 (C.sub B) (a2.up H) zO Y))<|zF (zm zal Y zG)<|zam (fun F P A C B Q _ _=>(zr 1 (C.sub B) I zO Y)) ?_;refine zaT (.det (iV (zgN ((a.line)) ((b.line))))) ?_ ?_
 ·intro F P A C B Q _ _ _ _ _ _;have T:=St.start B;refine zn T Y Tryz.call193 (zhL T.sub _ _)<|fun d0 d1 d2 c1 a5 b6=>?_;subst b6;exact zB ⟨_,_,Y,a5,(),Y,trivial⟩
 refine zF (zm zal Y zG)<|zam (fun F P A C B Q _ _=>(zr 2 (C.sub B) (a2.up H) zO Y))<|zF (zm zal Y zG)<|zam (fun F P A C B Q _ _=>(zr 2 (C.sub B) I zO Y)) ?_;refine zaT (.det (iV (zgN ((a.word)) ((b.word))))) ?_ ?_
 ·intro F P A C B Q _ _ _ _ _ _;have a0:=St.start B;refine zn a0 Y Tryz.call193 (zhL a0.sub _ _)<|fun d3 d4 d5 c2 a6 b8=>?_;subst b8;exact zB ⟨_,_,Y,a6,(),Y,trivial⟩
 refine zaT (.res (fun h' res_=>Sl zcy h' res_ ([(zgN ((a.chapter)) ((b.chapter))),(zgN ((a.line)) ((b.line))),(zgN ((a.word)) ((b.word)))])) (fun _ _ _ hl f=>f.up hl)) ?_ ?_
 ·intro F P A C B Q _ _ _ _ _ _;have a7:=St.start B;refine zA zcy [(zgN ((a.chapter)) ((b.chapter))),(zgN ((a.line)) ((b.line))),(zgN ((a.word)) ((b.word)))] [iV (zgN ((a.chapter)) ((b.chapter))),iV (zgN ((a.line)) ((b.line))),iV (zgN ((a.word)) ((b.word)))] a7 (Enc.cons (L:=zcy) (vs:=[iV (zgN ((a.chapter)) ((b.chapter)))]) (x:=(zgN ((a.chapter)) ((b.chapter)))) (h:=F) (Y) (Enc.cons (L:=zcy) (vs:=[iV (zgN ((a.line)) ((b.line)))]) (x:=(zgN ((a.line)) ((b.line)))) (h:=F) (Y) (Enc.cons (L:=zcy) (vs:=[iV (zgN ((a.word)) ((b.word)))]) (x:=(zgN ((a.word)) ((b.word)))) (h:=F) (Y) Enc.nil))) Y zaV Tryz.info3 zbL<|fun d6 d7 d8 c3 f37 a8=>?_;exact zB ⟨_,_,Y,a8,_,Y,f37⟩
 refine zaT (.det (iV ((orL (([(zgN ((a.chapter)) ((b.chapter))),(zgN ((a.line)) ((b.line))),(zgN ((a.word)) ((b.word)))])))))) ?_ ?_
 ·intro F P A C B Q gv15_0 gf15_0 _ _;have a1:=St.start B;refine zn a1 Y Tryz.call192 (zvm a1.sub gf15_0)<|fun d9 e0 e1 c4 a9 b9=>?_;subst b9;exact zB ⟨_,_,Y,a9,(),Y,trivial⟩
 refine zF (zns Y)<|zck<|fun b0 e2 _ c5 b2 _ _ _ _ _ _ _ _ _ _ _ _ _ _ _ _ _ _ _ _ _ _ _ _ _ _ _ _ _ _ gv15_0x52 gf15_0x52 _ _ _ _=>zbk.fin Y<|zz<|zfS<|zk Tryz.results144 ?_;refine ⟨b0,_,Y,b2.done,?_⟩;refine zaB ?_;exact zCD a b
theorem zpm (hs:Sub h w) (s:Str) (s_le:s.length≤281474976710656):Calls Tryz.prog 195 #[zae s] w (zbe h w (fun _ _ res_=>res_=.bool ((decide (s=[]))))):=by
 refine zl 5 Tryz.func195 Y<|have A:=zbM hs;zx<|zd Y<|zb<|zx<|zdc Y Y<|ziO Y Y Y<|zd Y<|zj<|zk Tryz.results195 ?_;refine ⟨h,_,Y,A.done,?_⟩;refine zM ?_
 all_goals rfl
theorem ztf (hs:Sub h w) (own_:Str) (own__le:own_.length≤281474976710656) (put:Str) (put_le:put.length≤281474976710656):Calls Tryz.prog 289 #[zae own_,zae put] w (zbe h w (fun _ _ res_=>res_=.bool ((decide (put=[]))))):=by
 refine zl 7 Tryz.func289 Y<|have A:=zbM hs;zx<|zd Y<|zb<|zx<|zdc Y Y<|ziO Y Y Y<|zd Y<|zj<|zk Tryz.results289 ?_;refine ⟨h,_,Y,A.done,?_⟩;refine zM ?_
 all_goals first|rfl|(simp_all;done)
theorem zte (hs:Sub h w) (own_:Str) (own__le:own_.length≤281474976710656) (put:Str) (put_le:put.length≤281474976710656):Calls Tryz.prog 290 #[zae own_,zae put] w (zbe h w (fun h' _ res_=>∃ u0,res_=u0∧Sl zcn h' u0 (([]:List Str)))):=by
 refine zl 5 Tryz.func290 Y<|have A:=zbM hs;zx<|zcP Y Y<|zb<|zx<|zcP Y Y<|zj<|zk Tryz.results290 ?_;refine ⟨h,_,Y,A.done,?_⟩;refine ⟨_,Y,Sl.to (Sl.nil _ _) ?_⟩
 all_goals first|rfl|(simp_all;done)
theorem ztd (hs:Sub h w) (own_:Str) (own__le:own_.length≤281474976710656) (put:Str) (put_le:put.length≤281474976710656):Calls Tryz.prog 291 #[zae own_,zae put] w (zbe h w (fun _ _ res_=>res_=.bool ((zdI put)))):=by
 refine zl 7 Tryz.func291 Y<|have A:=zbM hs;zx<|zd Y<|zb<|zx<|zdc Y Y ?_;refine zaD A rfl rfl rfl Tryz.call151 rfl (znI A.sub _ (by first|assumption|decide|omega|(simp[big];done)|(simp[big];omega))) ?_;intro I L C F B H;obtain rfl:=H;refine zd Y<|zj<|zk Tryz.results291 ?_;refine ⟨C,_,Y,B.done,?_⟩;refine zM ?_
 all_goals first|rfl|(simp_all;done)
theorem ztc (hs:Sub h w) (own_:Str) (own__le:own_.length≤281474976710656) (put:Str) (put_le:put.length≤281474976710656):Calls Tryz.prog 292 #[zae own_,zae put] w (zbe h w (fun h' _ res_=>∃ u0,res_=u0∧Sl zcn h' u0 ([put,own_]))):=by
 refine zl 8 Tryz.func292 Y<|have A:=zbM hs;zx<|zcP Y Y<|zb<|zx<|zdc Y Y<|zdc Y Y ?_;refine zhg (L:=zcn) (xs:=[put,own_]) (cs:=[zae put,zae own_]) A (Enc.cons (L:=zcn) (vs:=[zae put]) (x:=put) (h:=h) (⟨rfl,by first|assumption|decide|omega|(simp[big];done)|(simp[big];omega)⟩) (Enc.cons (L:=zcn) (vs:=[zae own_]) (x:=own_) (h:=h) (⟨rfl,by first|assumption|decide|omega|(simp[big];done)|(simp[big];omega)⟩) Enc.nil)) rfl rfl rfl zC Tryz.info9 rfl rfl rfl zbL ?_;intro C I F H f3 B;refine zH C Y<|zj<|zk Tryz.results292 ?_;refine ⟨F,_,Y,B.done,?_⟩;refine ⟨_,Y,Sl.to f3 ?_⟩
 all_goals first|rfl|(simp_all;done)
theorem ztb (hs:Sub h w) (own_:Str) (own__le:own_.length≤281474976710656) (put:Str) (put_le:put.length≤281474976710656):Calls Tryz.prog 293 #[zae own_,zae put] w (zbe h w (fun _ _ res_=>res_=.bool ((zdI put && decide (put≠own_))))):=by
 refine zl 12 Tryz.func293 Y<|have A:=zbM hs;zx<|zd Y<|zb<|zx<|zdc Y Y ?_;refine zaD A rfl rfl rfl Tryz.call151 rfl (znI A.sub _ (by first|assumption|decide|omega|(simp[big];done)|(simp[big];omega))) ?_;intro L P C F B H;obtain rfl:=H;refine zt Y ?_;refine zbp (d:=7) Y (fun I=>?_) (fun I=>?_)
 ·refine Z Y<|zdc Y Y<|Z Y<|zdc Y Y<|Z Y<|zQ Y (zkz Y Y)<|zi Y<|zd Y<|zj<|zk Tryz.results293 ?_;refine ⟨C,_,Y,B.done,?_⟩;refine zM ?_
  all_goals first|rfl|(simp_all;done)
 refine zaf 3 Y<|zh Y<|zd Y<|zj<|zk Tryz.results293 ?_;refine ⟨C,_,Y,B.done,?_⟩;refine zM ?_
 all_goals first|rfl|(simp_all;done)
theorem zta (hs:Sub h w) (own_:Str) (own__le:own_.length≤281474976710656) (put:Str) (put_le:put.length≤281474976710656):Calls Tryz.prog 294 #[zae own_,zae put] w (zbe h w (fun h' _ res_=>∃ u0,res_=u0∧Sl zcn h' u0 ([put]))):=by
 refine zl 7 Tryz.func294 Y<|have A:=zbM hs;zx<|zcP Y Y<|zb<|zx<|zdc Y Y ?_;refine zhg (L:=zcn) (xs:=[put]) (cs:=[zae put]) A (Enc.cons (L:=zcn) (vs:=[zae put]) (x:=put) (h:=h) (⟨rfl,by first|assumption|decide|omega|(simp[big];done)|(simp[big];omega)⟩) Enc.nil) rfl rfl rfl zC Tryz.info9 rfl rfl rfl zbL ?_;intro C I F H f3 B;refine zH C Y<|zj<|zk Tryz.results294 ?_;refine ⟨F,_,Y,B.done,?_⟩;refine ⟨_,Y,Sl.to f3 ?_⟩
 all_goals first|rfl|(simp_all;done)
set_option maxHeartbeats 4000000 in
theorem zqH (hs:Sub h w) (b_f0:Sl zax h b_v0 b.chapters) (b_c:zay h b_b 0 [b_v0]) (c_f0:Sl zdS h c_v0 c.readings) (K0:zay h 0 0 Tryz.glob0) (ht:zbF b=true) (hv:∀ i,i<c.readings.length→zjz b c i=true) (h20:c.readings.length≤20):Calls Tryz.prog 145 #[.pointer (some ⟨b_b,0,none⟩),.agg #[iV c.id,c_v0]] w (zbe h w (fun h' _ res_=>∃ u0,res_=.agg #[u0]∧Sl zax h' u0 ((zmX b c)).chapters)):=by
 refine zl 121 Tryz.func145 Y<|have C9:=zbM hs;have A1:=b_f0.le;have A2:=c_f0.le;zx<|ze [iV (c.id),c_v0] C9 Y<|fun b1 w2 h3 r3 D0 D1=>zad D1 Tryz.zeroValue24 Y Y<|fun b7 w8 D2=>zb<|zx<|zgP (κ:=Place) (υ:=Value) (ek:=zgr) (eu:=(fun v:Value=>v)) D2 Y<|fun L3 D3 L4 f13 r7=>?_;obtain ⟨c2,rfl⟩:=f13.form;have r8:(([]:List (Place×Value)).map (·.1)).Nodup:=by simp
 refine zH (.map (some c2)) Y<|zb<|zaH<|zaH<|have g7:=r7.snoc;zag<|U zbt Y zcQ<|M 1 g7.sub D0 zdh Y<|zK (c_f0.up r3) zbf Y<|za Y<|zb<|zT ?_;refine zaM ([7]++zcp 24 14) (G:=Nat×List (Place×Value)×List (Place×List Reading)×List (Nat×Obj)×List (Nat×Obj)×Heap) (fun ⟨i,rm,ls,O_,b4,g3⟩=>[(24,iV (i:Int))]) (fun ⟨i,rm,ls,O_,b4,g3⟩ w'=>Le h3 g3∧St h w g3 w' [[(b7,.cells (List.toArray [(.slice none 0 0)]) 24)],b4,O_]∧(OM zgr (fun v:Value=>v) (rm) b4 (.map (some c2)))∧(((rm).map (·.1)).Nodup)∧(i≤c.readings.length)∧(NM zdS 165 g3 rm ls O_)∧(ztu Reading.at_ (c.readings.take i) ls)) (fun ⟨i,rm,ls,O_,b4,g3⟩=>c.readings.length-i) ⟨0,[],[],[],D3,h3⟩ ⟨rfl,trivial⟩ ⟨Le.refl _,g7,(by have q:=f13;exact q),(by have q:=r8;exact q),zbm,(by exact NM.nil),(by exact zBw)⟩ ?_;rintro ⟨i,rm,ls,O_,b4,g3⟩ _ L5 ⟨e7,e8,g8,r9,hi,hnm,hgr⟩;refine zx<|zN Y<|zb<|zaH ?_;refine zS Y (fun D4=>?_) (fun D4=>?_)
 ·refine zaN<|zT<|zx ?_;obtain ⟨r,hr⟩:∃ y_,(c.readings)[i]?=some y_:=zch zU;have D5:=r3.t e7;obtain ⟨L6,L7,_,s0,s1,hr_r⟩:=Sl.elem (c_f0.up D5) hr;obtain ⟨rfl,E4,s2⟩:=hr_r;simp only[big] at s2;refine zL s0 zbf zby Y<|zg e8.sub s1 zfc zby Y<|zad e8 zet Y Y<|fun L8 L9 s3=>zo 3 s3 Y zby<|fun M0 s4=>?_;obtain ⟨B2,g9,s5,s6⟩:=s4.freeze (k:=3) rfl;have h0:=zay.of s5;refine zb ?_;obtain ⟨_,o1_,R1_,rfl,hO1_,hp1_,hb1_⟩:=(hnm.up g9).open r.at_;have e9:St h w B2 _ [[(b7,.cells (List.toArray [(.slice none 0 0)]) 24)],b4,R1_,[],o1_]:=St.pick (k:=2) s6 rfl hp1_;have hgl:((zcb ls r.at_).getD []).length≤i:=by rw[zpR hgr];exact Nat.le_trans (zxW _ _) (by rw[List.length_take];omega)
  refine zag<|zq (.map (some c2)) Y<|U zai Y zP<|zw 0 [iV (r.at_.chapter),iV (r.at_.line),iV (r.at_.word)] e9.sub h0 zaE zP Y<|zg e9.sub h0 zfc zby Y ?_;refine zhg (L:=zdS) (xs:=[r]) (cs:=[iV (r.at_.chapter),iV (r.at_.line),iV (r.at_.word),.int .u8 (r.kind),zae (r.word)]) e9 (Enc.cons (L:=zdS) (vs:=[iV (r.at_.chapter),iV (r.at_.line),iV (r.at_.word),.int .u8 (r.kind),zae (r.word)]) (x:=r) (h:=B2) (⟨rfl,zdb,by first|assumption|decide|omega|(simp[big];done)|(simp[big];omega)⟩) Enc.nil) rfl rfl rfl zbf Tryz.info165 rfl rfl rfl zbL ?_;intro M1 M2 D6 g0 f43 s7;refine zub (i:=1) (k:=r.at_) (zu:=(Value.slice none 0 0)) s7 g8 Y r9 zkv Tryz.underlying307 Tryz.zeroValue95 Y Y Y Y<|fun M3 M4 D7 _ D8 f51 s8 s9=>?_;subst D8;refine zaL ((zcb rm r.at_).getD (.slice none 0 0)) Y ?_;refine zaO (k:=4) (nb:=48) s9 (hO1_.up g0) rfl f43 rfl rfl rfl zbf Tryz.info165 rfl rfl rfl (by decide) rfl (by (try simp only[List.length_append,List.length_take,List.length_cons,List.length_nil,zeq,zfb]);omega) (by (try simp only[List.length_append,List.length_take,List.length_cons,List.length_nil,zeq,zfb]);omega) ?_;intro B3 D9 M5 _ E0 f58 t0;subst E0;refine zR Y<|zrI (i:=1) (c:=D7) (k:=r.at_) (u:=B3) t0 f51 Y s8 Y Y Y<|fun E1 M6 _ E2 f63 t1 t2=>?_;subst E2;refine zB<|zeT<|zz ?_;have t3:=St.unpick (k:=2) (j:=4) t2 rfl rfl (by decide);have t4:=(hb1_ _ _ _ _ g0 f58).ent (z:=(Value.slice none 0 0));refine zag<|zy Y zaS<|za Y<|zb ?_;refine ⟨⟨i+1,(zgd (zsJ rm r.at_ (Value.slice none 0 0)) r.at_ B3),(zgd ls r.at_ ((zcb ls r.at_).getD []++[r])),(R1_++D9),E1,D6⟩,⟨rfl,trivial⟩,?_,⟨((e7.t g9).t g0),t3.take 3,?_,?_,?_,?_,?_⟩,?_⟩
  ·exact zaR
  ·have q:=f63;exact q
  ·have q:=t1;exact q
  ·first|omega|(simp;omega)
  ·exact t4
  ·rw[zaQ hr];exact zAq hgr r
  show c.readings.length-((i+1))<c.readings.length-i;omega
 refine zcC<|zz<|zaH ?_;obtain ⟨r4,t5,f69,t6⟩:=(hnm.up (Le.refl _)).freeze (k:=2) e8 rfl (fun k_ xs_ e_=>by have q_:=zAr hgr e_;rw[List.length_take] at q_;omega);have hms:=zBx hgr (hnm.up (Le.refl _)) f69;rw[List.take_of_length_le (show c.readings.length≤i by omega)] at hms;refine zag<|zad t6 Tryz.zeroValue24 Y Y<|fun g5 M7 h1=>zb<|zat<|zjf Y Y<|zQ Y (zbX Y)<|U zgF Y zab<|U zaI Y zbi<|have r5:=(r3.t e7).t t5;M 0 h1.sub (b_c.up r5) zbI Y<|zK (b_f0.up r5) zav Y<|za Y<|zb<|zT ?_;have t7:=h1.snoc;have f79:=OSl.nil zax 158 r4;refine zaM (zcp 9 8++[18,19]++zcp 44 76) (G:=Nat×Value×List (Nat×Obj)×Heap) (fun ⟨k,v_c3_0,o_c3_0,g4⟩=>[(44,iV (k:Int))]) (fun ⟨k,v_c3_0,o_c3_0,g4⟩ w'=>Le r4 g4∧St h w g4 w' [[(b7,.cells (List.toArray [(.slice none 0 0)]) 24)],b4,[],[(g5,.cells (List.toArray [v_c3_0]) 24)],o_c3_0]∧(OSl zax 158 g4 v_c3_0 ((zlU b c k)) o_c3_0)∧(k≤b.chapters.length)) (fun ⟨k,v_c3_0,o_c3_0,g4⟩=>b.chapters.length-k) ⟨0,(.slice none 0 0),[],r4⟩ ⟨rfl,trivial⟩ ⟨Le.refl _,t7,(OSl.to f79 (by rfl)),zbm⟩ ?_;rintro ⟨k,v_c3_0,o_c3_0,g4⟩ _ M8 ⟨g1,c3,hO_c3_0,hk⟩;refine zx<|zN Y<|zb<|zaH ?_;refine zS Y (fun E3=>?_) (fun E3=>?_)
 ·refine zaN<|zT<|zx<|za Y ?_;obtain ⟨x,hx⟩:∃ y_,(b.chapters)[k]?=some y_:=zch zU;have g6:=r5.t g1;obtain ⟨M9,N0,_,t8,t9,hr_x⟩:=Sl.elem (b_f0.up g6) hx;obtain ⟨N1,rfl,f88⟩:=hr_x;have B4:=f88.le;refine zL t8 zav zbb Y<|zg c3.sub t9 zgw zbb Y<|zad c3 zeu Y Y<|fun N2 N3 v0=>zc Y<|zbE v0 (k:=5) Y Y Y (zaX Y (zaX f88.one zdv)) zbb Y Y Y<|fun N4 v1=>?_;obtain ⟨r6,S,v2,h2⟩:=v1.freeze (k:=5) rfl;have h4:=zay.of v2;refine zb<|zaH<|have N5:=(ziP ht).2.1;have E5:=zhX ht hx;zag<|U zaz Y zG<|M 0 h2.sub h4 zO Y<|zQ Y (zce (cs:=[iV (x.id),(.slice none 0 0)]) zbL)<|zad h2 zeu Y Y<|fun r2 E6 j3=>zo 6 j3 Y zbb<|fun E7 c6=>zb<|zat<|U zaz Y zbu<|M 1 c6.sub h4 zbS Y<|zK (f88.up S) zaJ Y<|za Y<|zb<|zT ?_;have j4:=c6.snoc;have f108:=OSl.nil (LSl zcn) 159 r6;refine zaM ([12,13,14,15,16,18,19]++zcp 55 58) (G:=Nat×Value×List (Nat×Obj)×Heap) (fun ⟨n,v_c6_1,o_c6_1,T⟩=>[(55,iV (n:Int))]) (fun ⟨n,v_c6_1,o_c6_1,T⟩ w'=>Le r6 T∧St h w T w' [[(b7,.cells (List.toArray [(.slice none 0 0)]) 24)],b4,[],[(g5,.cells (List.toArray [v_c3_0]) 24)],o_c3_0,[],[(r2,.cells (List.toArray [iV (x.id),v_c6_1]) 158)],o_c6_1]∧(OSl (LSl zcn) 159 T v_c6_1 ((zlb c k x.lines n)) o_c6_1)∧(n≤x.lines.length)) (fun ⟨n,v_c6_1,o_c6_1,T⟩=>x.lines.length-n) ⟨0,(.slice none 0 0),[],r6⟩ ⟨rfl,trivial⟩ ⟨Le.refl _,j4,(OSl.to f108 (by rfl)),zbm⟩ ?_;rintro ⟨n,v_c6_1,o_c6_1,T⟩ _ E8 ⟨F,a4,hO_c6_1,hn⟩;refine zx<|zN Y<|zb<|zaH ?_;refine zS Y (fun v3=>?_) (fun v3=>?_)
  ·refine zaN<|zT<|zx<|za Y ?_;obtain ⟨l,hl⟩:∃ y_,(x.lines)[n]?=some y_:=zch zU;obtain ⟨E9,F0,_,j5,j6,hr_l⟩:=Sl.elem (f88.up (S.t F)) hl;obtain ⟨g2,rfl,f116⟩:=hr_l;have A3:=f116.le;refine zL j5 zaJ zdd Y<|M 0 a4.sub j6 zdx Y<|zc Y<|zH g2 Y<|zb<|zx<|zcP Y Y<|zb<|zat<|zq g2 Y<|zK f116 zC Y<|zy Y zaS<|za Y<|zb<|zT ?_;have j7:=a4.snoc;have f121:=OSl.nil zcn 9 T;refine zaM ([14,15,16,18,19]++zcp 63 42) (G:=Nat×Value×List (Nat×Obj)×Heap) (fun ⟨m,a6,b2,a3⟩=>[(14,a6),(63,iV (m:Int))]) (fun ⟨m,a6,b2,a3⟩ w'=>Le T a3∧St h w a3 w' [[(b7,.cells (List.toArray [(.slice none 0 0)]) 24)],b4,[],[(g5,.cells (List.toArray [v_c3_0]) 24)],o_c3_0,[],[(r2,.cells (List.toArray [iV (x.id),v_c6_1]) 158)],o_c6_1,b2]∧(OSl zcn 9 a3 a6 ((zkL c k n l m)) b2)∧(m≤l.length+1)) (fun ⟨m,a6,b2,a3⟩=>l.length+1-m) ⟨0,(.slice none 0 0),[],T⟩ ⟨rfl,rfl,trivial⟩ ⟨Le.refl _,j7,(OSl.to f121 (by rfl)),zbm⟩ ?_;rintro ⟨m,a6,b2,a3⟩ _ F1 ⟨H,a7,c7,hw⟩;refine zx<|zN Y<|zb<|zaH ?_;refine zS Y (fun v4=>?_) (fun v4=>?_)
   ·refine zaN<|zT<|zx<|za Y<|zc Y<|zb<|zaH<|have hol:=zBq ht hx hl m;have hll:=(zkt ht hx hl).1;zag<|zq g2 Y<|za Y ?_;refine zaD a7 rfl rfl rfl Tryz.call143 rfl (zmP a7.sub (f116.up H) _ zU) ?_;intro F2 F3 c4 a0 j8 v5;subst v5;refine znQ (L:=zcn) (xs:=[((zfu (l) ((m:Int)).toNat))]) (cs:=[zae ((zfu (l) ((m:Int)).toNat))]) j8 (Enc.cons (L:=zcn) (vs:=[zae ((zfu (l) ((m:Int)).toNat))]) (x:=((zfu (l) ((m:Int)).toNat))) (h:=c4) (⟨rfl,by first|assumption|decide|omega|(simp[big];done)|(simp[big];omega)⟩) Enc.nil) rfl rfl rfl zC Tryz.info9 rfl rfl rfl rfl zbL ?_;intro h5 v6 F4 f132 c8;refine zH h5 Y<|zb<|zat<|zq (.map (some c2)) Y<|za Y<|za Y<|za Y<|zQ Y (zce (cs:=[iV (k:Int),iV (n:Int),iV (m:Int)]) zbL) ?_;have v7:=(((g1.t S).t F).t H).t a0;have f135:Sl zdS c4 ((zcb rm (Place.mk ((k:Int)) ((n:Int)) ((m:Int)))).getD (Value.slice none 0 0)) (zcM c (mkP k n m)):=ztr.get (hms.up v7) (Place.mk ((k:Int)) ((n:Int)) ((m:Int)));have A4:=f135.le;refine zQ Y (zxO (k:=(Place.mk ((k:Int)) ((n:Int)) ((m:Int)))) (zu:=(Value.slice none 0 0)) (zkv).toKeyF Tryz.underlying307 g8 (c8.ent (k:=1) Y) Tryz.zeroValue95 Y Y Y)<|zK f135 zbf Y<|za Y<|zb<|zT ?_;refine zaM ([16,18,19]++zcp 77 24) (G:=Nat×Value×List (Nat×Obj)×Heap) (fun ⟨j,C,b5,b3⟩=>[(16,C),(77,iV (j:Int))]) (fun ⟨j,C,b5,b3⟩ w'=>Le c4 b3∧St h w b3 w' [[(b7,.cells (List.toArray [(.slice none 0 0)]) 24)],b4,[],[(g5,.cells (List.toArray [v_c3_0]) 24)],o_c3_0,[],[(r2,.cells (List.toArray [iV (x.id),v_c6_1]) 158)],o_c6_1,b2,b5]∧(OSl zcn 9 b3 C ((zgJ ((zcM c (mkP k n m)).take j) (zfu l m))) b5)∧(j≤(zcM c (mkP k n m)).length)) (fun ⟨j,C,b5,b3⟩=>(zcM c (mkP k n m)).length-j) ⟨0,h5,v6,c4⟩ ⟨rfl,rfl,trivial⟩ ⟨Le.refl _,c8,(OSl.to f132 (by rfl)),zbm⟩ ?_;rintro ⟨j,C,b5,b3⟩ _ F5 ⟨I,b6,B,hj⟩;refine zx<|zN Y<|zb<|zaH ?_;refine zS Y (fun v8=>?_) (fun v8=>?_)
    ·refine zaN<|zT<|zx ?_;obtain ⟨q,hq⟩:∃ y_,((zcM c (mkP k n m)))[j]?=some y_:=zch (by show j<(zcM c (mkP k n m)).length;omega);obtain ⟨F6,F7,_,j9,k0,hr_q⟩:=Sl.elem (f135.up I) hq;obtain ⟨rfl,B5,k1⟩:=hr_q;simp only[big] at k1;refine zL j9 zbf zby Y<|zg b6.sub k0 zfc zby Y<|zad b6 zet Y Y<|fun F8 F9 k2=>zo 10 k2 Y zby<|fun G0 k3=>?_;obtain ⟨G1,A,k4,b8⟩:=k3.freeze (k:=10) rfl;have a1:=zay.of k4;refine zb<|zaH ?_;have hq:(zcM c (mkP k n m))[j]?=some q:=hq;have hqj:=(List.getElem?_eq_some_iff.1 hq).1;have hpl:=zun h20 (mkP k n m) (zfu l m) j;have hqm:=zrc (List.mem_of_getElem? hq);have hpn:=zsi hv (mkP k n m) (zfu l m) j zU;have hqk:=zyA hv hqm;refine zag<|zq C Y<|zin (B.up A) Y zC Y<|zfG Y Y zaS Y<|zc Y<|zb ?_
     rcases (show q.kind=1∨q.kind=2∨q.kind=3 by omega) with P|P|P
     ·have f159:=OSl.take (B.up A) (k:=((zgJ ((zcM c (mkP k n m)).take j) (zfu l m)).length-1)) zU;have v9:=(((((g6.t S).t F).t H).t a0).t I).t A;obtain ⟨wl,hwl⟩:∃ y_,((zgJ ((zcM c (mkP k n m)).take j) (zfu l m)))[((zgJ ((zcM c (mkP k n m)).take j) (zfu l m)).length-1)]?=some y_:=zch zU;obtain ⟨G2,G3,A5,_,w0,k5,hr_wl,k6⟩:=OSl.elem (B.up A) hwl;subst w0;obtain ⟨rfl,k7⟩:=hr_wl;simp only[big] at k7;refine zba (er:=([2,11],[16],[0,8],[],0)) (dsts:=[84,85,86,87,88,89,90,91,92,93,94,95,96,97,98,99,16]) b8 Tryz.mixed<|zF (zaW C Y)<|zF (zeH Y) ?_;refine zF (zgq (B.up A) rfl rfl (hk:=(show _=((((zgJ ((zcM c (mkP k n m)).take j) (zfu l m)).length-1):Nat):Int) by omega)) zU zC zaj) ?_;refine zF (zm zai Y zbn)<|zam (fun hD wD Q hL hS hO _ _=>(zr 3 (hL.sub hS) a1 zbO Y)) ?_;refine zF (zdr rfl rfl (show _=((1:Nat):Int) by rw[P];rfl) rfl zfX zfz) ?_;refine zF (zm zcX Y Tryz.sizeOf249)<|zam (fun hD wD Q hL hS hO _ _=>(zr 5 (hL.sub hS) (K0.up v9) Tryz.isAgg249 Y))<|zF (zaW C Y)<|zF (zeH Y) ?_;refine zF (zbz k5 rfl rfl (hk:=(show _=((((zgJ ((zcM c (mkP k n m)).take j) (zfu l m)).length-1):Nat):Int) by omega)) (hu:=zC) (hz:=zaj)) ?_;refine zam (fun hD wD Q hL hS hO _ _=>(zgi (j:=0) ((hO Y).get (k:=9) Y) k6 Y Y Y zaK))<|zF (zm zai Y zaj)<|zam (fun hD wD Q hL hS hO _ _=>(zr 4 (hL.sub hS) a1 zaK Y)) ?_;refine zaT (.res (fun h' res_=>Sl zcn h' res_ (([]:List Str))) (fun _ _ _ hl f=>f.up hl)) ?_ ?_
      ·intro hD wD Q hL hS hO _ _ _ _ _ _;have c9:=St.start hS;refine zdE (fs:=[]) (cs:=[]) c9 rfl rfl rfl rfl Tryz.call290 rfl (zte c9.sub _ (by first|assumption|decide|omega|(simp[big];done)|(simp[big];omega)) _ (by first|assumption|decide|omega|(simp[big];done)|(simp[big];omega))) ?_;intro G4 G5 G6 B6 k8 w1;obtain ⟨G7,w3,f176⟩:=w1;rw[← w3] at f176;have A6:=f176.le;exact zB ⟨_,_,Y,k8,_,Y,f176⟩
      refine zbC<|zbC<|zck<|fun B7 G8 _ d0 k9 _ _ gv14_0x178 gf14_0x178=>?_;refine zaO (k:=9) (nb:=16) k9 (f159.up d0) rfl gf14_0x178 rfl rfl rfl zC Tryz.info9 rfl rfl rfl (by decide) rfl (by (try simp only[List.length_append,List.length_take,List.length_cons,List.length_nil,zeq,zfb]);omega) (by (try simp only[List.length_append,List.length_take,List.length_cons,List.length_nil,zeq,zfb]);omega) ?_;intro h6 w4 G9 _ w5 f187 l0;subst w5;refine zB ⟨_,Y,_,_,Le.refl _,l0,?_⟩;intro B8 H0 _ d1 l1 _ _ _ _ _ _ _ _ _ _ _ _ _ _ _ _ _ _ _ _ _ _ _ _ _ _ _ _ gv14_0x189 gf14_0x189;refine zH h6 Y ?_;refine zB ⟨_,Y,_,_,Le.refl _,l1,?_⟩;intro l2 H1 _ d2 l3 _ _ _ _ _ _ _ _ _ _ _ _ _ _ _ _ _ _ _ _ _ _ _ _ _ _ _ _ gv14_0x198 gf14_0x198;refine zbk.fin Y<|zaF<|zy Y zaS<|za Y<|zb ?_;have w6:=(((I.t A).t d0).t d1).t d2;refine ⟨⟨j+1,h6,w4,l2⟩,⟨rfl,Y,trivial⟩,?_,⟨w6,l3.take 10,?_,?_⟩,?_⟩
      ·exact zaR
      ·refine OSl.to (f187.up (d1.t d2)) ?_;rw[zaQ hq,ziS,zsh hwl,zkA,P];rfl
      ·first|omega|(simp;omega)
      show (zcM c (mkP k n m)).length-((j+1))<(zcM c (mkP k n m)).length-j;omega
     ·have f200:=OSl.take (B.up A) (k:=((zgJ ((zcM c (mkP k n m)).take j) (zfu l m)).length-1)) zU;have w7:=(((((g6.t S).t F).t H).t a0).t I).t A;obtain ⟨wl,hwl⟩:∃ y_,((zgJ ((zcM c (mkP k n m)).take j) (zfu l m)))[((zgJ ((zcM c (mkP k n m)).take j) (zfu l m)).length-1)]?=some y_:=zch zU;obtain ⟨H2,H3,A7,_,w9,l4,hr_wl,l5⟩:=OSl.elem (B.up A) hwl;subst w9;obtain ⟨rfl,l6⟩:=hr_wl;simp only[big] at l6;refine zba (er:=([2,11],[16],[0,8],[],0)) (dsts:=[84,85,86,87,88,89,90,91,92,93,94,95,96,97,98,99,16]) b8 Tryz.mixed<|zF (zaW C Y)<|zF (zeH Y) ?_;refine zF (zgq (B.up A) rfl rfl (hk:=(show _=((((zgJ ((zcM c (mkP k n m)).take j) (zfu l m)).length-1):Nat):Int) by omega)) zU zC zaj) ?_;refine zF (zm zai Y zbn)<|zam (fun hD wD Q hL hS hO _ _=>(zr 3 (hL.sub hS) a1 zbO Y)) ?_;refine zF (zdr rfl rfl (show _=((2:Nat):Int) by rw[P];rfl) rfl zfX zfz) ?_;refine zF (zm zcX Y Tryz.sizeOf249)<|zam (fun hD wD Q hL hS hO _ _=>(zr 8 (hL.sub hS) (K0.up w7) Tryz.isAgg249 Y))<|zF (zaW C Y)<|zF (zeH Y) ?_;refine zF (zbz l4 rfl rfl (hk:=(show _=((((zgJ ((zcM c (mkP k n m)).take j) (zfu l m)).length-1):Nat):Int) by omega)) (hu:=zC) (hz:=zaj)) ?_;refine zam (fun hD wD Q hL hS hO _ _=>(zgi (j:=0) ((hO Y).get (k:=9) Y) l5 Y Y Y zaK))<|zF (zm zai Y zaj)<|zam (fun hD wD Q hL hS hO _ _=>(zr 4 (hL.sub hS) a1 zaK Y)) ?_;refine zaT (.res (fun h' res_=>Sl zcn h' res_ ([((q.word)),(wl)])) (fun _ _ _ hl f=>f.up hl)) ?_ ?_
      ·intro hD wD Q hL hS hO _ _ _ _ _ _;have d3:=St.start hS;refine zdE (fs:=[]) (cs:=[]) d3 rfl rfl rfl rfl Tryz.call292 rfl (ztc d3.sub _ (by first|assumption|decide|omega|(simp[big];done)|(simp[big];omega)) _ (by first|assumption|decide|omega|(simp[big];done)|(simp[big];omega))) ?_;intro H4 H5 H6 B9 l7 x0;obtain ⟨H7,x1,f217⟩:=x0;rw[← x1] at f217;have A8:=f217.le;exact zB ⟨_,_,Y,l7,_,Y,f217⟩
      refine zbC<|zbC<|zck<|fun C0 H8 _ d4 l8 _ _ gv14_0x219 gf14_0x219=>?_;refine zaO (k:=9) (nb:=16) l8 (f200.up d4) rfl gf14_0x219 rfl rfl rfl zC Tryz.info9 rfl rfl rfl (by decide) rfl (by (try simp only[List.length_append,List.length_take,List.length_cons,List.length_nil,zeq,zfb]);omega) (by (try simp only[List.length_append,List.length_take,List.length_cons,List.length_nil,zeq,zfb]);omega) ?_;intro h7 x2 H9 _ x3 f228 l9;subst x3;refine zB ⟨_,Y,_,_,Le.refl _,l9,?_⟩;intro C1 I0 _ d5 m0 _ _ _ _ _ _ _ _ _ _ _ _ _ _ _ _ _ _ _ _ _ _ _ _ _ _ _ _ gv14_0x230 gf14_0x230;refine zH h7 Y ?_;refine zB ⟨_,Y,_,_,Le.refl _,m0,?_⟩;intro m1 I1 _ d6 m2 _ _ _ _ _ _ _ _ _ _ _ _ _ _ _ _ _ _ _ _ _ _ _ _ _ _ _ _ gv14_0x239 gf14_0x239;refine zbk.fin Y<|zaF<|zy Y zaS<|za Y<|zb ?_;have x4:=(((I.t A).t d4).t d5).t d6;refine ⟨⟨j+1,h7,x2,m1⟩,⟨rfl,Y,trivial⟩,?_,⟨x4,m2.take 10,?_,?_⟩,?_⟩
      ·exact zaR
      ·refine OSl.to (f228.up (d5.t d6)) ?_;rw[zaQ hq,ziS,zsh hwl,zkA,P];rfl
      ·first|omega|(simp;omega)
      show (zcM c (mkP k n m)).length-((j+1))<(zcM c (mkP k n m)).length-j;omega
     have f241:=OSl.take (B.up A) (k:=((zgJ ((zcM c (mkP k n m)).take j) (zfu l m)).length-1)) zU;have x5:=(((((g6.t S).t F).t H).t a0).t I).t A;obtain ⟨wl,hwl⟩:∃ y_,((zgJ ((zcM c (mkP k n m)).take j) (zfu l m)))[((zgJ ((zcM c (mkP k n m)).take j) (zfu l m)).length-1)]?=some y_:=zch zU;obtain ⟨I2,I3,A9,_,x6,m3,hr_wl,m4⟩:=OSl.elem (B.up A) hwl;subst x6;obtain ⟨rfl,m5⟩:=hr_wl;simp only[big] at m5;refine zba (er:=([2,11],[16],[0,8],[],0)) (dsts:=[84,85,86,87,88,89,90,91,92,93,94,95,96,97,98,99,16]) b8 Tryz.mixed<|zF (zaW C Y)<|zF (zeH Y) ?_;refine zF (zgq (B.up A) rfl rfl (hk:=(show _=((((zgJ ((zcM c (mkP k n m)).take j) (zfu l m)).length-1):Nat):Int) by omega)) zU zC zaj) ?_;refine zF (zm zai Y zbn)<|zam (fun hD wD Q hL hS hO _ _=>(zr 3 (hL.sub hS) a1 zbO Y)) ?_;refine zF (zdr rfl rfl (show _=((3:Nat):Int) by rw[P];rfl) rfl zfX zfz) ?_;refine zF (zm zcX Y Tryz.sizeOf249)<|zam (fun hD wD Q hL hS hO _ _=>(zr 11 (hL.sub hS) (K0.up x5) Tryz.isAgg249 Y))<|zF (zaW C Y)<|zF (zeH Y) ?_;refine zF (zbz m3 rfl rfl (hk:=(show _=((((zgJ ((zcM c (mkP k n m)).take j) (zfu l m)).length-1):Nat):Int) by omega)) (hu:=zC) (hz:=zaj)) ?_;refine zam (fun hD wD Q hL hS hO _ _=>(zgi (j:=0) ((hO Y).get (k:=9) Y) m4 Y Y Y zaK))<|zF (zm zai Y zaj)<|zam (fun hD wD Q hL hS hO _ _=>(zr 4 (hL.sub hS) a1 zaK Y)) ?_;refine zaT (.res (fun h' res_=>Sl zcn h' res_ ([((q.word))])) (fun _ _ _ hl f=>f.up hl)) ?_ ?_
     ·intro hD wD Q hL hS hO _ _ _ _ _ _;have d7:=St.start hS;refine zdE (fs:=[]) (cs:=[]) d7 rfl rfl rfl rfl Tryz.call294 rfl (zta d7.sub _ (by first|assumption|decide|omega|(simp[big];done)|(simp[big];omega)) _ (by first|assumption|decide|omega|(simp[big];done)|(simp[big];omega))) ?_;intro I4 I5 I6 C2 m6 x7;obtain ⟨I7,x8,f258⟩:=x7;rw[← x8] at f258;have B0:=f258.le;exact zB ⟨_,_,Y,m6,_,Y,f258⟩
     refine zbC<|zbC<|zck<|fun C3 I8 _ d8 m7 _ _ gv14_0x260 gf14_0x260=>?_;refine zaO (k:=9) (nb:=16) m7 (f241.up d8) rfl gf14_0x260 rfl rfl rfl zC Tryz.info9 rfl rfl rfl (by decide) rfl (by (try simp only[List.length_append,List.length_take,List.length_cons,List.length_nil,zeq,zfb]);omega) (by (try simp only[List.length_append,List.length_take,List.length_cons,List.length_nil,zeq,zfb]);omega) ?_;intro h8 x9 I9 _ y0 f269 m8;subst y0;refine zB ⟨_,Y,_,_,Le.refl _,m8,?_⟩;intro C4 J0 _ d9 m9 _ _ _ _ _ _ _ _ _ _ _ _ _ _ _ _ _ _ _ _ _ _ _ _ _ _ _ _ gv14_0x271 gf14_0x271;refine zH h8 Y ?_;refine zB ⟨_,Y,_,_,Le.refl _,m9,?_⟩;intro o0 J1 _ e0 o1 _ _ _ _ _ _ _ _ _ _ _ _ _ _ _ _ _ _ _ _ _ _ _ _ _ _ _ _ gv14_0x280 gf14_0x280;refine zbk.fin Y<|zaF<|zy Y zaS<|za Y<|zb ?_;have y1:=(((I.t A).t d8).t d9).t e0;refine ⟨⟨j+1,h8,x9,o0⟩,⟨rfl,Y,trivial⟩,?_,⟨y1,o1.take 10,?_,?_⟩,?_⟩
     ·exact zaR
     ·refine OSl.to (f269.up (d9.t e0)) ?_;rw[zaQ hq,ziS,zsh hwl,zkA,P];rfl
     ·first|omega|(simp;omega)
     show (zcM c (mkP k n m)).length-((j+1))<(zcM c (mkP k n m)).length-j;omega
    refine zcC<|zz ?_;have hpl:=zun h20 (mkP k n m) (zfu l m) j;have hal:=zpB (k:=k) (n:=n) (m:=m) h20 hll zU;obtain ⟨y2,e1,f284,o2⟩:=OSl.freeze (k:=9) b6 B rfl (by (try simp only[List.length_append,List.length_take,List.length_cons,List.length_nil,zeq,zfb]);omega);refine zag<|zq a6 Y<|zq C Y ?_;refine zaO (k:=8) (nb:=16) o2 (c7.up ((a0.t I).t e1)) rfl f284 rfl rfl rfl zC Tryz.info9 rfl rfl rfl (by decide) rfl (by (try simp only[List.length_append,List.length_take,List.length_cons,List.length_nil,zeq,zfb]);omega) (by (try simp only[List.length_append,List.length_take,List.length_cons,List.length_nil,zeq,zfb]);omega) ?_;intro h9 y3 J2 _ y4 f290 o3;subst y4;refine zH h9 Y<|zB<|zaF<|zy Y zaS<|za Y<|zb ?_;have y5:=((H.t a0).t I).t e1;refine ⟨⟨m+1,h9,y3,y2⟩,⟨rfl,Y,trivial⟩,?_,⟨y5,o3.take 9,?_,?_⟩,?_⟩
    ·exact zaR
    ·refine OSl.to f290 ?_;rw[zpD,zum,List.take_of_length_le zU]
    ·first|omega|(simp;omega)
    show l.length+1-((m+1))<l.length+1-m;omega
   refine zcC<|zz ?_;have hal:=zpB (k:=k) (n:=n) (m:=m) h20 (zkt ht hx hl).1 zU;have o4:=St.none (k:=6) a7 rfl;obtain ⟨B1,o5,a2,o6⟩:=OSl.raw (hO_c6_1.up H);obtain ⟨J3,e2,e3,o7⟩:=a7.freeze (k:=6) rfl;have o8:=zay.of e3;refine zvr (er:=([],[],[],[],0)) (dsts:=[105,106,107,108,109,110,111]) 7 _ Y zbL zbL zbL zbL o7 Tryz.mixed<|zF (zm zaz Y zbu)<|zam (fun hD wD Q hL hS hO _ _=>(zr 1 (hL.sub hS) o8 zbS Y))<|zF (zaW a6 Y)<|zbC<|zbC<|zbC<|zF (zm zaz Y zbu)<|zck<|fun C5 J4 _ b9 o9 _ _=>?_;have p0:=St.front (k:=8) o9 rfl;have con:=ziZ (rest:=[[(b7,.cells (List.toArray [(.slice none 0 0)]) 24)],b4,[],[(g5,.cells (List.toArray [v_c3_0]) 24)],o_c3_0,[],[],o_c6_1,[]]) (c7.up (e2.t b9)) (g:=195) (caps:=[]) (fun x_=>(decide ((x_)=[]))) (by have q_:=zoO (c:=c) (k:=k) (n:=n) (l:=l) h20 m;have q2_:=(zkt ht hx hl).1;omega) Tryz.call195 (fun x_ h_ w_ vs_ le_ hs_ hx_ hr_ u_ hu_=>by cases hu_;obtain ⟨hr1_,hr2_⟩:=hr_;cases hr1_;simp only[big] at hr2_;exact zpm hs_ _ hr2_) p0;refine zbN Y Y (zbJ Y Tryz.call194 Y) (con.mono ?_);rintro _ J5 ⟨J6,J7,c5,rfl,c0,p1,f314⟩;refine ⟨_,Y,?_⟩;clear con;have p2:=St.backAt (k:=8) p1 rfl;refine zB ⟨_,Y,_,_,c0,p2,?_⟩;intro p3 J8 _ a5 p4;refine zhg (L:=zzf) (xs:=[c5]) (cs:=[c5]) p4 (Enc.cons (L:=zzf) (vs:=[c5]) (x:=c5) (h:=p3) ⟨rfl,(f314.up a5).one⟩ Enc.nil) rfl rfl rfl zaJ Tryz.info159 rfl rfl rfl (by obtain ⟨_,_,rfl⟩:=(f314.up a5).form;kernel_rfl) ?_;intro J9 K1 K2 a8 f326 p5;refine zB ⟨_,Y,_,_,a8,p5,?_⟩;intro C6 K3 _ a9 p6 _ _;have j0:=((((e2.t b9).t c0).t a5).t a8).t a9;refine zaO (L:=zzf) (k:=7) (nb:=24) p6 (o5.up j0) rfl (f326.up a9) rfl rfl rfl zaJ Tryz.info159 rfl rfl rfl (by decide) rfl (by have q_:=a2;rw[zeq] at q_;simp only[List.length_cons,List.length_nil];omega) (by have q_:=a2;rw[zeq] at q_;simp only[List.length_cons,List.length_nil];omega) ?_;intro j1 y6 K4 _ y7 f337 p7;subst y7;refine zB ⟨_,Y,_,_,Le.refl _,p7,?_⟩;intro C7 K5 _ b0 p8 _ _ _ _ _ _ _ _;refine zbk.fin Y ?_;refine ⟨rfl,?_⟩;have y8:=((g6.t S).t F).t H;have y9:=((((b9.t c0).t a5).t a8).t a9).t b0;have p9:=St.defrost (O:=[(r2,_)]) p8 y8 (j0.t b0) (by intro p_ hp_;rw[List.mem_singleton] at hp_;subst hp_;exact ⟨y9 _ _ e3,o4⟩) (by simp);have z0:=((a5.t a8).t a9).t b0;have f349:=OSl.heap (fun _ _ _ _ q=>q) (f314.up z0) a3;have f350:=OSl.heap (fun _ _ _ _ q=>q) (f337.up b0) a3;have q0:=St.move (k:=6) (j:=9) p9 rfl rfl (by decide);obtain ⟨z1,c1,f354,q1⟩:=OSl.freeze (k:=8) q0 f349 rfl (Nat.le_trans (List.length_filter_le _ _) zU);obtain ⟨z2,z3⟩:=zzF c1 a2 o6 f354;have f358:=OSl.unraw (f350.up c1) z2 z3;refine zci q1 (k:=6) Y Y (v:=j1) Y f358.one zbu Y Y Y<|fun K6 q2=>zB<|zaF<|zy Y zaS<|za Y<|zb ?_;refine ⟨⟨n+1,j1,y6,z1⟩,⟨rfl,trivial⟩,?_,⟨((F.t H).t c1),q2.take 8,?_,?_⟩,?_⟩
   ·exact zaR
   ·refine OSl.to f358 ?_;rw[zvU hl,zuo,show m=l.length+1 by omega];simp only[ne_eq,decide_not]
   ·first|omega|(simp;omega)
   show x.lines.length-((n+1))<x.lines.length-n;omega
  refine zcC<|zz<|zag<|U zaI Y zbi<|zez (a4.get (k:=3) Y) Y Y zbI Y<|zcI (a4.get (k:=6) Y) Y zgw zbb Y Y ?_;obtain ⟨z4,e4,f363,q3⟩:=OSl.freeze (k:=7) a4 hO_c6_1 rfl (by (try simp only[List.length_append,List.length_take,List.length_cons,List.length_nil,zeq,zfb]);omega);refine zA zax [(Chapter.mk (x.id) (zlb c k x.lines n))] [iV (x.id),v_c6_1] q3 (Enc.cons (L:=zax) (vs:=[iV (x.id),v_c6_1]) (x:=(Chapter.mk (x.id) (zlb c k x.lines n))) (h:=z4) (⟨_,Y,f363⟩) Enc.nil) Y zav Tryz.info158 zbL<|fun K7 K8 z5 e5 f367 q4=>?_;have z6:=((S.t F).t e4).t e5;refine zaO (k:=4) (nb:=32) q4 (hO_c3_0.up z6) rfl f367 rfl rfl rfl zav Tryz.info158 rfl rfl rfl (by decide) rfl (by (try simp only[List.length_append,List.length_take,List.length_cons,List.length_nil,zeq,zfb]);omega) (by (try simp only[List.length_append,List.length_take,List.length_cons,List.length_nil,zeq,zfb]);omega) ?_;intro j2 z7 K9 _ z8 f375 q5;subst z8;refine U zaI Y zbi<|zci q5 (k:=3) Y Y (v:=j2) Y f375.one zbi Y Y Y<|fun L0 q6=>zB<|zaF<|zy Y zaS<|za Y<|zb ?_;have z9:=(((g1.t S).t F).t e4).t e5;refine ⟨⟨k+1,j2,z7,z5⟩,⟨rfl,trivial⟩,?_,⟨z9,q6.take 5,?_,?_⟩,?_⟩
  ·exact zaR
  ·refine OSl.to f375 ?_;rw[zvV hx,show n=x.lines.length by omega];rfl
  ·first|omega|(simp;omega)
  show b.chapters.length-((k+1))<b.chapters.length-k;omega
 refine zcC<|zz<|zx<|zcI (c3.get (k:=3) Y) Y zaG zab Y Y<|zbE c3 (k:=0) Y Y Y (zaX hO_c3_0.one zdv) zab Y Y Y<|fun L1 q7=>?_;obtain ⟨L2,q8,q9,e6⟩:=q7.freeze (k:=0) rfl;have r0:=zay.of q9;refine zj<|zdT Tryz.results145 Y zaG zab Y e6.sub r0 ?_;obtain ⟨A0,C8,f390,r1⟩:=OSl.freeze (k:=4) e6 (hO_c3_0.up q8) rfl (by (try simp only[List.length_append,List.length_take,List.length_cons,List.length_nil,zeq,zfb]);omega);refine ⟨A0,_,Y,r1.done,?_⟩;refine ⟨_,?_,Sl.to f390 ?_⟩
 all_goals first|rfl|(rw[show k=b.chapters.length by omega];rfl)
theorem zox (hs:Sub h w) (l_f:Sl zcn h l_v l):Calls Tryz.prog 147 #[l_v] w (zbe h w (fun _ _ res_=>res_=.bool ((!inB l.length 1 10)))):=by
 refine zl 8 Tryz.func147 Y<|have C:=zbM hs;have l_f_b:=l_f.le;zx<|zd Y<|zb<|zx<|zq l_v Y<|zK l_f zC Y<|zA zcy [(l.length:Int)] [iV (l.length:Int)] C (Enc.cons (L:=zcy) (vs:=[iV (l.length:Int)]) (x:=(l.length:Int)) (h:=h) (Y) Enc.nil) Y zaV Tryz.info3 zbL<|fun Q S T I f3 A=>zn A Y zeP (zeL A.sub _ _ f3)<|fun r7 w8 P H B F=>?_;obtain rfl:=F;refine zcq Y Y<|zd Y<|zj<|zk Tryz.results147 ?_;refine ⟨P,_,Y,B.done,?_⟩;refine zM ?_
 all_goals first|rfl|(simp;done)
set_option maxHeartbeats 4000000 in
theorem zqf (hs:Sub h w) (b_f0:Sl zax h b_v0 b.chapters) (b_c:zay h b_b 0 [b_v0]) (c_f0:Sl zdS h c_v0 c.readings) (K0:zay h 0 0 Tryz.glob0) (ht:zbF b=true):Calls Tryz.prog 93 #[.pointer (some ⟨b_b,0,none⟩),.agg #[iV c.id,c_v0]] w (zbe h w (fun _ _ res_=>res_=.bool ((zjm b c)))):=by
 refine zl 114 Tryz.func93 Y<|have D7:=zbM hs;have A3:=b_f0.le;have A4:=c_f0.le;zx<|ze [iV (c.id),c_v0] D7 Y<|fun b1 w2 h3 D8 j2 A7=>zd Y<|zb<|zat<|U zbt Y zG<|M 0 A7.sub j2 zO Y<|zA zcy [(c.id)] [iV (c.id)] A7 (Enc.cons (L:=zcy) (vs:=[iV (c.id)]) (x:=(c.id)) (h:=h3) (Y) Enc.nil) Y zaV Tryz.info3 zbL<|fun v7 w8 P1 b4 f9 k0=>zn k0 Y zeP (zeL k0.sub _ _ f9)<|fun P2 P3 s5 b5 c5 D9=>?_;obtain rfl:=D9;refine zcq Y Y<|zt Y ?_;refine zbp (d:=18) Y (fun s6=>?_) (fun s6=>?_)
 ·refine zaf 4 Y<|zi Y<|zb ?_;refine zap Y (fun A8=>?_) (fun A8=>?_)
  ·refine zx<|zd Y<|zj<|zJ<|zk zdL ?_;refine ⟨s5,_,Y,c5.done,?_⟩;refine zM ?_
   first|exact zkb (fun q=>by have q_:=s6;simp[q.1] at q_)|exact (zkb (fun q=>by have q_:=s6;simp[q.1] at q_)).symm
  cases A8
 refine Z Y<|U zbt Y zcQ<|Z Y<|M 1 c5.sub (j2.up (b4.t b5)) zdh Y<|Z Y<|have s7:=(D8.t b4).t b5;zK (c_f0.up s7) zbf Y<|Z Y<|zfe Y Y Y<|zh Y<|zb ?_;refine zS Y (fun s8=>?_) (fun s8=>?_)
 ·refine zx<|zd Y<|zj<|zJ<|zk zdL ?_;refine ⟨s5,_,Y,c5.done,?_⟩;refine zM ?_
  first|exact zkb (fun q=>by have q_:=s8;omega)|exact (zkb (fun q=>by have q_:=s8;omega)).symm
 refine zaN<|zaH ?_;have hid:inB c.id 0 9999=true∧c.readings.length≤20:=⟨by simpa using s6,by have q_:=s8;omega⟩;refine zag<|U zbt Y zcQ<|M 1 c5.sub (j2.up (b4.t b5)) zdh Y<|zK (c_f0.up s7) zbf Y<|za Y<|zb<|zT ?_;refine zaM (zcp 4 7++zcp 27 74) (G:=Nat×Heap) (fun ⟨i,j8⟩=>[(27,iV (i:Int))]) (fun ⟨i,j8⟩ w'=>Le s5 j8∧St h w j8 w' []∧(i≤c.readings.length)∧(∀ j,j<i→zjz b c j=true)) (fun ⟨i,j8⟩=>c.readings.length-i) ⟨0,s5⟩ ⟨rfl,trivial⟩ ⟨Le.refl _,c5,zbm,(by intro j hj;omega)⟩ ?_;rintro ⟨i,j8⟩ _ P4 ⟨S,c6,hi,hA⟩;refine zx<|zN Y<|zb<|zaH ?_;refine zS Y (fun E0=>?_) (fun E0=>?_)
 ·refine zaN<|zT<|zx<|za Y ?_;obtain ⟨r,hr⟩:∃ y_,(c.readings)[i]?=some y_:=zch zU;have A9:=s7.t S;obtain ⟨P5,P6,_,t0,t1,hr_r⟩:=Sl.elem (c_f0.up A9) hr;obtain ⟨rfl,E7,t2⟩:=hr_r;simp only[big] at t2;refine zL t0 zbf zby Y<|zg c6.sub t1 zfc zby Y<|zad c6 zet Y Y<|fun P7 P8 t3=>zc Y<|zo 0 t3 Y zby<|fun P9 t4=>?_;obtain ⟨Q0,a1,t5,j4⟩:=t4.freeze (k:=0) rfl;have I:=zay.of t5;refine zb<|zaH<|have qb:=zxS b_f0 r.at_;zag<|zjf Y Y<|U zai Y zP<|zw 0 [iV (r.at_.chapter),iV (r.at_.line),iV (r.at_.word)] j4.sub I zaE zP Y<|have j9:=A9.t a1;zn j4 Y Tryz.call115 (ziu j4.sub (t:=b) (b_f0.up j9) (b_c.up j9) (p:=r.at_))<|fun c4 Q1 B0 C j5 E1=>?_;obtain ⟨Q2,E2,f53⟩:=E1;rw[← E2] at f53;have B3:=f53.le;refine zH c4 Y<|zb<|zat<|zq c4 Y<|zK f53 zC Y<|zeb Y Y Y<|zt Y ?_;refine zaC (d:=39) Y (fun j7=>?_) (fun j7=>?_)
  ·refine zaf 6 Y<|zi Y<|zb ?_;refine zap Y (fun B1=>?_) (fun B1=>?_)
   ·refine zx<|zd Y<|zj<|zJ<|zan<|zJ<|zan<|zk zdL ?_;refine ⟨B0,_,Y,j5.done,?_⟩;refine zM ?_
    first|exact zcA hr (by have q_:((zcc b r.at_).getD [])=[]:=List.eq_nil_of_length_eq_zero (by have q2_:=j7;omega);simp[zfo,q_])|exact (zcA hr (by have q_:((zcc b r.at_).getD [])=[]:=List.eq_nil_of_length_eq_zero (by have q2_:=j7;omega);simp[zfo,q_])).symm
   cases B1
  refine Z Y<|U zai Y zbn<|Z Y<|M 3 j5.sub (I.up C) zbO Y<|Z Y ?_;refine zar rfl rfl (zhi rfl rfl zcu (IntWalk.i64_in _ zU)) ?_;refine Z Y<|zA zcy [(r.kind)] [iV (r.kind)] j5 (Enc.cons (L:=zcy) (vs:=[iV (r.kind)]) (x:=(r.kind)) (h:=B0) (Y) Enc.nil) Y zaV Tryz.info3 zbL<|fun Q3 Q4 Q5 A f59 k1=>Z Y<|zn k1 Y zeP (zeL k1.sub _ _ f59)<|fun Q6 Q7 E3 B a3 E4=>?_;obtain rfl:=E4;refine Z Y<|zcq Y Y<|zh Y<|zb ?_;refine zap Y (fun s9=>?_) (fun s9=>?_)
  ·refine zx<|zd Y<|zj<|zJ<|zan<|zJ<|zan<|zk zdL ?_;refine ⟨E3,_,Y,a3.done,?_⟩;refine zM ?_
   first|exact zcA hr (by have q_:=s9;simp at q_;simp[zfo,q_])|exact (zcA hr (by have q_:=s9;simp at q_;simp[zfo,q_])).symm
  refine zaN ?_;have hkd:1≤r.kind∧r.kind≤3:=by have q_:=s9;simp[inB] at q_;omega
  have hol:=zCB ht r.at_ r.at_.word.toNat
  rcases (show r.kind=1∨r.kind=2∨r.kind=3 by omega) with P|P|P
  ·refine zag<|U zai Y zbn<|M 3 a3.sub (I.up ((C.t A).t B)) zbO Y ?_;refine zar rfl rfl (zdr rfl rfl (show _=((1:Nat):Int) by rw[P];rfl) rfl zfX zfz) ?_;have B2:=((j9.t C).t A).t B;refine zw 3 [iV 0,.func (.func 289) #[] #[],.func (.func 290) #[] #[]] a3.sub (K0.up B2) Tryz.isAgg251 zfz Y<|zad a3 Tryz.zeroValue251 Y Y<|fun Q8 Q9 t6=>zo 1 t6 Y zfz<|fun R0 t7=>?_;obtain ⟨R1,a2,t8,k2⟩:=t7.freeze (k:=1) rfl;have j6:=zay.of t8;refine zb<|zaH<|zaH ?_;have R2:=((C.t A).t B).t a2
   rcases Bool.eq_false_or_eq_true ((!(zcJ (([(r.at_.word)])) (0) ((((((zcc (b) (r.at_)).getD []).length:Int)-1)+0))))) with j3|j3
   ·have c7:=j3;have E5:=((C.t A).t B).t a2;refine zba (er:=([],[],[],[],0)) (dsts:=[51,52,53,54,55,56,57,58,59,60,61,62,63,64,65,66,67,68,69,70,71,72,73,74,75]) k2 Tryz.mixed<|zF (zaW c4 Y)<|zF (znr (f53.up ((A.t B).t a2)) Y zC)<|zF (zlc Y Y zaS)<|zF (zm zcX Y zG)<|zam (fun hD wD F Q H hO _ _=>(zr 0 (Q.sub H) j6 zO Y))<|zF (zjC Y Y zaS)<|zF (zm zai Y zP)<|zF (zm zal Y zG)<|zam (fun hD wD F Q H hO _ _=>(zr 2 (Q.sub H) (I.up E5) zO Y)) ?_;refine zaT (.res (fun h' res_=>Sl zcy h' res_ ([(r.at_.word)])) (fun _ _ _ hl f=>f.up hl)) ?_ ?_
    ·intro hD wD F Q H hO _ _;have t9:=St.start H;refine zA zcy [(r.at_.word)] [iV (r.at_.word)] t9 (Enc.cons (L:=zcy) (vs:=[iV (r.at_.word)]) (x:=(r.at_.word)) (h:=hD) (Y) Enc.nil) Y zaV Tryz.info3 zbL<|fun R3 R4 R5 E8 f88 v0=>?_;exact zB ⟨_,_,Y,v0,_,Y,f88⟩
    refine zaT (.det (.bool (zcJ (([(r.at_.word)])) (0) ((((((zcc (b) (r.at_)).getD []).length:Int)-1)+0))))) ?_ ?_
    ·intro hD wD F Q H hO _ _ gv9_0 gf9_0;have k3:=St.start H;refine zn k3 Y zeP (zeL k3.sub _ _ gf9_0)<|fun R6 R7 R8 E9 v1 E6=>?_;obtain rfl:=E6;exact zB ⟨_,_,Y,v1,(),Y,trivial⟩
    refine zF (Run.lit (zlD Y) c7)<|zF (zjT Y)<|zct Y<|zct Y<|zct Y<|zct Y<|zct Y<|zct Y<|zct Y<|zct Y<|zct Y<|zct Y<|zct Y<|zF (znV (v:=(.bool _)) Y Y)<|zck<|fun v2 F0 _ B4 l7 _ _ _ _ _ _ _ _ _ _ _ _ _ _ _ _ _ _ gv9_0x103 gf9_0x103 _ _ _ _ _ _ _ _ _ _ _ _ _ _ _ _ _ _ _ _ _ _ _ _ _ _ _ _ _ _=>zbk.fin Y<|zz ?_;refine zap Y (fun k4=>?_) (fun k4=>?_)
    ·refine zx<|zd Y<|zj<|zJ<|zan<|zJ<|zan<|zk zdL ?_;refine ⟨v2,_,Y,l7.done,?_⟩;refine zM ?_
     first|exact zcA hr (by have q_:=j3;simp at q_;simp[zfo,P,q_])|exact (zcA hr (by have q_:=j3;simp at q_;simp[zfo,P,q_])).symm
    cases k4
   have c7:=j3;have d8:=((C.t A).t B).t a2;refine zba (er:=([],[],[],[],0)) (dsts:=[51,52,53,54,55,56,57,58,59,60,61,62,63,64,65,66,67,68,69,70,71,72,73,74,75]) k2 Tryz.mixed<|zF (zaW c4 Y)<|zF (znr (f53.up ((A.t B).t a2)) Y zC)<|zF (zlc Y Y zaS)<|zF (zm zcX Y zG)<|zam (fun hD wD F Q H hO _ _=>(zr 0 (Q.sub H) j6 zO Y))<|zF (zjC Y Y zaS)<|zF (zm zai Y zP)<|zF (zm zal Y zG)<|zam (fun hD wD F Q H hO _ _=>(zr 2 (Q.sub H) (I.up d8) zO Y)) ?_;refine zaT (.res (fun h' res_=>Sl zcy h' res_ ([(r.at_.word)])) (fun _ _ _ hl f=>f.up hl)) ?_ ?_
   ·intro hD wD F Q H hO _ _;have l8:=St.start H;refine zA zcy [(r.at_.word)] [iV (r.at_.word)] l8 (Enc.cons (L:=zcy) (vs:=[iV (r.at_.word)]) (x:=(r.at_.word)) (h:=hD) (Y) Enc.nil) Y zaV Tryz.info3 zbL<|fun F1 F2 F3 B5 f109 l9=>?_;exact zB ⟨_,_,Y,l9,_,Y,f109⟩
   refine zaT (.det (.bool (zcJ (([(r.at_.word)])) (0) ((((((zcc (b) (r.at_)).getD []).length:Int)-1)+0))))) ?_ ?_
   ·intro hD wD F Q H hO _ _ gv9_0 gf9_0;have e9:=St.start H;refine zn e9 Y zeP (zeL e9.sub _ _ gf9_0)<|fun F4 F5 F6 B6 m0 v3=>?_;subst v3;exact zB ⟨_,_,Y,m0,(),Y,trivial⟩
   refine zF (Run.lit (zlD Y) c7)<|zF (zjT Y)<|zdN ⟨rfl,(zm zcX Y Tryz.sizeOf248)⟩<|zgy (fun hD wD F Q H hO _ _ _ _=>⟨rfl,(zr 1 (Q.sub H) j6 Tryz.isAgg248 Y)⟩)<|zdN ⟨rfl,(zaW c4 Y)⟩<|zdN ⟨rfl,(zm zai Y zP)⟩<|zdN ⟨rfl,(zm zal Y zG)⟩<|zgy (fun hD wD F Q H hO _ _ _ _=>⟨rfl,(zr 2 (Q.sub H) (I.up d8) zO Y)⟩) ?_;refine zaT (.det (zae ((zfu (((zcc (b) (r.at_)).getD [])) ((r.at_.word)).toNat)))) ?_ ?_
   ·intro hD wD F Q H hO _ _ _ _ _ _;have g0:=St.start H;refine Z Y ?_;refine zaD g0 rfl rfl rfl Tryz.call143 rfl (zmP g0.sub (f53.up (((A.t B).t a2).trans Q)) _ (by have q_:=j3;simp[inB] at q_;omega)) ?_;intro F7 F8 F9 B7 m1 v4;subst v4;exact zB ⟨_,_,Y,m1,(),Y,trivial⟩
   refine zdN ⟨rfl,(zm zai Y zaj)⟩<|zgy (fun hD wD F Q H hO _ _ _ _=>⟨rfl,(zr 4 (Q.sub H) (I.up d8) zaK Y)⟩) ?_;refine zaT (.det (.bool ((decide (((r.word))=[]))))) ?_ ?_
   ·intro hD wD F Q H hO _ _ _ _ _ _ _ _;have g1:=St.start H;refine Z Y ?_;refine zdE (fs:=[]) (cs:=[]) g1 rfl rfl rfl rfl Tryz.call289 rfl (ztf g1.sub _ (by first|assumption|decide|omega|(simp[big];done)|(simp[big];omega)) _ (by first|assumption|decide|omega|(simp[big];done)|(simp[big];omega))) ?_;intro G0 G1 G2 B8 m2 v5;subst v5;exact zB ⟨_,_,Y,m2,(),Y,trivial⟩
   refine zdN ⟨rfl,(zlD Y)⟩<|zF (zkj (v:=(.bool _)) Y Y)<|zck<|fun g2 G3 _ a4 a7 _ _ _ _ _ _ _ _ _ _ _ _ _ _ _ _ _ _ gv9_0x138 gf9_0x138 _ _ _ _ _ _ _ _ _ _ _ _ _ _ _ _ _ _ _ _ _ _ _ _ _ _ _ _ _ _=>zbk.fin Y<|zz ?_;refine zap Y (fun d9=>?_) (fun d9=>?_)
   ·refine zx<|zd Y<|zj<|zJ<|zan<|zJ<|zan<|zk zdL ?_;refine ⟨g2,_,Y,a7.done,?_⟩;refine zM ?_
    first|exact zcA hr (by have q_:=d9;first|(simp at q_;simp[zfo,zgR,P,q_];done)|(simp at q_;cases hwb:zdI r.word <;> simp_all[zfo,zgR]))|exact (zcA hr (by have q_:=d9;first|(simp at q_;simp[zfo,zgR,P,q_];done)|(simp at q_;cases hwb:zdI r.word <;> simp_all[zfo,zgR]))).symm
   refine zaN<|zaH ?_;have hQ:zfo b r=true:=by have q1_:=j7;have q2_:=j3;have q3_:=d9;have q4_:((zcc b r.at_).getD [])≠[]:=fun e_=>q1_ (by rw[e_];rfl);simp at q2_ q3_;simp[zfo,zgR,P,q2_,q3_,q4_];try rfl
   refine zag<|za Y<|zeb Y Y Y<|zb ?_;refine zS Y (fun v6=>?_) (fun v6=>?_)
   ·refine zhq<|zcV<|zgg<|zz<|zag<|zy Y zaS<|za Y<|zb ?_;have v8:=(((((S.t a1).t C).t A).t B).t a2).t a4;refine ⟨⟨i+1,g2⟩,⟨rfl,trivial⟩,?_,⟨v8,a7.take 0,?_,?_⟩,?_⟩
    ·exact zaR
    ·first|omega|(simp;omega)
    ·intro j hj
     rcases Nat.lt_or_eq_of_le (Nat.le_of_lt_succ hj) with h_|h_
     ·exact hA j h_
     ·rw[h_,zhH hr,hQ,Bool.true_and]
      first|(rw[show i=0 by omega];rfl)|(rw[zds zU hq];simp only[Bool.or_eq_true,Bool.and_eq_true,decide_eq_true_eq];omega)
    show c.readings.length-((i+1))<c.readings.length-i;omega
   refine zdF<|zx<|U zbt Y zcQ<|have v9:=(((((((b4.t b5).t S).t a1).t C).t A).t B).t a2).t a4;M 1 a7.sub (j2.up v9) zdh Y<|za Y<|zfG Y Y zaS Y ?_;obtain ⟨q,hq⟩:∃ y_,(c.readings)[(i-1)]?=some y_:=zch zU;have w0:=(B2.t a2).t a4;obtain ⟨G4,G5,_,m3,m4,hr_q⟩:=Sl.elem (c_f0.up w0) hq;obtain ⟨rfl,B9,m5⟩:=hr_q;simp only[big] at m5;refine zar rfl rfl (zbz m3 rfl rfl (hk:=(show _=(((i-1):Nat):Int) by omega)) (hu:=zbf) (hz:=zby)) ?_;refine zg a7.sub m4 zfc zby Y<|zad a7 zet Y Y<|fun G6 G7 m6=>zo 2 m6 Y zby<|fun G8 m7=>?_;obtain ⟨G9,c8,m8,c0⟩:=m7.freeze (k:=2) rfl;have g3:=zay.of m8;refine zb<|zx<|U zai Y zP<|zw 0 [iV (q.at_.chapter),iV (q.at_.line),iV (q.at_.word)] c0.sub g3 zaE zP Y<|U zai Y zP<|zw 0 [iV (r.at_.chapter),iV (r.at_.line),iV (r.at_.word)] c0.sub (I.up ((d8.t a4).t c8)) zaE zP Y<|zn c0 Y Tryz.call144 (zmQ c0.sub (a:=q.at_) (b:=r.at_))<|fun H0 H1 e0 c9 a8 w1=>?_;subst w1;refine zc Y<|zb<|zx<|za Y<|zfe Y Y Y<|zt Y ?_;refine zaC (d:=91) Y (fun w3=>?_) (fun w3=>?_)
   ·refine zaf 7 Y<|zi Y<|zb ?_;refine zap Y (fun k5=>?_) (fun k5=>?_)
    ·refine zx<|zd Y<|zj<|zan<|zJ<|zan<|zk zdL ?_;refine ⟨e0,_,Y,a8.done,?_⟩;refine zM ?_
     first|exact zcA hr (by rw[zds zU hq,decide_eq_false (show ¬ zgA q.at_ r.at_<0 by omega),decide_eq_false (show ¬ zgA q.at_ r.at_=0 by omega)];simp)|exact (zcA hr (by rw[zds zU hq,decide_eq_false (show ¬ zgA q.at_ r.at_<0 by omega),decide_eq_false (show ¬ zgA q.at_ r.at_=0 by omega)];simp)).symm
    cases k5
   refine Z Y<|za Y<|Z Y<|zeb Y Y Y<|Z Y<|zt Y ?_;refine zaC (d:=94) Y (fun w4=>?_) (fun w4=>?_)
   ·refine Z Y<|U zai Y zbn<|Z Y<|M 3 a8.sub (g3.up c9) zbO Y<|Z Y<|zao Y<|Z Y<|zi Y<|zh Y<|zb ?_;refine zS Y (fun w5=>?_) (fun w5=>?_)
    ·refine zx<|zd Y<|zj<|zan<|zJ<|zan<|zk zdL ?_;refine ⟨e0,_,Y,a8.done,?_⟩;refine zM ?_
     first|exact zcA hr (by rw[zds zU hq,decide_eq_false (show ¬ zgA q.at_ r.at_<0 by omega),decide_eq_false (show ¬ q.kind=2 by omega)];simp)|exact (zcA hr (by rw[zds zU hq,decide_eq_false (show ¬ zgA q.at_ r.at_<0 by omega),decide_eq_false (show ¬ q.kind=2 by omega)];simp)).symm
    refine zbj<|zaF<|zy Y zaS<|za Y<|zb ?_;have w6:=(((((((S.t a1).t C).t A).t B).t a2).t a4).t c8).t c9;refine ⟨⟨i+1,e0⟩,⟨rfl,trivial⟩,?_,⟨w6,a8.take 0,?_,?_⟩,?_⟩
    ·exact zaR
    ·first|omega|(simp;omega)
    ·intro j hj
     rcases Nat.lt_or_eq_of_le (Nat.le_of_lt_succ hj) with h_|h_
     ·exact hA j h_
     ·rw[h_,zhH hr,hQ,Bool.true_and]
      first|(rw[show i=0 by omega];rfl)|(rw[zds zU hq];simp only[Bool.or_eq_true,Bool.and_eq_true,decide_eq_true_eq];omega)
    show c.readings.length-((i+1))<c.readings.length-i;omega
   refine zaf 3 Y<|Z Y<|zh Y<|zh Y<|zb ?_;refine zap Y (fun k6=>?_) (fun k6=>?_)
   ·cases k6
   refine zbj<|zaF<|zy Y zaS<|za Y<|zb ?_;have w7:=(((((((S.t a1).t C).t A).t B).t a2).t a4).t c8).t c9;refine ⟨⟨i+1,e0⟩,⟨rfl,trivial⟩,?_,⟨w7,a8.take 0,?_,?_⟩,?_⟩
   ·exact zaR
   ·first|omega|(simp;omega)
   ·intro j hj
    rcases Nat.lt_or_eq_of_le (Nat.le_of_lt_succ hj) with h_|h_
    ·exact hA j h_
    ·rw[h_,zhH hr,hQ,Bool.true_and]
     first|(rw[show i=0 by omega];rfl)|(rw[zds zU hq];simp only[Bool.or_eq_true,Bool.and_eq_true,decide_eq_true_eq];omega)
   show c.readings.length-((i+1))<c.readings.length-i;omega
  ·refine zag<|U zai Y zbn<|M 3 a3.sub (I.up ((C.t A).t B)) zbO Y ?_;refine zar rfl rfl (zdr rfl rfl (show _=((2:Nat):Int) by rw[P];rfl) rfl zfX zfz) ?_;have k7:=((j9.t C).t A).t B;refine zw 6 [iV 1,.func (.func 291) #[] #[],.func (.func 292) #[] #[]] a3.sub (K0.up k7) Tryz.isAgg251 zfz Y<|zad a3 Tryz.zeroValue251 Y Y<|fun H2 H3 m9=>zo 1 m9 Y zfz<|fun H4 o0=>?_;obtain ⟨H5,T,o1,g4⟩:=o0.freeze (k:=1) rfl;have d0:=zay.of o1;refine zb<|zaH<|zaH ?_;have H6:=((C.t A).t B).t T
   rcases Bool.eq_false_or_eq_true ((!(zcJ (([(r.at_.word)])) (0) ((((((zcc (b) (r.at_)).getD []).length:Int)-1)+1))))) with b6|b6
   ·have b8:=b6;have w9:=((C.t A).t B).t T;refine zba (er:=([],[],[],[],0)) (dsts:=[51,52,53,54,55,56,57,58,59,60,61,62,63,64,65,66,67,68,69,70,71,72,73,74,75]) g4 Tryz.mixed<|zF (zaW c4 Y)<|zF (znr (f53.up ((A.t B).t T)) Y zC)<|zF (zlc Y Y zaS)<|zF (zm zcX Y zG)<|zam (fun hD wD F Q H hO _ _=>(zr 0 (Q.sub H) d0 zO Y))<|zF (zjC Y Y zaS)<|zF (zm zai Y zP)<|zF (zm zal Y zG)<|zam (fun hD wD F Q H hO _ _=>(zr 2 (Q.sub H) (I.up w9) zO Y)) ?_;refine zaT (.res (fun h' res_=>Sl zcy h' res_ ([(r.at_.word)])) (fun _ _ _ hl f=>f.up hl)) ?_ ?_
    ·intro hD wD F Q H hO _ _;have o2:=St.start H;refine zA zcy [(r.at_.word)] [iV (r.at_.word)] o2 (Enc.cons (L:=zcy) (vs:=[iV (r.at_.word)]) (x:=(r.at_.word)) (h:=hD) (Y) Enc.nil) Y zaV Tryz.info3 zbL<|fun H7 H8 H9 C0 f190 o3=>?_;exact zB ⟨_,_,Y,o3,_,Y,f190⟩
    refine zaT (.det (.bool (zcJ (([(r.at_.word)])) (0) ((((((zcc (b) (r.at_)).getD []).length:Int)-1)+1))))) ?_ ?_
    ·intro hD wD F Q H hO _ _ gv9_0 gf9_0;have g5:=St.start H;refine zn g5 Y zeP (zeL g5.sub _ _ gf9_0)<|fun I0 I1 I2 C1 o4 x0=>?_;subst x0;exact zB ⟨_,_,Y,o4,(),Y,trivial⟩
    refine zF (Run.lit (zlD Y) b8)<|zF (zjT Y)<|zct Y<|zct Y<|zct Y<|zct Y<|zct Y<|zct Y<|zct Y<|zct Y<|zct Y<|zct Y<|zct Y<|zF (znV (v:=(.bool _)) Y Y)<|zck<|fun o5 I3 _ C2 o6 _ _ _ _ _ _ _ _ _ _ _ _ _ _ _ _ _ _ gv9_0x205 gf9_0x205 _ _ _ _ _ _ _ _ _ _ _ _ _ _ _ _ _ _ _ _ _ _ _ _ _ _ _ _ _ _=>zbk.fin Y<|zz ?_;refine zap Y (fun k8=>?_) (fun k8=>?_)
    ·refine zx<|zd Y<|zj<|zJ<|zan<|zJ<|zan<|zk zdL ?_;refine ⟨o5,_,Y,o6.done,?_⟩;refine zM ?_
     first|exact zcA hr (by have q_:=b6;simp at q_;simp[zfo,P,q_])|exact (zcA hr (by have q_:=b6;simp at q_;simp[zfo,P,q_])).symm
    cases k8
   have b8:=b6;have e1:=((C.t A).t B).t T;refine zba (er:=([],[],[],[],0)) (dsts:=[51,52,53,54,55,56,57,58,59,60,61,62,63,64,65,66,67,68,69,70,71,72,73,74,75]) g4 Tryz.mixed<|zF (zaW c4 Y)<|zF (znr (f53.up ((A.t B).t T)) Y zC)<|zF (zlc Y Y zaS)<|zF (zm zcX Y zG)<|zam (fun hD wD F Q H hO _ _=>(zr 0 (Q.sub H) d0 zO Y))<|zF (zjC Y Y zaS)<|zF (zm zai Y zP)<|zF (zm zal Y zG)<|zam (fun hD wD F Q H hO _ _=>(zr 2 (Q.sub H) (I.up e1) zO Y)) ?_;refine zaT (.res (fun h' res_=>Sl zcy h' res_ ([(r.at_.word)])) (fun _ _ _ hl f=>f.up hl)) ?_ ?_
   ·intro hD wD F Q H hO _ _;have o7:=St.start H;refine zA zcy [(r.at_.word)] [iV (r.at_.word)] o7 (Enc.cons (L:=zcy) (vs:=[iV (r.at_.word)]) (x:=(r.at_.word)) (h:=hD) (Y) Enc.nil) Y zaV Tryz.info3 zbL<|fun I4 I5 I6 C3 f211 o8=>?_;exact zB ⟨_,_,Y,o8,_,Y,f211⟩
   refine zaT (.det (.bool (zcJ (([(r.at_.word)])) (0) ((((((zcc (b) (r.at_)).getD []).length:Int)-1)+1))))) ?_ ?_
   ·intro hD wD F Q H hO _ _ gv9_0 gf9_0;have g6:=St.start H;refine zn g6 Y zeP (zeL g6.sub _ _ gf9_0)<|fun I7 I8 I9 C4 o9 x1=>?_;subst x1;exact zB ⟨_,_,Y,o9,(),Y,trivial⟩
   refine zF (Run.lit (zlD Y) b8)<|zF (zjT Y)<|zdN ⟨rfl,(zm zcX Y Tryz.sizeOf248)⟩<|zgy (fun hD wD F Q H hO _ _ _ _=>⟨rfl,(zr 1 (Q.sub H) d0 Tryz.isAgg248 Y)⟩)<|zdN ⟨rfl,(zaW c4 Y)⟩<|zdN ⟨rfl,(zm zai Y zP)⟩<|zdN ⟨rfl,(zm zal Y zG)⟩<|zgy (fun hD wD F Q H hO _ _ _ _=>⟨rfl,(zr 2 (Q.sub H) (I.up e1) zO Y)⟩) ?_;refine zaT (.det (zae ((zfu (((zcc (b) (r.at_)).getD [])) ((r.at_.word)).toNat)))) ?_ ?_
   ·intro hD wD F Q H hO _ _ _ _ _ _;have g7:=St.start H;refine Z Y ?_;refine zaD g7 rfl rfl rfl Tryz.call143 rfl (zmP g7.sub (f53.up (((A.t B).t T).trans Q)) _ (by have q_:=b6;simp[inB] at q_;omega)) ?_;intro J0 J1 J2 C5 p0 x2;subst x2;exact zB ⟨_,_,Y,p0,(),Y,trivial⟩
   refine zdN ⟨rfl,(zm zai Y zaj)⟩<|zgy (fun hD wD F Q H hO _ _ _ _=>⟨rfl,(zr 4 (Q.sub H) (I.up e1) zaK Y)⟩) ?_;refine zaT (.det (.bool ((zdI ((r.word)))))) ?_ ?_
   ·intro hD wD F Q H hO _ _ _ _ _ _ _ _;have g8:=St.start H;refine Z Y ?_;refine zdE (fs:=[]) (cs:=[]) g8 rfl rfl rfl rfl Tryz.call291 rfl (ztd g8.sub _ (by first|assumption|decide|omega|(simp[big];done)|(simp[big];omega)) _ (by first|assumption|decide|omega|(simp[big];done)|(simp[big];omega))) ?_;intro J3 J4 J5 C6 p1 x3;subst x3;exact zB ⟨_,_,Y,p1,(),Y,trivial⟩
   refine zdN ⟨rfl,(zlD Y)⟩<|zF (zkj (v:=(.bool _)) Y Y)<|zck<|fun g9 J6 _ a5 a9 _ _ _ _ _ _ _ _ _ _ _ _ _ _ _ _ _ _ gv9_0x240 gf9_0x240 _ _ _ _ _ _ _ _ _ _ _ _ _ _ _ _ _ _ _ _ _ _ _ _ _ _ _ _ _ _=>zbk.fin Y<|zz ?_;refine zap Y (fun e2=>?_) (fun e2=>?_)
   ·refine zx<|zd Y<|zj<|zJ<|zan<|zJ<|zan<|zk zdL ?_;refine ⟨g9,_,Y,a9.done,?_⟩;refine zM ?_
    first|exact zcA hr (by have q_:=e2;first|(simp at q_;simp[zfo,zgR,P,q_];done)|(simp at q_;cases hwb:zdI r.word <;> simp_all[zfo,zgR]))|exact (zcA hr (by have q_:=e2;first|(simp at q_;simp[zfo,zgR,P,q_];done)|(simp at q_;cases hwb:zdI r.word <;> simp_all[zfo,zgR]))).symm
   refine zaN<|zaH ?_;have hQ:zfo b r=true:=by have q1_:=j7;have q2_:=b6;have q3_:=e2;have q4_:((zcc b r.at_).getD [])≠[]:=fun e_=>q1_ (by rw[e_];rfl);simp at q2_ q3_;simp[zfo,zgR,P,q2_,q3_,q4_];try rfl
   refine zag<|za Y<|zeb Y Y Y<|zb ?_;refine zS Y (fun x4=>?_) (fun x4=>?_)
   ·refine zhq<|zcV<|zgg<|zz<|zag<|zy Y zaS<|za Y<|zb ?_;have x5:=(((((S.t a1).t C).t A).t B).t T).t a5;refine ⟨⟨i+1,g9⟩,⟨rfl,trivial⟩,?_,⟨x5,a9.take 0,?_,?_⟩,?_⟩
    ·exact zaR
    ·first|omega|(simp;omega)
    ·intro j hj
     rcases Nat.lt_or_eq_of_le (Nat.le_of_lt_succ hj) with h_|h_
     ·exact hA j h_
     ·rw[h_,zhH hr,hQ,Bool.true_and]
      first|(rw[show i=0 by omega];rfl)|(rw[zds zU hq];simp only[Bool.or_eq_true,Bool.and_eq_true,decide_eq_true_eq];omega)
    show c.readings.length-((i+1))<c.readings.length-i;omega
   refine zdF<|zx<|U zbt Y zcQ<|have x6:=(((((((b4.t b5).t S).t a1).t C).t A).t B).t T).t a5;M 1 a9.sub (j2.up x6) zdh Y<|za Y<|zfG Y Y zaS Y ?_;obtain ⟨q,hq⟩:∃ y_,(c.readings)[(i-1)]?=some y_:=zch zU;have x7:=(k7.t T).t a5;obtain ⟨J7,J8,_,p2,p3,hr_q⟩:=Sl.elem (c_f0.up x7) hq;obtain ⟨rfl,C7,p4⟩:=hr_q;simp only[big] at p4;refine zar rfl rfl (zbz p2 rfl rfl (hk:=(show _=(((i-1):Nat):Int) by omega)) (hu:=zbf) (hz:=zby)) ?_;refine zg a9.sub p3 zfc zby Y<|zad a9 zet Y Y<|fun J9 K1 p5=>zo 2 p5 Y zby<|fun K2 p6=>?_;obtain ⟨K3,d1,p7,c1⟩:=p6.freeze (k:=2) rfl;have h0:=zay.of p7;refine zb<|zx<|U zai Y zP<|zw 0 [iV (q.at_.chapter),iV (q.at_.line),iV (q.at_.word)] c1.sub h0 zaE zP Y<|U zai Y zP<|zw 0 [iV (r.at_.chapter),iV (r.at_.line),iV (r.at_.word)] c1.sub (I.up ((e1.t a5).t d1)) zaE zP Y<|zn c1 Y Tryz.call144 (zmQ c1.sub (a:=q.at_) (b:=r.at_))<|fun K4 K5 e3 d2 b0 x8=>?_;subst x8;refine zc Y<|zb<|zx<|za Y<|zfe Y Y Y<|zt Y ?_;refine zaC (d:=91) Y (fun x9=>?_) (fun x9=>?_)
   ·refine zaf 7 Y<|zi Y<|zb ?_;refine zap Y (fun k9=>?_) (fun k9=>?_)
    ·refine zx<|zd Y<|zj<|zan<|zJ<|zan<|zk zdL ?_;refine ⟨e3,_,Y,b0.done,?_⟩;refine zM ?_
     first|exact zcA hr (by rw[zds zU hq,decide_eq_false (show ¬ zgA q.at_ r.at_<0 by omega),decide_eq_false (show ¬ zgA q.at_ r.at_=0 by omega)];simp)|exact (zcA hr (by rw[zds zU hq,decide_eq_false (show ¬ zgA q.at_ r.at_<0 by omega),decide_eq_false (show ¬ zgA q.at_ r.at_=0 by omega)];simp)).symm
    cases k9
   refine Z Y<|za Y<|Z Y<|zeb Y Y Y<|Z Y<|zt Y ?_;refine zaC (d:=94) Y (fun y0=>?_) (fun y0=>?_)
   ·refine Z Y<|U zai Y zbn<|Z Y<|M 3 b0.sub (h0.up d2) zbO Y<|Z Y<|zao Y<|Z Y<|zi Y<|zh Y<|zb ?_;refine zS Y (fun y1=>?_) (fun y1=>?_)
    ·refine zx<|zd Y<|zj<|zan<|zJ<|zan<|zk zdL ?_;refine ⟨e3,_,Y,b0.done,?_⟩;refine zM ?_
     first|exact zcA hr (by rw[zds zU hq,decide_eq_false (show ¬ zgA q.at_ r.at_<0 by omega),decide_eq_false (show ¬ q.kind=2 by omega)];simp)|exact (zcA hr (by rw[zds zU hq,decide_eq_false (show ¬ zgA q.at_ r.at_<0 by omega),decide_eq_false (show ¬ q.kind=2 by omega)];simp)).symm
    refine zbj<|zaF<|zy Y zaS<|za Y<|zb ?_;have y2:=(((((((S.t a1).t C).t A).t B).t T).t a5).t d1).t d2;refine ⟨⟨i+1,e3⟩,⟨rfl,trivial⟩,?_,⟨y2,b0.take 0,?_,?_⟩,?_⟩
    ·exact zaR
    ·first|omega|(simp;omega)
    ·intro j hj
     rcases Nat.lt_or_eq_of_le (Nat.le_of_lt_succ hj) with h_|h_
     ·exact hA j h_
     ·rw[h_,zhH hr,hQ,Bool.true_and]
      first|(rw[show i=0 by omega];rfl)|(rw[zds zU hq];simp only[Bool.or_eq_true,Bool.and_eq_true,decide_eq_true_eq];omega)
    show c.readings.length-((i+1))<c.readings.length-i;omega
   refine zaf 3 Y<|Z Y<|zh Y<|zh Y<|zb ?_;refine zap Y (fun l0=>?_) (fun l0=>?_)
   ·cases l0
   refine zbj<|zaF<|zy Y zaS<|za Y<|zb ?_;have y3:=(((((((S.t a1).t C).t A).t B).t T).t a5).t d1).t d2;refine ⟨⟨i+1,e3⟩,⟨rfl,trivial⟩,?_,⟨y3,b0.take 0,?_,?_⟩,?_⟩
   ·exact zaR
   ·first|omega|(simp;omega)
   ·intro j hj
    rcases Nat.lt_or_eq_of_le (Nat.le_of_lt_succ hj) with h_|h_
    ·exact hA j h_
    ·rw[h_,zhH hr,hQ,Bool.true_and]
     first|(rw[show i=0 by omega];rfl)|(rw[zds zU hq];simp only[Bool.or_eq_true,Bool.and_eq_true,decide_eq_true_eq];omega)
   show c.readings.length-((i+1))<c.readings.length-i;omega
  refine zag<|U zai Y zbn<|M 3 a3.sub (I.up ((C.t A).t B)) zbO Y ?_;refine zar rfl rfl (zdr rfl rfl (show _=((3:Nat):Int) by rw[P];rfl) rfl zfX zfz) ?_;have l1:=((j9.t C).t A).t B;refine zw 9 [iV 0,.func (.func 293) #[] #[],.func (.func 294) #[] #[]] a3.sub (K0.up l1) Tryz.isAgg251 zfz Y<|zad a3 Tryz.zeroValue251 Y Y<|fun K6 K7 p8=>zo 1 p8 Y zfz<|fun K8 p9=>?_;obtain ⟨K9,a0,q0,h1⟩:=p9.freeze (k:=1) rfl;have d3:=zay.of q0;refine zb<|zaH<|zaH ?_;have L0:=((C.t A).t B).t a0
  rcases Bool.eq_false_or_eq_true ((!(zcJ (([(r.at_.word)])) (0) ((((((zcc (b) (r.at_)).getD []).length:Int)-1)+0))))) with b7|b7
  ·have b9:=b7;have y4:=((C.t A).t B).t a0;refine zba (er:=([],[],[],[],0)) (dsts:=[51,52,53,54,55,56,57,58,59,60,61,62,63,64,65,66,67,68,69,70,71,72,73,74,75]) h1 Tryz.mixed<|zF (zaW c4 Y)<|zF (znr (f53.up ((A.t B).t a0)) Y zC)<|zF (zlc Y Y zaS)<|zF (zm zcX Y zG)<|zam (fun hD wD F Q H hO _ _=>(zr 0 (Q.sub H) d3 zO Y))<|zF (zjC Y Y zaS)<|zF (zm zai Y zP)<|zF (zm zal Y zG)<|zam (fun hD wD F Q H hO _ _=>(zr 2 (Q.sub H) (I.up y4) zO Y)) ?_;refine zaT (.res (fun h' res_=>Sl zcy h' res_ ([(r.at_.word)])) (fun _ _ _ hl f=>f.up hl)) ?_ ?_
   ·intro hD wD F Q H hO _ _;have q1:=St.start H;refine zA zcy [(r.at_.word)] [iV (r.at_.word)] q1 (Enc.cons (L:=zcy) (vs:=[iV (r.at_.word)]) (x:=(r.at_.word)) (h:=hD) (Y) Enc.nil) Y zaV Tryz.info3 zbL<|fun L1 L2 L3 C8 f292 q2=>?_;exact zB ⟨_,_,Y,q2,_,Y,f292⟩
   refine zaT (.det (.bool (zcJ (([(r.at_.word)])) (0) ((((((zcc (b) (r.at_)).getD []).length:Int)-1)+0))))) ?_ ?_
   ·intro hD wD F Q H hO _ _ gv9_0 gf9_0;have h2:=St.start H;refine zn h2 Y zeP (zeL h2.sub _ _ gf9_0)<|fun L4 L5 L6 C9 q3 y5=>?_;subst y5;exact zB ⟨_,_,Y,q3,(),Y,trivial⟩
   refine zF (Run.lit (zlD Y) b9)<|zF (zjT Y)<|zct Y<|zct Y<|zct Y<|zct Y<|zct Y<|zct Y<|zct Y<|zct Y<|zct Y<|zct Y<|zct Y<|zF (znV (v:=(.bool _)) Y Y)<|zck<|fun q4 L7 _ D0 q5 _ _ _ _ _ _ _ _ _ _ _ _ _ _ _ _ _ _ gv9_0x307 gf9_0x307 _ _ _ _ _ _ _ _ _ _ _ _ _ _ _ _ _ _ _ _ _ _ _ _ _ _ _ _ _ _=>zbk.fin Y<|zz ?_;refine zap Y (fun l2=>?_) (fun l2=>?_)
   ·refine zx<|zd Y<|zj<|zJ<|zan<|zJ<|zan<|zk zdL ?_;refine ⟨q4,_,Y,q5.done,?_⟩;refine zM ?_
    first|exact zcA hr (by have q_:=b7;simp at q_;simp[zfo,P,q_])|exact (zcA hr (by have q_:=b7;simp at q_;simp[zfo,P,q_])).symm
   cases l2
  have b9:=b7;have e4:=((C.t A).t B).t a0;refine zba (er:=([],[],[],[],0)) (dsts:=[51,52,53,54,55,56,57,58,59,60,61,62,63,64,65,66,67,68,69,70,71,72,73,74,75]) h1 Tryz.mixed<|zF (zaW c4 Y)<|zF (znr (f53.up ((A.t B).t a0)) Y zC)<|zF (zlc Y Y zaS)<|zF (zm zcX Y zG)<|zam (fun hD wD F Q H hO _ _=>(zr 0 (Q.sub H) d3 zO Y))<|zF (zjC Y Y zaS)<|zF (zm zai Y zP)<|zF (zm zal Y zG)<|zam (fun hD wD F Q H hO _ _=>(zr 2 (Q.sub H) (I.up e4) zO Y)) ?_;refine zaT (.res (fun h' res_=>Sl zcy h' res_ ([(r.at_.word)])) (fun _ _ _ hl f=>f.up hl)) ?_ ?_
  ·intro hD wD F Q H hO _ _;have q6:=St.start H;refine zA zcy [(r.at_.word)] [iV (r.at_.word)] q6 (Enc.cons (L:=zcy) (vs:=[iV (r.at_.word)]) (x:=(r.at_.word)) (h:=hD) (Y) Enc.nil) Y zaV Tryz.info3 zbL<|fun L8 L9 M0 D1 f313 q7=>?_;exact zB ⟨_,_,Y,q7,_,Y,f313⟩
  refine zaT (.det (.bool (zcJ (([(r.at_.word)])) (0) ((((((zcc (b) (r.at_)).getD []).length:Int)-1)+0))))) ?_ ?_
  ·intro hD wD F Q H hO _ _ gv9_0 gf9_0;have h4:=St.start H;refine zn h4 Y zeP (zeL h4.sub _ _ gf9_0)<|fun M1 M2 M3 D2 q8 y6=>?_;subst y6;exact zB ⟨_,_,Y,q8,(),Y,trivial⟩
  refine zF (Run.lit (zlD Y) b9)<|zF (zjT Y)<|zdN ⟨rfl,(zm zcX Y Tryz.sizeOf248)⟩<|zgy (fun hD wD F Q H hO _ _ _ _=>⟨rfl,(zr 1 (Q.sub H) d3 Tryz.isAgg248 Y)⟩)<|zdN ⟨rfl,(zaW c4 Y)⟩<|zdN ⟨rfl,(zm zai Y zP)⟩<|zdN ⟨rfl,(zm zal Y zG)⟩<|zgy (fun hD wD F Q H hO _ _ _ _=>⟨rfl,(zr 2 (Q.sub H) (I.up e4) zO Y)⟩) ?_;refine zaT (.det (zae ((zfu (((zcc (b) (r.at_)).getD [])) ((r.at_.word)).toNat)))) ?_ ?_
  ·intro hD wD F Q H hO _ _ _ _ _ _;have h5:=St.start H;refine Z Y ?_;refine zaD h5 rfl rfl rfl Tryz.call143 rfl (zmP h5.sub (f53.up (((A.t B).t a0).trans Q)) _ (by have q_:=b7;simp[inB] at q_;omega)) ?_;intro M4 M5 M6 D3 q9 y7;subst y7;exact zB ⟨_,_,Y,q9,(),Y,trivial⟩
  refine zdN ⟨rfl,(zm zai Y zaj)⟩<|zgy (fun hD wD F Q H hO _ _ _ _=>⟨rfl,(zr 4 (Q.sub H) (I.up e4) zaK Y)⟩) ?_;refine zaT (.det (.bool ((zdI ((r.word)) && decide (((r.word))≠(((zfu (((zcc (b) (r.at_)).getD [])) ((r.at_.word)).toNat)))))))) ?_ ?_
  ·intro hD wD F Q H hO _ _ _ _ _ _ _ _;have h6:=St.start H;refine Z Y ?_;refine zdE (fs:=[]) (cs:=[]) h6 rfl rfl rfl rfl Tryz.call293 rfl (ztb h6.sub _ (by first|assumption|decide|omega|(simp[big];done)|(simp[big];omega)) _ (by first|assumption|decide|omega|(simp[big];done)|(simp[big];omega))) ?_;intro M7 M8 M9 D4 r0 y8;subst y8;exact zB ⟨_,_,Y,r0,(),Y,trivial⟩
  refine zdN ⟨rfl,(zlD Y)⟩<|zF (zkj (v:=(.bool _)) Y Y)<|zck<|fun h7 N0 _ a6 b2 _ _ _ _ _ _ _ _ _ _ _ _ _ _ _ _ _ _ gv9_0x342 gf9_0x342 _ _ _ _ _ _ _ _ _ _ _ _ _ _ _ _ _ _ _ _ _ _ _ _ _ _ _ _ _ _=>zbk.fin Y<|zz ?_;refine zap Y (fun e5=>?_) (fun e5=>?_)
  ·refine zx<|zd Y<|zj<|zJ<|zan<|zJ<|zan<|zk zdL ?_;refine ⟨h7,_,Y,b2.done,?_⟩;refine zM ?_
   first|exact zcA hr (by have q_:=e5;first|(simp at q_;simp[zfo,zgR,P,q_];done)|(simp at q_;cases hwb:zdI r.word <;> simp_all[zfo,zgR]))|exact (zcA hr (by have q_:=e5;first|(simp at q_;simp[zfo,zgR,P,q_];done)|(simp at q_;cases hwb:zdI r.word <;> simp_all[zfo,zgR]))).symm
  refine zaN<|zaH ?_;have hQ:zfo b r=true:=by have q1_:=j7;have q2_:=b7;have q3_:=e5;have q4_:((zcc b r.at_).getD [])≠[]:=fun e_=>q1_ (by rw[e_];rfl);simp at q2_ q3_;simp[zfo,zgR,P,q2_,q3_,q4_];try rfl
  refine zag<|za Y<|zeb Y Y Y<|zb ?_;refine zS Y (fun y9=>?_) (fun y9=>?_)
  ·refine zhq<|zcV<|zgg<|zz<|zag<|zy Y zaS<|za Y<|zb ?_;have z0:=(((((S.t a1).t C).t A).t B).t a0).t a6;refine ⟨⟨i+1,h7⟩,⟨rfl,trivial⟩,?_,⟨z0,b2.take 0,?_,?_⟩,?_⟩
   ·exact zaR
   ·first|omega|(simp;omega)
   ·intro j hj
    rcases Nat.lt_or_eq_of_le (Nat.le_of_lt_succ hj) with h_|h_
    ·exact hA j h_
    ·rw[h_,zhH hr,hQ,Bool.true_and]
     first|(rw[show i=0 by omega];rfl)|(rw[zds zU hq];simp only[Bool.or_eq_true,Bool.and_eq_true,decide_eq_true_eq];omega)
   show c.readings.length-((i+1))<c.readings.length-i;omega
  refine zdF<|zx<|U zbt Y zcQ<|have z1:=(((((((b4.t b5).t S).t a1).t C).t A).t B).t a0).t a6;M 1 b2.sub (j2.up z1) zdh Y<|za Y<|zfG Y Y zaS Y ?_;obtain ⟨q,hq⟩:∃ y_,(c.readings)[(i-1)]?=some y_:=zch zU;have z2:=(l1.t a0).t a6;obtain ⟨N1,N2,_,r1,r2,hr_q⟩:=Sl.elem (c_f0.up z2) hq;obtain ⟨rfl,D5,r3⟩:=hr_q;simp only[big] at r3;refine zar rfl rfl (zbz r1 rfl rfl (hk:=(show _=(((i-1):Nat):Int) by omega)) (hu:=zbf) (hz:=zby)) ?_;refine zg b2.sub r2 zfc zby Y<|zad b2 zet Y Y<|fun N3 N4 r4=>zo 2 r4 Y zby<|fun N5 r5=>?_;obtain ⟨N6,d4,r6,c2⟩:=r5.freeze (k:=2) rfl;have h8:=zay.of r6;refine zb<|zx<|U zai Y zP<|zw 0 [iV (q.at_.chapter),iV (q.at_.line),iV (q.at_.word)] c2.sub h8 zaE zP Y<|U zai Y zP<|zw 0 [iV (r.at_.chapter),iV (r.at_.line),iV (r.at_.word)] c2.sub (I.up ((e4.t a6).t d4)) zaE zP Y<|zn c2 Y Tryz.call144 (zmQ c2.sub (a:=q.at_) (b:=r.at_))<|fun N7 N8 e6 d5 b3 z3=>?_;subst z3;refine zc Y<|zb<|zx<|za Y<|zfe Y Y Y<|zt Y ?_;refine zaC (d:=91) Y (fun z4=>?_) (fun z4=>?_)
  ·refine zaf 7 Y<|zi Y<|zb ?_;refine zap Y (fun l3=>?_) (fun l3=>?_)
   ·refine zx<|zd Y<|zj<|zan<|zJ<|zan<|zk zdL ?_;refine ⟨e6,_,Y,b3.done,?_⟩;refine zM ?_
    first|exact zcA hr (by rw[zds zU hq,decide_eq_false (show ¬ zgA q.at_ r.at_<0 by omega),decide_eq_false (show ¬ zgA q.at_ r.at_=0 by omega)];simp)|exact (zcA hr (by rw[zds zU hq,decide_eq_false (show ¬ zgA q.at_ r.at_<0 by omega),decide_eq_false (show ¬ zgA q.at_ r.at_=0 by omega)];simp)).symm
   cases l3
  refine Z Y<|za Y<|Z Y<|zeb Y Y Y<|Z Y<|zt Y ?_;refine zaC (d:=94) Y (fun z5=>?_) (fun z5=>?_)
  ·refine Z Y<|U zai Y zbn<|Z Y<|M 3 b3.sub (h8.up d5) zbO Y<|Z Y<|zao Y<|Z Y<|zi Y<|zh Y<|zb ?_;refine zS Y (fun z6=>?_) (fun z6=>?_)
   ·refine zx<|zd Y<|zj<|zan<|zJ<|zan<|zk zdL ?_;refine ⟨e6,_,Y,b3.done,?_⟩;refine zM ?_
    first|exact zcA hr (by rw[zds zU hq,decide_eq_false (show ¬ zgA q.at_ r.at_<0 by omega),decide_eq_false (show ¬ q.kind=2 by omega)];simp)|exact (zcA hr (by rw[zds zU hq,decide_eq_false (show ¬ zgA q.at_ r.at_<0 by omega),decide_eq_false (show ¬ q.kind=2 by omega)];simp)).symm
   refine zbj<|zaF<|zy Y zaS<|za Y<|zb ?_;have z7:=(((((((S.t a1).t C).t A).t B).t a0).t a6).t d4).t d5;refine ⟨⟨i+1,e6⟩,⟨rfl,trivial⟩,?_,⟨z7,b3.take 0,?_,?_⟩,?_⟩
   ·exact zaR
   ·first|omega|(simp;omega)
   ·intro j hj
    rcases Nat.lt_or_eq_of_le (Nat.le_of_lt_succ hj) with h_|h_
    ·exact hA j h_
    ·rw[h_,zhH hr,hQ,Bool.true_and]
     first|(rw[show i=0 by omega];rfl)|(rw[zds zU hq];simp only[Bool.or_eq_true,Bool.and_eq_true,decide_eq_true_eq];omega)
   show c.readings.length-((i+1))<c.readings.length-i;omega
  refine zaf 3 Y<|Z Y<|zh Y<|zh Y<|zb ?_;refine zap Y (fun l4=>?_) (fun l4=>?_)
  ·cases l4
  refine zbj<|zaF<|zy Y zaS<|za Y<|zb ?_;have z8:=(((((((S.t a1).t C).t A).t B).t a0).t a6).t d4).t d5;refine ⟨⟨i+1,e6⟩,⟨rfl,trivial⟩,?_,⟨z8,b3.take 0,?_,?_⟩,?_⟩
  ·exact zaR
  ·first|omega|(simp;omega)
  ·intro j hj
   rcases Nat.lt_or_eq_of_le (Nat.le_of_lt_succ hj) with h_|h_
   ·exact hA j h_
   ·rw[h_,zhH hr,hQ,Bool.true_and]
    first|(rw[show i=0 by omega];rfl)|(rw[zds zU hq];simp only[Bool.or_eq_true,Bool.and_eq_true,decide_eq_true_eq];omega)
  show c.readings.length-((i+1))<c.readings.length-i;omega
 refine zcC<|zz<|zat<|zjf Y Y<|zg c6.sub (j2.up ((b4.t b5).t S)) zgG zdP Y ?_;have e7:=s7.t S;refine zaD c6 rfl rfl rfl Tryz.call145 rfl (zqH c6.sub (b:=b) (b_f0.up e7) (b_c.up e7) (c:=c) (c_f0.up e7) (K0.up e7) (by exact ht) (by intro j_ hj_;exact hA j_ zU) zU) ?_;intro N9 O0 l5 D6 r7 z9;obtain ⟨A0,rfl,f385⟩:=z9;have A5:=f385.le;refine zQ Y (zzP (v:=A0) Y zaI Y zbI Y)<|zK f385 zav Y<|za Y<|zb<|zT ?_;refine zaM ([4,12]++zcp 106 8) (G:=Nat×Heap) (fun ⟨k,c3⟩=>[(106,iV (k:Int))]) (fun ⟨k,c3⟩ w'=>Le l5 c3∧St h w c3 w' []∧(k≤(zmX b c).chapters.length)∧(∀ (j:Nat) x,j<k→(zmX b c).chapters[j]?=some x→zmy x=true)) (fun ⟨k,c3⟩=>(zmX b c).chapters.length-k) ⟨0,l5⟩ ⟨rfl,trivial⟩ ⟨Le.refl _,r7,zbm,(by intro j x hj;omega)⟩ ?_;rintro ⟨k,c3⟩ _ O1 ⟨h9,d6,hk,hB⟩;refine zx<|zN Y<|zb<|zaH ?_;refine zS Y (fun A1=>?_) (fun A1=>?_)
 ·refine zaN<|zT<|zx ?_;obtain ⟨x,hx⟩:∃ y_,((zmX (b) (c)).chapters)[k]?=some y_:=zch zU;obtain ⟨O2,O3,_,r8,r9,hr_x⟩:=Sl.elem (f385.up h9) hx;obtain ⟨O4,rfl,f396⟩:=hr_x;have A6:=f396.le;refine zL r8 zav zbb Y<|zg d6.sub r9 zgw zbb Y<|zad d6 zeu Y Y<|fun O5 O6 s0=>zbE s0 (k:=0) Y Y Y (zaX Y (zaX f396.one zdv)) zbb Y Y Y<|fun O7 s1=>?_;obtain ⟨O8,j0,s2,d7⟩:=s1.freeze (k:=0) rfl;have s3:=zay.of s2;refine zb<|zx<|U zaz Y zbu<|M 1 d7.sub s3 zbS Y ?_;refine zaD d7 rfl rfl rfl Tryz.call146 rfl (zia d7.sub (f396.up j0) (fun x_=>(!inB (x_).length 1 10)) Tryz.call147 (fun x_ h_ w_ vs_ le_ hs_ hx_ hr_ u_ hu_=>by cases hu_;obtain ⟨v_,hr1_,hr2_⟩:=hr_;cases hr1_;exact zox hs_ hr2_)) ?_;intro O9 P0 l6 s4 j1 A2;obtain rfl:=A2;refine zb ?_;refine zap Y (fun e8=>?_) (fun e8=>?_)
  ·refine zx<|zd Y<|zj<|zan<|zJ<|zan<|zk zdL ?_;refine ⟨l6,_,Y,j1.done,?_⟩;refine zM ?_
   first|exact zoX hx (by have q_:=e8;rw[zrN] at q_;simpa [zmy] using q_)|exact (zoX hx (by have q_:=e8;rw[zrN] at q_;simpa [zmy] using q_)).symm
  refine zbj<|zaF<|zy Y zaS<|za Y<|zb ?_;refine ⟨⟨k+1,l6⟩,⟨rfl,trivial⟩,?_,⟨((h9.t j0).t s4),j1.take 0,?_,?_⟩,?_⟩
  ·exact zaR
  ·first|omega|(simp;omega)
  ·intro j x_ hj hx_
   rcases Nat.lt_or_eq_of_le (Nat.le_of_lt_succ hj) with h_|h_
   ·exact hB j x_ h_ hx_
   ·rw[h_] at hx_;rw[hx] at hx_;cases hx_;have q_:=e8;rw[zrN] at q_;simpa [zmy] using q_
  show (zmX b c).chapters.length-((k+1))<(zmX b c).chapters.length-k;omega
 refine zcC<|zz<|zx<|zd Y<|zj<|zk zdL ?_;refine ⟨c3,_,Y,d6.done,?_⟩;refine zM ?_
 first|exact zqA hid.1 hid.2 (fun j hj=>hA j zU) (fun j x hx=>hB j x (by have:=(List.getElem?_eq_some_iff.1 hx).1;omega) hx)|exact (zqA hid.1 hid.2 (fun j hj=>hA j zU) (fun j x hx=>hB j x (by have:=(List.getElem?_eq_some_iff.1 hx).1;omega) hx)).symm
theorem zml (hs:Sub h w) (c_f0:Sl zdS h c_v0 c.readings):Calls Tryz.prog 37 #[.agg #[iV c.id,c_v0]] w (zbe h w (fun _ _ res_=>res_=.bool ((zkB c)))):=by
 refine zl 23 Tryz.func37 Y<|have a1:=zbM hs;have a0:=c_f0.le;zx<|ze [iV (c.id),c_v0] a1 Y<|fun b1 w2 h3 L F H=>zd Y<|zb<|zat<|U zbt Y zcQ<|M 1 H.sub F zdh Y<|zK (c_f0.up L) zbf Y<|zfe Y Y Y<|zb ?_;refine zS Y (fun c7=>?_) (fun c7=>?_)
 ·refine zx<|zd Y<|zj<|zJ<|zk Tryz.results37 ?_;refine ⟨h3,_,Y,H.done,?_⟩;refine zM ?_;exact (zyQ (by simpa using c7)).symm
 refine zaN<|zx<|zc Y<|zb<|zT ?_;refine zaM ([2,3]++zcp 8 15) (G:=Nat×Heap) (fun ⟨i,C⟩=>[(3,iV (i:Int))]) (fun ⟨i,C⟩ w'=>Le h3 C∧St h w C w' []∧(i≤c.readings.length)∧(((c.readings.take i).any fun r=>decide (40<(r.word.length:Int)))=false)) (fun ⟨i,C⟩=>c.readings.length-i) ⟨0,h3⟩ ⟨rfl,trivial⟩ ⟨Le.refl _,H,zbm,(by rfl)⟩ ?_;rintro ⟨i,C⟩ _ a4 ⟨B,A,hi,hA⟩;refine zat<|za Y<|U zbt Y zcQ<|M 1 A.sub (F.up B) zdh Y<|have P:=L.t B;zK (c_f0.up P) zbf Y<|zN Y<|zb ?_;refine zS Y (fun a2=>?_) (fun a2=>?_)
 ·refine zaN<|zT<|zx<|U zbt Y zcQ<|M 1 A.sub (F.up B) zdh Y<|za Y ?_;obtain ⟨r,hr⟩:∃ y_,(c.readings)[i]?=some y_:=zch zU;obtain ⟨a5,a6,_,Q,S,hr_r⟩:=Sl.elem (c_f0.up P) hr;obtain ⟨rfl,a3,T⟩:=hr_r;simp only[big] at T;refine zL Q zbf zby Y<|U zai Y zaj<|M 4 A.sub S zaK Y<|zdG Y zbx Y<|zfe Y Y Y<|zb ?_;refine zS Y (fun I=>?_) (fun I=>?_)
  ·refine zx<|zd Y<|zj<|zan<|zJ<|zan<|zk Tryz.results37 ?_;refine ⟨C,_,Y,A.done,?_⟩;refine zM ?_;exact (zxw hr (by simpa using I)).symm
  refine zbj<|zaF<|za Y<|zy Y zaS<|zc Y<|zb ?_;refine ⟨⟨i+1,C⟩,⟨rfl,trivial⟩,?_,⟨B,A,?_,?_⟩,?_⟩
  ·exact zaR
  ·first|omega|(simp;omega)
  ·rw[zmo hr,hA];simpa using I
  show c.readings.length-((i+1))<c.readings.length-i;omega
 refine zcC<|zz<|zx<|zd Y<|zj<|zk Tryz.results37 ?_;refine ⟨C,_,Y,A.done,?_⟩;refine zM ?_;rw[zyP (by assumption) (by rw[List.take_of_length_le zU] at hA;exact hA)]
theorem zle:KeyG Tryz.prog 292 (fun x:Pair=>.agg [iV x.a,iV x.b].toArray):=zzX zcu zO zG Tryz.underlying292
def _root_.Go.Proofs.Tryz.glob3:List Value:=[.func (.func 299) #[] #[],.func (.func 300) #[] #[],.func (.func 301) #[] #[]]
theorem zqK (hs:Sub h w) {t:Text} (t_f0:Sl zax h t_v0 t.chapters):Calls Tryz.prog 299 #[.agg #[t_v0],.agg #[iV s.chapter,iV s.from_,iV s.to,iV s.as_,iV s.first]] w (zbe h w (fun _ _ res_=>res_=.bool ((zhu t s)))):=by
 refine zl 13 Tryz.func299 Y<|have P:=zbM hs;have I:=t_f0.le;zx<|ze [t_v0] P Y<|fun b1 w2 h3 Q S T=>ze [iV (s.chapter),iV (s.from_),iV (s.to),iV (s.as_),iV (s.first)] T Y<|fun b7 w8 h9 B F A=>zd Y<|zb<|zx<|U zaI Y zbi<|M 0 A.sub (S.up B) zbI Y<|have a0:=Q.t B;zK (t_f0.up a0) zav Y<|zfG Y Y zaS Y<|U zaa Y zG<|M 0 A.sub F zO Y<|zA zcy [(s.chapter)] [iV (s.chapter)] A (Enc.cons (L:=zcy) (vs:=[iV (s.chapter)]) (x:=(s.chapter)) (h:=h9) (Y) Enc.nil) Y zaV Tryz.info3 zbL<|fun a5 a6 a7 a3 f16 C=>zn C Y Tryz.call179 (zlr C.sub _ _ f16)<|fun a8 a9 a1 a4 H a2=>?_;subst a2;refine zd Y<|zj<|zk Tryz.results299 ?_;refine ⟨a1,_,Y,H.done,?_⟩;refine zM ?_
 first|rfl|(simp[zhu,zcJ];done)
theorem zqJ (hs:Sub h w) {t:Text} (t_f0:Sl zax h t_v0 t.chapters) (ht:zbF t=true) (hb:zhu t s=true):Calls Tryz.prog 300 #[.agg #[t_v0],.agg #[iV s.chapter,iV s.from_,iV s.to,iV s.as_,iV s.first]] w (zbe h w (fun _ _ res_=>res_=.bool ((zfM t s)))):=by
 refine zl 30 Tryz.func300 Y<|have a5:=zbM hs;have a1:=t_f0.le;zx<|ze [t_v0] a5 Y<|fun b1 w2 h3 a6 a7 a8=>ze [iV (s.chapter),iV (s.from_),iV (s.to),iV (s.as_),iV (s.first)] a8 Y<|fun b7 w8 h9 F B A=>zd Y<|zb<|zaH ?_;have b8:0≤s.chapter∧s.chapter<(t.chapters.length:Int):=by simp only[zhu,inB,Bool.and_eq_true,decide_eq_true_eq] at hb;omega
 refine zag<|U zaI Y zbi<|M 0 A.sub (a7.up F) zbI Y<|U zaa Y zG<|M 0 A.sub B zO Y ?_;obtain ⟨c,hc⟩:∃ y_,(t.chapters)[s.chapter.toNat]?=some y_:=zch zU;have a9:=a6.t F;obtain ⟨b9,c0,_,S,T,hr_c⟩:=Sl.elem (t_f0.up a9) hc;obtain ⟨c1,rfl,f19⟩:=hr_c;have a4:=f19.le;refine zar rfl rfl (zbz S rfl rfl (hk:=(show _=((s.chapter.toNat:Nat):Int) by omega)) (hu:=zav) (hz:=zbb)) ?_;refine U zaz Y zbu<|M 1 A.sub T zbS Y<|zK f19 zaJ Y<|zc Y<|zb<|zaH ?_;have hla:zbY t s.chapter.toNat=c.lines:=by rw[zbY,hc];rfl
 have b4:=zhX ht hc;refine zag<|za Y<|zfG Y Y zaS Y<|U zaa Y zG<|M 1 A.sub B zO Y<|zA zcy [(s.from_)] [iV (s.from_)] A (Enc.cons (L:=zcy) (vs:=[iV (s.from_)]) (x:=(s.from_)) (h:=h9) (Y) Enc.nil) Y zaV Tryz.info3 zbL<|fun c2 c3 c4 H f22 I=>zn I Y Tryz.call179 (zlr I.sub _ _ f22)<|fun c5 c6 a2 P C b0=>?_;subst b0;refine zt Y ?_;refine zbp (d:=20) Y (fun a3=>?_) (fun a3=>?_)
 ·refine Z Y<|U zaa Y zG<|Z Y<|M 1 C.sub (B.up (H.t P)) zO Y<|Z Y ?_;have hfr:0≤s.from_∧s.from_≤10:=by have q_:=a3;simp[zcJ,inB] at q_;omega
  refine zy Y zaS<|Z Y<|za Y<|Z Y<|U zaa Y zG<|Z Y<|M 2 C.sub (B.up (H.t P)) zO Y<|Z Y<|zA zcy [(s.to)] [iV (s.to)] C (Enc.cons (L:=zcy) (vs:=[iV (s.to)]) (x:=(s.to)) (h:=a2) (Y) Enc.nil) Y zaV Tryz.info3 zbL<|fun c7 c8 c9 b5 f35 Q=>Z Y<|zn Q Y Tryz.call179 (zlr Q.sub _ _ f35)<|fun d0 d1 b2 b6 a0 b3=>?_;subst b3;refine zi Y<|zd Y<|zj<|zk Tryz.results300 ?_;refine ⟨b2,_,Y,a0.done,?_⟩;refine zM ?_
  all_goals first|(simp_all[zfM,zcJ];done)|(simp[zfM,zcJ,hla];simp_all)
 refine zaf 8 Y<|zh Y<|zd Y<|zj<|zk Tryz.results300 ?_;refine ⟨a2,_,Y,C.done,?_⟩;refine zM ?_
 all_goals first|(simp_all[zfM,zcJ];done)|(simp[zfM,zcJ,hla];simp_all)
theorem zqI (hs:Sub h w) {t:Text} (t_f0:Sl zax h t_v0 t.chapters) (hk:0≤s.from_∧s.from_≤10∧0≤s.to∧s.to≤10):Calls Tryz.prog 301 #[.agg #[t_v0],.agg #[iV s.chapter,iV s.from_,iV s.to,iV s.as_,iV s.first]] w (zbe h w (fun _ _ res_=>res_=.bool ((zhI s)))):=by
 refine zl 23 Tryz.func301 Y<|have T:=zbM hs;have S:=t_f0.le;zx<|ze [t_v0] T Y<|fun b1 w2 h3 a3 a4 a0=>ze [iV (s.chapter),iV (s.from_),iV (s.to),iV (s.as_),iV (s.first)] a0 Y<|fun b7 w8 h9 a2 A C=>zd Y<|zb<|zx<|U zaa Y zG<|M 3 C.sub A zO Y<|U zaa Y zG<|M 4 C.sub A zO Y<|zA zcy [(s.as_),(s.first)] [iV (s.as_),iV (s.first)] C (Enc.cons (L:=zcy) (vs:=[iV (s.as_)]) (x:=(s.as_)) (h:=h9) (Y) (Enc.cons (L:=zcy) (vs:=[iV (s.first)]) (x:=(s.first)) (h:=h9) (Y) Enc.nil)) Y zaV Tryz.info3 zbL<|fun a5 a6 a7 F f15 I=>zn I Y Tryz.call179 (zlr I.sub _ _ f15)<|fun a8 a9 P H B a1=>?_;subst a1;refine zt Y ?_;refine zbp (d:=11) Y (fun Q=>?_) (fun Q=>?_)
 ·refine Z Y<|U zaa Y zG<|Z Y<|M 4 B.sub (A.up (F.t H)) zO Y<|Z Y<|U zaa Y zG<|Z Y<|M 2 B.sub (A.up (F.t H)) zO Y<|Z Y ?_;have hfr:1≤s.first∧s.first≤999:=by have q_:=Q;simp[zcJ,inB] at q_;omega
  refine zy Y zaS<|Z Y<|U zaa Y zG<|Z Y<|M 1 B.sub (A.up (F.t H)) zO Y<|Z Y<|zfG Y Y zaS Y<|Z Y<|zfG Y Y zaS Y<|Z Y<|zQ Y (zpG Y Y)<|zi Y<|zd Y<|zj<|zk Tryz.results301 ?_;refine ⟨P,_,Y,B.done,?_⟩;refine zM ?_
  all_goals first|(simp_all[zhI,zcJ];done)|(simp[zhI,zcJ];simp_all)
 refine zaf 10 Y<|zh Y<|zd Y<|zj<|zk Tryz.results301 ?_;refine ⟨P,_,Y,B.done,?_⟩;refine zM ?_
 all_goals first|(simp_all[zhI,zcJ];done)|(simp[zhI,zcJ];simp_all)
theorem ztT (hs:Sub h w) {t:Text} (t_f0:Sl zax h t_v0 t.chapters) (K3:zay h 3 0 Tryz.glob3) (ht:zbF t=true):Calls Tryz.prog 178 #[.agg #[t_v0],.agg #[iV s.chapter,iV s.from_,iV s.to,iV s.as_,iV s.first]] w (zbe h w (fun _ _ res_=>res_=.bool ((zcr t s)))):=by
 refine zl 18 Tryz.func178 Y<|have d2:=zbM hs;have c7:=t_f0.le;zx<|ze [t_v0] d2 Y<|fun b1 w2 h3 d3 a9 d4=>ze [iV (s.chapter),iV (s.from_),iV (s.to),iV (s.as_),iV (s.first)] d4 Y<|fun b7 w8 h9 I a0 a4=>zd Y<|zb<|zat<|have a8:=d3.t I;zg a4.sub (K3.up a8) Tryz.isAgg339 Tryz.sizeOf339 Y<|za Y<|zb<|zT ?_;refine zaM ([4,6]++zcp 8 10) (G:=Nat×Heap) (fun ⟨k,T⟩=>[(8,iV (k:Int))]) (fun ⟨k,T⟩ w'=>Le h9 T∧St h w T w' []∧(k≤3)∧(∀ j,j<k→zpW t s j=true)) (fun ⟨k,T⟩=>3-k) ⟨0,h9⟩ ⟨rfl,trivial⟩ ⟨Le.refl _,a4,zbm,(by intro j hj;omega)⟩ ?_;rintro ⟨k,T⟩ _ e1 ⟨A,L,hk,hA⟩;refine zx<|zN Y<|zb<|zaH ?_;refine zS Y (fun c8=>?_) (fun c8=>?_)
 ·refine zaN<|zT<|zaH ?_
  rcases (show (k:Int)=0∨(k:Int)=1∨(k:Int)=2 by omega) with B|B|B
  ·refine zag ?_;refine zar rfl rfl (zmw (us:=[.func (.func 299) #[] #[]]) rfl rfl (show _=((0:Nat):Int) by rw[B];rfl) rfl Tryz.underlying339 Tryz.isAgg338 zjq rfl) ?_;refine zad L Tryz.zeroValue338 Y Y<|fun e2 e3 b0=>zo 0 b0 Y zjq<|fun e4 b2=>?_;obtain ⟨e5,P,b3,C⟩:=b2.freeze (k:=0) rfl;have b4:=zay.of b3;refine zb<|zx<|U zgD Y Tryz.sizeOf286<|M 0 C.sub b4 Tryz.isAgg286 Y<|zg C.sub (a9.up ((I.t A).t P)) zaG zab Y<|zg C.sub (a0.up (A.t P)) zdZ zbV Y<|have d5:=(a8.t A).t P;zdE (fs:=[]) (cs:=[]) C Y Y Y Y Tryz.call299 Y (zqK C.sub (t:=t) (t_f0.up d5) (s:=s))<|fun e6 e7 c9 b5 a5 d6=>?_;subst d6;refine zcq Y Y<|zb ?_;refine zap Y (fun a1=>?_) (fun a1=>?_)
   ·refine zx<|zd Y<|zj<|zan<|zJ<|zan<|zk Tryz.results178 ?_;refine ⟨c9,_,Y,a5.done,?_⟩;refine zM ?_
    first|(have q_:=a1;simp_all[zcr];done)|(have q0:=hA 0 zU;have q1:=hA 1 zU;have q2:=hA 2 zU;simp_all[zcr,zpW];done)
   refine zbj<|zaF<|zy Y zaS<|za Y<|zb ?_;refine ⟨⟨k+1,c9⟩,⟨rfl,trivial⟩,?_,⟨((A.t P).t b5),a5.take 0,?_,?_⟩,?_⟩
   ·exact zaR
   ·first|omega|(simp;omega)
   ·intro j hj
    rcases Nat.lt_or_eq_of_le (Nat.le_of_lt_succ hj) with q|q
    ·exact hA j q
    ·subst q;first|(obtain rfl:j=0:=zU;simpa [zpW] using a1)|(obtain rfl:j=1:=zU;simpa [zpW] using a1)|(obtain rfl:j=2:=zU;simpa [zpW] using a1)
   show 3-((k+1))<3-k;omega
  ·refine zag ?_;refine zar rfl rfl (zmw (us:=[.func (.func 300) #[] #[]]) rfl rfl (show _=((1:Nat):Int) by rw[B];rfl) rfl Tryz.underlying339 Tryz.isAgg338 zjq rfl) ?_;refine zad L Tryz.zeroValue338 Y Y<|fun e8 e9 b6=>zo 0 b6 Y zjq<|fun g0 b8=>?_;obtain ⟨g1,Q,b9,F⟩:=b8.freeze (k:=0) rfl;have c0:=zay.of b9;refine zb<|zx<|U zgD Y Tryz.sizeOf286<|M 0 F.sub c0 Tryz.isAgg286 Y<|zg F.sub (a9.up ((I.t A).t Q)) zaG zab Y<|zg F.sub (a0.up (A.t Q)) zdZ zbV Y ?_;have d7:=(a8.t A).t Q;refine zdE (fs:=[]) (cs:=[]) F rfl rfl rfl rfl Tryz.call300 rfl (zqJ F.sub (t:=t) (t_f0.up d7) (s:=s) (by exact ht) (by exact hA 0 zU)) ?_;intro g2 g3 d0 c1 a6 d8;subst d8;refine zcq Y Y<|zb ?_;refine zap Y (fun a2=>?_) (fun a2=>?_)
   ·refine zx<|zd Y<|zj<|zan<|zJ<|zan<|zk Tryz.results178 ?_;refine ⟨d0,_,Y,a6.done,?_⟩;refine zM ?_
    first|(have q_:=a2;simp_all[zcr];done)|(have q0:=hA 0 zU;have q1:=hA 1 zU;have q2:=hA 2 zU;simp_all[zcr,zpW];done)
   refine zbj<|zaF<|zy Y zaS<|za Y<|zb ?_;refine ⟨⟨k+1,d0⟩,⟨rfl,trivial⟩,?_,⟨((A.t Q).t c1),a6.take 0,?_,?_⟩,?_⟩
   ·exact zaR
   ·first|omega|(simp;omega)
   ·intro j hj
    rcases Nat.lt_or_eq_of_le (Nat.le_of_lt_succ hj) with q|q
    ·exact hA j q
    ·subst q;first|(obtain rfl:j=0:=zU;simpa [zpW] using a2)|(obtain rfl:j=1:=zU;simpa [zpW] using a2)|(obtain rfl:j=2:=zU;simpa [zpW] using a2)
   show 3-((k+1))<3-k;omega
  refine zag ?_;refine zar rfl rfl (zmw (us:=[.func (.func 301) #[] #[]]) rfl rfl (show _=((2:Nat):Int) by rw[B];rfl) rfl Tryz.underlying339 Tryz.isAgg338 zjq rfl) ?_;refine zad L Tryz.zeroValue338 Y Y<|fun g4 g5 c2=>zo 0 c2 Y zjq<|fun g6 c3=>?_;obtain ⟨g7,S,c4,H⟩:=c3.freeze (k:=0) rfl;have c5:=zay.of c4;refine zb<|zx<|U zgD Y Tryz.sizeOf286<|M 0 H.sub c5 Tryz.isAgg286 Y<|zg H.sub (a9.up ((I.t A).t S)) zaG zab Y<|zg H.sub (a0.up (A.t S)) zdZ zbV Y ?_;have d9:=(a8.t A).t S;refine zdE (fs:=[]) (cs:=[]) H rfl rfl rfl rfl Tryz.call301 rfl (zqI H.sub (t:=t) (t_f0.up d9) (s:=s) (by exact zzG ht (hA 0 zU) (hA 1 zU))) ?_;intro g8 g9 d1 c6 a7 e0;subst e0;refine zcq Y Y<|zb ?_;refine zap Y (fun a3=>?_) (fun a3=>?_)
  ·refine zx<|zd Y<|zj<|zan<|zJ<|zan<|zk Tryz.results178 ?_;refine ⟨d1,_,Y,a7.done,?_⟩;refine zM ?_
   first|(have q_:=a3;simp_all[zcr];done)|(have q0:=hA 0 zU;have q1:=hA 1 zU;have q2:=hA 2 zU;simp_all[zcr,zpW];done)
  refine zbj<|zaF<|zy Y zaS<|za Y<|zb ?_;refine ⟨⟨k+1,d1⟩,⟨rfl,trivial⟩,?_,⟨((A.t S).t c6),a7.take 0,?_,?_⟩,?_⟩
  ·exact zaR
  ·first|omega|(simp;omega)
  ·intro j hj
   rcases Nat.lt_or_eq_of_le (Nat.le_of_lt_succ hj) with q|q
   ·exact hA j q
   ·subst q;first|(obtain rfl:j=0:=zU;simpa [zpW] using a3)|(obtain rfl:j=1:=zU;simpa [zpW] using a3)|(obtain rfl:j=2:=zU;simpa [zpW] using a3)
  show 3-((k+1))<3-k;omega
 refine zcC<|zz<|zx<|zd Y<|zj<|zk Tryz.results178 ?_;refine ⟨T,_,Y,L.done,?_⟩;refine zM ?_
 first|(have q_:=c8;simp_all[zcr];done)|(have q0:=hA 0 zU;have q1:=hA 1 zU;have q2:=hA 2 zU;simp_all[zcr,zpW];done)
theorem zrG (hs:Sub h w) {t_b:Nat} {t:Text} (t_f0:Sl zax h t_v0 t.chapters) (t_c:zay h t_b 0 [t_v0]) (K3:zay h 3 0 Tryz.glob3) (ht:zbF t=true):Calls Tryz.prog 177 #[.agg #[iV s.chapter,iV s.from_,iV s.to,iV s.as_,iV s.first],.pointer (some ⟨t_b,0,none⟩)] w (zbe h w (fun _ _ res_=>res_=.bool ((!zcr t s)))):=by
 refine zl 8 Tryz.func177 Y<|have H:=zbM hs;have F:=t_f0.le;zx<|ze [iV (s.chapter),iV (s.from_),iV (s.to),iV (s.as_),iV (s.first)] H Y<|fun S T h3 B I A=>zd Y<|zb<|zx<|zg A.sub (t_c.up B) zaG zab Y<|zg A.sub I zdZ zbV Y ?_;refine zaD A rfl rfl rfl Tryz.call178 rfl (ztT A.sub (t:=t) (t_f0.up B) (s:=s) (K3.up B) zU) ?_;intro r7 w8 Q P C L;obtain rfl:=L;refine zcq Y Y<|zd Y<|zj<|zk Tryz.results177 ?_;refine ⟨Q,_,Y,C.done,?_⟩;refine zM ?_;rfl
theorem zlq (hs:Sub h w) {l:(List Stretch)} (l_f:Sl zbw h l_v l) {g:FuncId} {caps:List Value} {q:Stretch→Bool} (eg:∀ a w,(callFunc g a).run Tryz.prog w=.ok (.enter g a) w) (hq:∀ x h' w' vs,Le h h'→Sub h' w'→x∈l→zbw.R h' vs x→∀ u,u=.agg vs.toArray→Calls Tryz.prog g (u::caps).toArray w' (zbe h' w' fun _ _ r=>r=.bool (q x))) (hl:l.length≤1000):Calls Tryz.prog 176 #[l_v,.func (.func g) #[] caps.toArray] w (zbe h w (fun h' _ res_=>∃ u0,res_=u0∧Sl zbw h' u0 ((l.filter q)))):=by
 refine zl 23 Tryz.func176 Y<|have b2:=zbM hs;have l_f_b:=l_f.le;zx<|zcP Y Y<|zb<|zx<|zcP Y Y<|zb<|zat<|zq l_v Y<|zK l_f zbH Y<|za Y<|zb<|zT ?_;have b3:=b2.snoc;have f5:=OSl.nil zbw 211 h;refine zaM ([5,7]++zcp 10 12) (G:=Nat×Value×List (Nat×Obj)×Heap) (fun ⟨k,A,F,h1⟩=>[(5,A),(10,iV (k:Int))]) (fun ⟨k,A,F,h1⟩ w'=>Le h h1∧St h w h1 w' [F]∧(OSl zbw 211 h1 A (((l.take k).filter q)) F)∧(k≤l.length)) (fun ⟨k,A,F,h1⟩=>l.length-k) ⟨0,(.slice none 0 0),[],h⟩ ⟨rfl,rfl,trivial⟩ ⟨Le.refl _,b3,(OSl.to f5 (by rfl)),zbm⟩ ?_;rintro ⟨k,A,F,h1⟩ _ w6 ⟨Q,a0,H,hk⟩;refine zx<|zN Y<|zb<|zaH ?_;refine zS Y (fun c7=>?_) (fun c7=>?_)
 ·refine zaN<|zT<|zx ?_;obtain ⟨x,hx⟩:∃ y_,(l)[k]?=some y_:=zch zU;obtain ⟨b8,o9,_,a2,a3,hr_x⟩:=Sl.elem (l_f.up Q) hx;subst hr_x;refine zL a2 zbH zbV Y<|zg a0.sub a3 zdZ zbV Y<|zad a0 Tryz.zeroValue211 Y Y<|fun c3 c4 a4=>zo 1 a4 Y zbV<|fun c5 a5=>?_;obtain ⟨c6,B,a6,I⟩:=a5.freeze (k:=1) rfl;have S:=zay.of a6;refine zb<|zx<|zlQ Y Y<|zg I.sub S zdZ zbV Y<|zdE (fs:=[]) (cs:=caps) I Y Y Y Y eg Y (hq x _ _ _ (Q.t B) I.sub (List.mem_of_getElem? hx) (Y) _ Y)<|fun c8 c9 b0 C P b4=>?_;subst b4;refine zb ?_;refine zap Y (fun a1=>?_) (fun a1=>?_)
  ·refine zag<|zq A Y<|zg P.sub (S.up C) zdZ zbV Y<|zA zbw [x] [iV (x.chapter),iV (x.from_),iV (x.to),iV (x.as_),iV (x.first)] P (Enc.cons (L:=zbw) (vs:=[iV (x.chapter),iV (x.from_),iV (x.to),iV (x.as_),iV (x.first)]) (x:=x) (h:=b0) (Y) Enc.nil) Y zbH Tryz.info211 zbL<|fun d0 d1 b5 T f31 a7=>?_;refine zaO (k:=0) (nb:=40) a7 (H.up ((B.t C).t T)) rfl f31 rfl rfl rfl zbH Tryz.info211 rfl rfl rfl (by decide) rfl (by have q_:=List.length_filter_le q (l.take k);rw[List.length_take] at q_;first|omega|(simp only[List.length_append,List.length_cons,List.length_nil];omega)) (by have q_:=List.length_filter_le q (l.take k);rw[List.length_take] at q_;first|omega|(simp only[List.length_append,List.length_cons,List.length_nil];omega)) ?_;intro b1 b6 d2 _ b7 f39 a8;subst b7;refine zH b1 Y<|zB<|zaF<|zy Y zaS<|za Y<|zb ?_;have b9:=((Q.t B).t C).t T;refine ⟨⟨k+1,b1,b6,b5⟩,⟨rfl,Y,trivial⟩,?_,⟨b9,a8.take 1,?_,?_⟩,?_⟩
   ·exact zaR
   ·refine OSl.to f39 ?_;rw[zaQ hx,List.filter_append,List.filter_cons,if_pos a1];rfl
   ·first|omega|(simp;omega)
   show l.length-((k+1))<l.length-k;omega
  refine zbj<|zaF<|zy Y zaS<|za Y<|zb ?_;have c0:=(Q.t B).t C;refine ⟨⟨k+1,A,F,b0⟩,⟨rfl,Y,trivial⟩,?_,⟨c0,P.take 1,?_,?_⟩,?_⟩
  ·exact zaR
  ·refine OSl.to (H.up (B.t C)) ?_;rw[zaQ hx,List.filter_append,List.filter_cons,if_neg (by rw[a1];simp)];simp
  ·first|omega|(simp;omega)
  show l.length-((k+1))<l.length-k;omega
 refine zcC<|zz<|zx<|zq A Y<|zH A Y<|zj<|zk Tryz.results176 ?_;obtain ⟨c1,c2,f45,a9⟩:=OSl.freeze (k:=0) a0 H rfl (by have q_:=List.length_filter_le q (l.take k);rw[List.length_take] at q_;first|omega|(simp only[List.length_append,List.length_cons,List.length_nil];omega));refine ⟨c1,_,Y,a9.done,?_⟩;refine ⟨_,Y,Sl.to f45 ?_⟩;rw[List.take_of_length_le zU]
theorem zoI (hs:Sub h w) {t:Text} (t_f0:Sl zax h t_v0 t.chapters) (e_f0:Sl zbw h e_v0 e.stretches) (K3:zay h 3 0 Tryz.glob3) (hn20:e.stretches.length≤1000):Calls Tryz.prog 127 #[.agg #[t_v0],.agg #[iV e.id,e_v0]] w (zbe h w (fun _ _ res_=>res_=iV ((zcT t e)))):=by
 refine zl 32 Tryz.func127 Y<|have b3:=zbM hs;have a5:=t_f0.le;have a6:=e_f0.le;zx<|ze [t_v0] b3 Y<|fun b1 w2 h3 b4 a7 b5=>ze [iV (e.id),e_v0] b5 Y<|fun b7 w8 h9 F H I=>zc Y<|zb<|zat<|zg I.sub (a7.up F) zaG zab Y<|have P:=b4.t F;zn I Y Tryz.call97 (zmS I.sub (t:=t) (t_f0.up P))<|fun c8 c9 b6 A C b8=>?_;subst b8;refine zc Y<|zb<|zx<|za Y<|zao Y<|zb ?_;refine zS Y (fun a4=>?_) (fun a4=>?_)
 ·refine zx<|za Y<|zc Y<|zj<|zJ<|zk Tryz.results127 ?_;refine ⟨b6,_,Y,C.done,?_⟩;refine zaB ?_;have q_:=a4;cases e_:zbF t <;> simp_all[zcT]
 refine zaN ?_;have Q:zbF t=true:=by have q_:=a4;cases e_:zbF t <;> simp_all
 have hpk:=zyE e.stretches (zcr t);refine zag<|U zcf Y zdQ<|M 1 C.sub (H.up A) zeN Y<|zeo Y Y Y ?_;refine zaD C rfl rfl rfl Tryz.call176 rfl (zlq C.sub (e_f0.up (P.t A)) (q:=(fun x_=>(!zcr (t) (x_)))) Tryz.call177 (fun x_ h_ w_ vs_ le_ hs_ hx_ hr_ u_ hu_=>by obtain rfl:=hr_;cases hu_;exact zrG hs_ (s:=x_) (t:=t) ((t_f0.up (P.t A)).up le_) ((a7.up (F.t A)).up le_) ((K3.up (P.t A)).up le_) (by exact Q)) (by exact hn20)) ?_;intro a8 d0 b9 S a1 c0;obtain ⟨d1,c1,f28⟩:=c0;rw[← c1] at f28;have b2:=f28.le;refine zH a8 Y<|zb<|zat<|U zcf Y zG<|M 0 a1.sub (H.up (A.t S)) zO Y<|zA zcy [(e.id)] [iV (e.id)] a1 (Enc.cons (L:=zcy) (vs:=[iV (e.id)]) (x:=(e.id)) (h:=b9) (Y) Enc.nil) Y zaV Tryz.info3 zbL<|fun d2 d3 d4 T f32 a2=>zn a2 Y Tryz.call179 (zlr a2.sub _ _ f32)<|fun d5 d6 a3 a0 B c2=>?_;subst c2;refine zcq Y Y<|zt Y ?_;refine zbp (d:=21) Y (fun c3=>?_) (fun c3=>?_)
 ·refine zaf 4 Y<|zi Y<|zt Y<|zaf 3 Y<|zi Y<|zb ?_;refine zap Y (fun a9=>?_) (fun a9=>?_)
  ·refine zx<|zc Y<|zj<|zJ<|zk Tryz.results127 ?_;refine ⟨a3,_,Y,B.done,?_⟩;refine zaB ?_
   first|(simp_all[zcT,zdV,zcJ];done)|(simp[zcT,Q,zdV,zcJ] at *;simp_all;done)|(simp_all[zcT,zdV,zcJ];omega)
  cases a9
 refine Z Y<|U zcf Y zdQ<|Z Y<|have c4:=((A.t S).t T).t a0;M 1 B.sub (H.up c4) zeN Y<|Z Y<|have c5:=(((P.t A).t S).t T).t a0;zK (e_f0.up c5) zbH Y<|Z Y<|zfe Y Y Y<|zh Y<|zt Y ?_;refine zaC (d:=27) Y (fun c6=>?_) (fun c6=>?_)
 ·refine zaf 3 Y<|zi Y<|zb ?_;refine zap Y (fun b0=>?_) (fun b0=>?_)
  ·refine zx<|zc Y<|zj<|zJ<|zk Tryz.results127 ?_;refine ⟨a3,_,Y,B.done,?_⟩;refine zaB ?_
   first|(simp_all[zcT,zdV,zcJ];done)|(simp[zcT,Q,zdV,zcJ] at *;simp_all;done)|(simp_all[zcT,zdV,zcJ];omega)
  cases b0
 refine Z Y<|zq a8 Y<|Z Y<|zK (f28.up (T.t a0)) zbH Y<|Z Y<|zfe Y Y Y<|zh Y<|zb ?_;refine zS Y (fun c7=>?_) (fun c7=>?_)
 ·refine zx<|zc Y<|zj<|zJ<|zk Tryz.results127 ?_;refine ⟨a3,_,Y,B.done,?_⟩;refine zaB ?_
  first|(simp_all[zcT,zdV,zcJ];done)|(simp[zcT,Q,zdV,zcJ] at *;simp_all;done)|(simp_all[zcT,zdV,zcJ];omega)
 refine zdF<|zx<|zc Y<|zj<|zk Tryz.results127 ?_;refine ⟨a3,_,Y,B.done,?_⟩;refine zaB ?_
 first|(simp_all[zcT,zdV,zcJ];done)|(simp[zcT,Q,zdV,zcJ] at *;simp_all;done)|(simp_all[zcT,zdV,zcJ];omega)
theorem ztU (hs:Sub h w) {a:Stretch} {b:Stretch} (ha:OkS a) (hb:OkS b):Calls Tryz.prog 180 #[.agg #[iV a.chapter,iV a.from_,iV a.to,iV a.as_,iV a.first],.agg #[iV b.chapter,iV b.from_,iV b.to,iV b.as_,iV b.first]] w (zbe h w (fun _ _ res_=>res_=.bool ((zeC a b)))):=by
 refine zl 57 Tryz.func180 Y ?_;have I:=zbM hs;obtain ⟨haa,hab,hac,had,hae,haf,hag,hah,hai⟩:=ha;obtain ⟨hba,hbb,hbc,hbd,hbe,hbf,hbg,hbh,hbi⟩:=hb;refine zx<|ze [iV (a.chapter),iV (a.from_),iV (a.to),iV (a.as_),iV (a.first)] I Y<|fun b1 w2 h3 a0 F L=>ze [iV (b.chapter),iV (b.from_),iV (b.to),iV (b.as_),iV (b.first)] L Y<|fun b7 w8 H B C A=>zd Y<|zb<|zx<|U zaa Y zG<|M 0 A.sub (F.up B) zO Y<|U zaa Y zG<|M 0 A.sub C zO Y<|zeb Y Y Y<|zt Y ?_;refine zaC (d:=11) Y (fun P=>?_) (fun P=>?_)
 ·refine Z Y<|U zaa Y zG<|Z Y<|M 1 A.sub (F.up B) zO Y<|Z Y<|U zaa Y zG<|Z Y<|M 1 A.sub C zO Y<|Z Y<|zQ Y (zzM Y Y)<|Z Y<|U zaa Y zG<|Z Y<|M 2 A.sub (F.up B) zO Y<|Z Y<|U zaa Y zG<|Z Y<|M 2 A.sub C zO Y<|Z Y<|zQ Y (zzL Y Y)<|Z Y<|zN Y<|zi Y<|zd Y<|zb<|zx<|zt Y<|zt Y ?_;refine zaC (d:=25) Y (fun Q=>?_) (fun Q=>?_)
  ·refine zaf 30 Y ?_;refine zi Y<|zd Y<|zj<|zk Tryz.results180 ?_;refine ⟨H,_,Y,A.done,?_⟩;refine zM ?_
   first|(simp_all[zeC];done)|(simp[zeC];simp_all;done)|(simp_all[zeC];intro q_;omega)|(simp_all[zeC];omega)
  refine Z Y<|U zaa Y zG<|Z Y<|M 3 A.sub (F.up B) zO Y<|Z Y<|U zaa Y zG<|Z Y<|M 3 A.sub C zO Y<|Z Y<|zeb Y Y Y<|Z Y<|zt Y ?_;refine zaC (d:=31) Y (fun S=>?_) (fun S=>?_)
  ·refine Z Y<|U zaa Y zG<|Z Y<|M 4 A.sub (F.up B) zO Y<|Z Y<|U zaa Y zG<|Z Y<|M 4 A.sub C zO Y<|Z Y<|zQ Y (zzM Y Y)<|Z Y<|U zaa Y zG<|Z Y<|M 4 A.sub (F.up B) zO Y<|Z Y<|U zaa Y zG<|Z Y<|M 2 A.sub (F.up B) zO Y<|Z Y<|zy Y zaS<|Z Y<|U zaa Y zG<|Z Y<|M 1 A.sub (F.up B) zO Y<|Z Y<|zfG Y Y zaS Y<|Z Y<|U zaa Y zG<|Z Y<|M 4 A.sub C zO Y ?_;refine Z Y<|U zaa Y zG<|Z Y<|M 2 A.sub C zO Y<|Z Y<|zy Y zaS<|Z Y<|U zaa Y zG<|Z Y<|M 1 A.sub C zO Y<|Z Y<|zfG Y Y zaS Y<|Z Y<|zQ Y (zzL Y Y)<|Z Y<|zN Y<|Z Y<|zi Y<|zh Y<|zd Y<|zj<|zk Tryz.results180 ?_;refine ⟨H,_,Y,A.done,?_⟩;refine zM ?_
   first|(simp_all[zeC];done)|(simp[zeC];simp_all;done)|(simp_all[zeC];intro q_;omega)|(simp_all[zeC];omega)
  refine zaf 23 Y<|Z Y<|zh Y<|zh Y<|zd Y<|zj ?_;refine zk Tryz.results180 ?_;refine ⟨H,_,Y,A.done,?_⟩;refine zM ?_
  first|(simp_all[zeC];done)|(simp[zeC];simp_all;done)|(simp_all[zeC];intro q_;omega)|(simp_all[zeC];omega)
 refine zaf 11 Y<|zh Y<|zd Y<|zb<|zx<|zt Y<|zt Y<|Z Y<|U zaa Y zG<|Z Y<|M 3 A.sub (F.up B) zO Y<|Z Y<|U zaa Y zG<|Z Y<|M 3 A.sub C zO Y<|Z Y<|zeb Y Y Y<|Z Y ?_;refine zt Y ?_;refine zaC (d:=31) Y (fun T=>?_) (fun T=>?_)
 ·refine Z Y<|U zaa Y zG<|Z Y<|M 4 A.sub (F.up B) zO Y<|Z Y<|U zaa Y zG<|Z Y<|M 4 A.sub C zO Y<|Z Y<|zQ Y (zzM Y Y)<|Z Y<|U zaa Y zG<|Z Y<|M 4 A.sub (F.up B) zO Y<|Z Y<|U zaa Y zG<|Z Y<|M 2 A.sub (F.up B) zO Y<|Z Y<|zy Y zaS<|Z Y<|U zaa Y zG<|Z Y<|M 1 A.sub (F.up B) zO Y<|Z Y<|zfG Y Y zaS Y<|Z Y<|U zaa Y zG<|Z Y<|M 4 A.sub C zO Y ?_;refine Z Y<|U zaa Y zG<|Z Y<|M 2 A.sub C zO Y<|Z Y<|zy Y zaS<|Z Y<|U zaa Y zG<|Z Y<|M 1 A.sub C zO Y<|Z Y<|zfG Y Y zaS Y<|Z Y<|zQ Y (zzL Y Y)<|Z Y<|zN Y<|Z Y<|zi Y<|zh Y<|zd Y<|zj<|zk Tryz.results180 ?_;refine ⟨H,_,Y,A.done,?_⟩;refine zM ?_
  first|(simp_all[zeC];done)|(simp[zeC];simp_all;done)|(simp_all[zeC];intro q_;omega)|(simp_all[zeC];omega)
 refine zaf 23 Y<|Z Y<|zh Y<|zh Y<|zd Y<|zj ?_;refine zk Tryz.results180 ?_;refine ⟨H,_,Y,A.done,?_⟩;refine zM ?_
 first|(simp_all[zeC];done)|(simp[zeC];simp_all;done)|(simp_all[zeC];intro q_;omega)|(simp_all[zeC];omega)
set_option maxHeartbeats 4000000 in
theorem znJ (hs:Sub h w) {t:Text} (t_f0:Sl zax h t_v0 t.chapters) (e_f0:Sl zbw h e_v0 e.stretches) (hl:∀ s∈e.stretches,OkS s) (hn:e.stretches.length≤12):Calls Tryz.prog 128 #[.agg #[t_v0],.agg #[iV e.id,e_v0]] w (zbe h w (fun h' _ res_=>∃ u0,res_=.tuple #[u0,iV ((clS e.stretches e.stretches.length).1),iV ((clS e.stretches e.stretches.length).2.1),.bool ((clS e.stretches e.stretches.length).2.2)]∧Box zpq h' true (zhk t e) u0)):=by
 refine zl 124 Tryz.func128 Y<|have v2:=zbM hs;have s7:=t_f0.le;have s8:=e_f0.le;zx<|ze [t_v0] v2 Y<|fun b1 w2 h3 v3 v4 v5=>ze [iV (e.id),e_v0] v5 Y<|fun b7 w8 h9 h6 d6 e7=>zdo Y Y<|zc Y<|zc Y<|zd Y<|zb<|zvq<|zx<|zg e7.sub d6 zco zbh Y<|zg e7.sub (v4.up h6) zaG zab Y<|zgP (κ:=Pair) (υ:=Pair) (ek:=(fun x:Pair=>.agg [iV x.a,iV x.b].toArray)) (eu:=(fun x:Pair=>.agg [iV x.a,iV x.b].toArray)) e7 Y<|fun z4 v6 z5 f16 o5=>?_;obtain ⟨c8,rfl⟩:=f16.form;have o6:(([]:List (Pair×Pair)).map (·.1)).Nodup:=by simp
 refine zgP (κ:=Pair) (υ:=Pair) (ek:=(fun x:Pair=>.agg [iV x.a,iV x.b].toArray)) (eu:=(fun x:Pair=>.agg [iV x.a,iV x.b].toArray)) o5 Y<|fun z6 v7 z7 f23 o7=>?_;obtain ⟨c9,rfl⟩:=f23.form;have o8:(([]:List (Pair×Pair)).map (·.1)).Nodup:=by simp
 refine zar rfl rfl (zce (cs:=[iV (e.id),e_v0,t_v0,(.map (some c8)),(.map (some c9))]) (by obtain ⟨_,_,rfl⟩:=Sl.form e_f0;obtain ⟨_,_,rfl⟩:=Sl.form t_f0;kernel_rfl)) ?_;refine ze [iV (e.id),e_v0,t_v0,(.map (some c8)),(.map (some c9))] o7 Y<|fun z8 z9 s9 d7 c3 e8=>zjx Y Y<|zb<|zx<|U zcf Y zdQ<|M 1 e8.sub (d6.up d7) zeN Y<|have h4:=(v3.t h6).t d7;zK (e_f0.up h4) zbH Y<|zc Y<|zb<|zaH<|zvs<|zz<|zat<|U zcf Y zdQ<|M 1 e8.sub (d6.up d7) zeN Y<|zK (e_f0.up h4) zbH Y<|za Y<|zb<|zT ?_;refine zaM (zcp 5 14++zcp 31 89) (G:=Nat×List (Nat×Obj)×List (Nat×Obj)×Heap) (fun ⟨k,A,B,h5⟩=>[(5,iV (clS e.stretches k).1),(6,iV (clS e.stretches k).2.1),(7,.bool (clS e.stretches k).2.2),(31,iV (k:Int))]) (fun ⟨k,A,B,h5⟩ w'=>Le s9 h5∧St h w h5 w' [A,B]∧(OM (fun x:Pair=>.agg [iV x.a,iV x.b].toArray) (fun x:Pair=>.agg [iV x.a,iV x.b].toArray) ((asM (e.stretches.take k))) A (.map (some c8)))∧((((asM (e.stretches.take k))).map (·.1)).Nodup)∧(OM (fun x:Pair=>.agg [iV x.a,iV x.b].toArray) (fun x:Pair=>.agg [iV x.a,iV x.b].toArray) ((zoJ (e.stretches.take k))) B (.map (some c9)))∧((((zoJ (e.stretches.take k))).map (·.1)).Nodup)∧(k≤e.stretches.length)) (fun ⟨k,A,B,h5⟩=>e.stretches.length-k) ⟨0,v6,v7,s9⟩ ⟨rfl,rfl,rfl,rfl,trivial⟩ ⟨Le.refl _,e8,(by have q:=f16;exact q),(by have q:=o6;exact q),(by have q:=f23;exact q),(by have q:=o8;exact q),zbm⟩ ?_;rintro ⟨k,A,B,h5⟩ _ A0 ⟨b2,e9,L,a1,F,a0,hk⟩;refine zx<|zN Y<|zb<|zaH ?_;refine zS Y (fun v8=>?_) (fun v8=>?_)
 ·refine zaN<|zT<|zx<|za Y ?_;obtain ⟨sx,hsx⟩:∃ y_,(e.stretches)[k]?=some y_:=zch zU;have t0:=h4.t b2;obtain ⟨A1,A2,_,o9,p0,hr_sx⟩:=Sl.elem (e_f0.up t0) hsx;subst hr_sx;refine zL o9 zbH zbV Y<|zg e9.sub p0 zdZ zbV Y<|zad e9 Tryz.zeroValue211 Y Y<|fun A3 A4 p1=>zc Y<|zo 2 p1 Y zbV<|fun A5 p2=>?_;obtain ⟨t1,c5,p3,g0⟩:=p2.freeze (k:=2) rfl;have b6:=zay.of p3;refine zb<|zaH<|zaH ?_;have hso:=hl sx (List.mem_of_getElem? hsx);obtain ⟨hsoa,hsob,hsoc,hsod,hsoe,hsof,hsog,hsoh,hsoi⟩:=hso;have hcb:=zuJ e.stretches k zU;refine zag<|U zaa Y zG<|M 2 g0.sub b6 zO Y<|U zaa Y zG<|M 1 g0.sub b6 zO Y<|zfG Y Y zaS Y<|za Y<|zb<|zT ?_;refine zaM (zcp 10 7++zcp 41 52) (G:=Nat×List (Nat×Obj)×List (Nat×Obj)×Heap) (fun ⟨i,A,B,e6⟩=>[(41,iV (i:Int))]) (fun ⟨i,A,B,e6⟩ w'=>Le t1 e6∧St h w e6 w' [A,B,[]]∧(OM (fun x:Pair=>.agg [iV x.a,iV x.b].toArray) (fun x:Pair=>.agg [iV x.a,iV x.b].toArray) (asN (asM (e.stretches.take k)) sx i) A (.map (some c8)))∧(((asN (asM (e.stretches.take k)) sx i).map (·.1)).Nodup)∧(OM (fun x:Pair=>.agg [iV x.a,iV x.b].toArray) (fun x:Pair=>.agg [iV x.a,iV x.b].toArray) (zmn (zoJ (e.stretches.take k)) sx i) B (.map (some c9)))∧(((zmn (zoJ (e.stretches.take k)) sx i).map (·.1)).Nodup)∧((i:Int)≤sx.to-sx.from_)) (fun ⟨i,A,B,e6⟩=>(sx.to-sx.from_).toNat-i) ⟨0,A,B,t1⟩ ⟨rfl,trivial⟩ ⟨Le.refl _,g0,(by have q:=L;exact q),(by have q:=a1;exact q),(by have q:=F;exact q),(by have q:=a0;exact q),zbm⟩ ?_;rintro ⟨i,A,B,e6⟩ _ A6 ⟨H,g3,L,a1,F,a0,hi⟩;refine zx<|zN Y<|zb<|zaH ?_;refine zS Y (fun v9=>?_) (fun v9=>?_)
  ·refine zaN<|zT<|zx<|za Y<|zc Y<|zb<|zaH<|zba (er:=([],[],[],[],0)) (dsts:=[44,45,46,47,48,49,50,51,52,53,54,55,56,57,11,12]) g3 Tryz.mixed<|zF (zm zaa Y zG)<|zam (fun hD wD P S T hO _ _=>(zr 0 (S.sub T) (b6.up H) zO Y))<|zF (zm zaa Y zG)<|zam (fun hD wD P S T hO _ _=>(zr 1 (S.sub T) (b6.up H) zO Y))<|zF (zeH Y)<|zF (zjC Y Y zaS)<|zF (zce (cs:=[iV (sx.chapter),iV ((sx.from_)+(i:Int))]) zbL)<|zF (zm zaa Y zG)<|zam (fun hD wD P S T hO _ _=>(zr 3 (S.sub T) (b6.up H) zO Y))<|zF (zm zaa Y zG)<|zam (fun hD wD P S T hO _ _=>(zr 4 (S.sub T) (b6.up H) zO Y))<|zF (zeH Y)<|zF (zjC Y Y zaS)<|zF (zce (cs:=[iV (sx.as_),iV ((sx.first)+(i:Int))]) zbL)<|zil zeR Y<|zil zeR Y<|zbC<|zbC ?_;refine zck<|fun A7=>fun A8=>fun w0 A9 _ d0 p4 _ _ _ _ _ _ _ _ _ _ _ _ _ _=>zo 3 p4 Y zew<|fun B0 p5=>?_;obtain ⟨B1,c6,p6,p7⟩:=p5.freeze (k:=3) rfl;have d8:=zay.of p6;refine zB ⟨undef,Y,_,_,c6,p7,?_⟩;intro w1 B2 _ b8 p8 _ _ _ _ _ _ _ _ _ _ _ _ _ _ _ _ _ _ _ _ _ _ _ _ _ _ _ _;refine zo 4 p8 Y zew<|fun B3 p9=>?_;obtain ⟨B4,b3,q0,q1⟩:=p9.freeze (k:=4) rfl;have d1:=zay.of q0;refine zB ⟨undef,Y,_,_,b3,q1,?_⟩;intro w3 B5 _ a6 q2 _ _ _ _ _ _ _ _ _ _ _ _ _ _ _ _ _ _ _ _ _ _ _ _ _ _ _ _;refine zbk.fin Y<|zz<|zaH<|zaH<|have o4:=((((((b2.t c5).t H).t d0).t c6).t b8).t b3).t a6;zba (er:=([5],[],[],[],0)) (dsts:=[59,60,61,62,63,64,58,65,66,13,14]) q2 Tryz.mixed<|zF (zgW Y)<|zF (zbX Y)<|zF (zm zfV Y zie)<|zam (fun hD wD P S T hO _ _=>(zr 3 (S.sub T) (c3.up o4) zjb Y))<|zam (fun hD wD P S T hO=>(zW (S.sub T) (d8.up ((b8.t b3).t a6)) Y zhp zew Y))<|zam (fun hD wD P S T hO _ _ _ _=>(zmv (k:=(Pair.mk ((sx.chapter)) (((sx.from_)+(i:Int))))) (zu:=ziG) (zle).toKeyF zfW L ((hO Y).ent (k:=0) Y) zeR Y Y Y))<|zF (zpF Y)<|zF (zft (v:=(.agg (List.toArray _))) Y Y)<|zF (zft (v:=(.bool _)) Y Y)<|zil zeR Y<|zbC<|zF (zpH Y)<|zck<|fun B6=>fun w4 B7 _ a7 q3 _ _ _ _ _ _ _ _ _ _ _ _ _ _ _ _=>zo 5 q3 Y zew<|fun B8 q4=>?_;obtain ⟨B9,I,j8,j9⟩:=q4.freeze (k:=5) rfl;have t2:=zay.of j8;refine zB ⟨undef,Y,_,_,I,j9,?_⟩;intro t3 w5 _ Q d9 _ _ _ _ _ _ _ _ _ _ _ _ _ _ _ _ _ _ _ _;refine zbk.fin Y<|zz<|zx<|zt Y<|zcq Y Y<|zb ?_;refine zap Y (fun C=>?_) (fun C=>?_)
   ·have g4:=((o4.t a7).t I).t Q;have h7:=((((b8.t b3).t a6).t a7).t I).t Q;have g5:=((a6.t a7).t I).t Q;refine zba (er:=([],[],[],[],0)) (dsts:=[69,70,71,72,73,74]) d9 Tryz.mixed<|zF (zgW Y)<|zF (zbX Y)<|zF (zm zfV Y zie)<|zam (fun hD wD P S T hO _ _=>(zr 3 (S.sub T) (c3.up g4) zjb Y))<|zam (fun hD wD P S T hO=>(zW (S.sub T) (d8.up h7) Y zhp zew Y))<|zam (fun hD wD P S T hO=>(zW (S.sub T) (d1.up g5) Y zhp zew Y))<|zbC<|zck<|fun t4 w6 _ a4 k0 _ _ _ _ _ _ _ _ _ _ _ _=>zhx (i:=0) k0 L Y a1 zle zfW Y (k:=(Pair.mk ((sx.chapter)) (((sx.from_)+(i:Int))))) Y (u:=(Pair.mk ((sx.as_)) (((sx.first)+(i:Int))))) Y<|fun h8 w7 _ q5 f121 e0 k1=>?_;subst q5;refine zB ⟨undef,Y,_,_,Le.refl _,k1,?_⟩;intro t5 w9 _ a5 k2 _ _ _ _ _ _ _ _ _ _ _ _;refine zbk.fin Y<|zz<|zaH<|zba (er:=([5],[],[],[],0)) (dsts:=[76,77,78,79,80,81,75,82,83,15,16]) k2 Tryz.mixed<|zF (zgW Y)<|zF (zbX Y)<|zF (zm zfV Y zie)<|zam (fun hD wD P S T hO _ _=>(zr 4 (S.sub T) (c3.up ((g4.t a4).t a5)) zjb Y))<|zam (fun hD wD P S T hO=>(zW (S.sub T) (d1.up ((g5.t a4).t a5)) Y zhp zew Y))<|zam (fun hD wD P S T hO _ _ _ _=>(zmv (k:=(Pair.mk ((sx.as_)) (((sx.first)+(i:Int))))) (zu:=ziG) (zle).toKeyF zfW F ((hO Y).ent (k:=1) Y) zeR Y Y Y))<|zF (zpF Y)<|zF (zft (v:=(.agg (List.toArray _))) Y Y)<|zF (zft (v:=(.bool _)) Y Y)<|zil zeR Y<|zbC<|zF (zpH Y)<|zck<|fun x0=>fun t6 x1 _ b9 k3 _ _ _ _ _ _ _ _ _ _ _ _ _ _ _ _=>zo 6 k3 Y zew<|fun x2 k4=>?_;obtain ⟨x3,a8,k5,k6⟩:=k4.freeze (k:=6) rfl;have t7:=zay.of k5;refine zB ⟨undef,Y,_,_,a8,k6,?_⟩;intro k7 x4 _ c0 e1 _ _ _ _ _ _ _ _ _ _ _ _ _ _ _ _ _ _ _ _;refine zbk.fin Y<|zz<|zx<|zt Y<|zcq Y Y<|zb ?_;refine zap Y (fun b4=>?_) (fun b4=>?_)
    ·have q6:=((((g4.t a4).t a5).t b9).t a8).t c0;have q7:=((((g5.t a4).t a5).t b9).t a8).t c0;have q8:=((((h7.t a4).t a5).t b9).t a8).t c0;refine zba (er:=([],[],[],[],0)) (dsts:=[86,87,88,89,90,91]) e1 Tryz.mixed<|zF (zgW Y)<|zF (zbX Y)<|zF (zm zfV Y zie)<|zam (fun hD wD P S T hO _ _=>(zr 4 (S.sub T) (c3.up q6) zjb Y))<|zam (fun hD wD P S T hO=>(zW (S.sub T) (d1.up q7) Y zhp zew Y))<|zam (fun hD wD P S T hO=>(zW (S.sub T) (d8.up q8) Y zhp zew Y))<|zbC<|zck<|fun t8 x5 _ k8 k9 _ _ _ _ _ _ _ _ _ _ _ _=>zhx (i:=1) k9 F Y a0 zle zfW Y (k:=(Pair.mk ((sx.as_)) (((sx.first)+(i:Int))))) Y (u:=(Pair.mk ((sx.chapter)) (((sx.from_)+(i:Int))))) Y<|fun q9 x6 _ r0 f159 l0 l1=>?_;subst r0;refine zB ⟨undef,Y,_,_,Le.refl _,l1,?_⟩;intro l2 x7 _ l3 l4 _ _ _ _ _ _ _ _ _ _ _ _;refine zbk.fin Y<|zaF<|zy Y zaS<|za Y<|zb ?_;have r1:=((((((((((((((H.t d0).t c6).t b8).t b3).t a6).t a7).t I).t Q).t a4).t a5).t b9).t a8).t c0).t k8).t l3;refine ⟨⟨i+1,h8,q9,l2⟩,⟨rfl,trivial⟩,?_,⟨r1,l4.take 3,?_,?_,?_,?_,?_⟩,?_⟩
     ·exact zaR
     ·have q:=f121
      first|(rw[zlL (by simpa using C)];exact q)|(rw[zlM (by simpa using C)];exact q)
     ·have q:=e0
      first|(rw[zlL (by simpa using C)];exact q)|(rw[zlM (by simpa using C)];exact q)
     ·have q:=f159
      first|(rw[zjo (by simpa using b4)];exact q)|(rw[zjp (by simpa using b4)];exact q)
     ·have q:=l0
      first|(rw[zjo (by simpa using b4)];exact q)|(rw[zjp (by simpa using b4)];exact q)
     ·first|omega|(simp;omega)
     show (sx.to-sx.from_).toNat-((i+1))<(sx.to-sx.from_).toNat-i;omega
    refine zbj<|zaF<|zy Y zaS<|za Y<|zb ?_;have r2:=((((((((((((H.t d0).t c6).t b8).t b3).t a6).t a7).t I).t Q).t a4).t a5).t b9).t a8).t c0;refine ⟨⟨i+1,h8,B,k7⟩,⟨rfl,trivial⟩,?_,⟨r2,e1.take 3,?_,?_,?_,?_,?_⟩,?_⟩
    ·exact zaR
    ·have q:=f121
     first|(rw[zlL (by simpa using C)];exact q)|(rw[zlM (by simpa using C)];exact q)
    ·have q:=e0
     first|(rw[zlL (by simpa using C)];exact q)|(rw[zlM (by simpa using C)];exact q)
    ·have q:=F
     first|(rw[zjo (by simpa using b4)];exact q)|(rw[zjp (by simpa using b4)];exact q)
    ·have q:=a0
     first|(rw[zjo (by simpa using b4)];exact q)|(rw[zjp (by simpa using b4)];exact q)
    ·first|omega|(simp;omega)
    show (sx.to-sx.from_).toNat-((i+1))<(sx.to-sx.from_).toNat-i;omega
   refine zaN<|have j0:=((o4.t a7).t I).t Q;have j1:=((a6.t a7).t I).t Q;zba (er:=([5],[],[],[],0)) (dsts:=[76,77,78,79,80,81,75,82,83,15,16]) d9 Tryz.mixed<|zF (zgW Y)<|zF (zbX Y)<|zF (zm zfV Y zie)<|zam (fun hD wD P S T hO _ _=>(zr 4 (S.sub T) (c3.up j0) zjb Y))<|zam (fun hD wD P S T hO=>(zW (S.sub T) (d1.up j1) Y zhp zew Y))<|zam (fun hD wD P S T hO _ _ _ _=>(zmv (k:=(Pair.mk ((sx.as_)) (((sx.first)+(i:Int))))) (zu:=ziG) (zle).toKeyF zfW F ((hO Y).ent (k:=1) Y) zeR Y Y Y))<|zF (zpF Y)<|zF (zft (v:=(.agg (List.toArray _))) Y Y)<|zF (zft (v:=(.bool _)) Y Y)<|zil zeR Y<|zbC<|zF (zpH Y)<|zck<|fun x8=>fun t9 x9 _ c1 l5 _ _ _ _ _ _ _ _ _ _ _ _ _ _ _ _=>zo 6 l5 Y zew<|fun y0 l6=>?_;obtain ⟨y1,a9,l7,l8⟩:=l6.freeze (k:=6) rfl;have v0:=zay.of l7;refine zB ⟨undef,Y,_,_,a9,l8,?_⟩;intro l9 y2 _ c2 e2 _ _ _ _ _ _ _ _ _ _ _ _ _ _ _ _ _ _ _ _;refine zbk.fin Y<|zz<|zx<|zt Y<|zcq Y Y<|zb ?_;refine zap Y (fun b5=>?_) (fun b5=>?_)
   ·have r3:=((j0.t c1).t a9).t c2;have r4:=((j1.t c1).t a9).t c2;have r5:=(((((((b8.t b3).t a6).t a7).t I).t Q).t c1).t a9).t c2;refine zba (er:=([],[],[],[],0)) (dsts:=[86,87,88,89,90,91]) e2 Tryz.mixed<|zF (zgW Y)<|zF (zbX Y)<|zF (zm zfV Y zie)<|zam (fun hD wD P S T hO _ _=>(zr 4 (S.sub T) (c3.up r3) zjb Y))<|zam (fun hD wD P S T hO=>(zW (S.sub T) (d1.up r4) Y zhp zew Y))<|zam (fun hD wD P S T hO=>(zW (S.sub T) (d8.up r5) Y zhp zew Y))<|zbC<|zck<|fun v1 y3 _ m0 m1 _ _ _ _ _ _ _ _ _ _ _ _=>zhx (i:=1) m1 F Y a0 zle zfW Y (k:=(Pair.mk ((sx.as_)) (((sx.first)+(i:Int))))) Y (u:=(Pair.mk ((sx.chapter)) (((sx.from_)+(i:Int))))) Y<|fun r6 y4 _ r7 f201 m2 m3=>?_;subst r7;refine zB ⟨undef,Y,_,_,Le.refl _,m3,?_⟩;intro m4 y5 _ m5 m6 _ _ _ _ _ _ _ _ _ _ _ _;refine zbk.fin Y<|zaF<|zy Y zaS<|za Y<|zb ?_;have r8:=((((((((((((H.t d0).t c6).t b8).t b3).t a6).t a7).t I).t Q).t c1).t a9).t c2).t m0).t m5;refine ⟨⟨i+1,A,r6,m4⟩,⟨rfl,trivial⟩,?_,⟨r8,m6.take 3,?_,?_,?_,?_,?_⟩,?_⟩
    ·exact zaR
    ·have q:=L
     first|(rw[zlL (by simpa using C)];exact q)|(rw[zlM (by simpa using C)];exact q)
    ·have q:=a1
     first|(rw[zlL (by simpa using C)];exact q)|(rw[zlM (by simpa using C)];exact q)
    ·have q:=f201
     first|(rw[zjo (by simpa using b5)];exact q)|(rw[zjp (by simpa using b5)];exact q)
    ·have q:=m2
     first|(rw[zjo (by simpa using b5)];exact q)|(rw[zjp (by simpa using b5)];exact q)
    ·first|omega|(simp;omega)
    show (sx.to-sx.from_).toNat-((i+1))<(sx.to-sx.from_).toNat-i;omega
   refine zbj<|zaF<|zy Y zaS<|za Y<|zb ?_;have r9:=((((((((((H.t d0).t c6).t b8).t b3).t a6).t a7).t I).t Q).t c1).t a9).t c2;refine ⟨⟨i+1,A,B,l9⟩,⟨rfl,trivial⟩,?_,⟨r9,e2.take 3,?_,?_,?_,?_,?_⟩,?_⟩
   ·exact zaR
   ·have q:=L
    first|(rw[zlL (by simpa using C)];exact q)|(rw[zlM (by simpa using C)];exact q)
   ·have q:=a1
    first|(rw[zlL (by simpa using C)];exact q)|(rw[zlM (by simpa using C)];exact q)
   ·have q:=F
    first|(rw[zjo (by simpa using b5)];exact q)|(rw[zjp (by simpa using b5)];exact q)
   ·have q:=a0
    first|(rw[zjo (by simpa using b5)];exact q)|(rw[zjp (by simpa using b5)];exact q)
   ·first|omega|(simp;omega)
   show (sx.to-sx.from_).toNat-((i+1))<(sx.to-sx.from_).toNat-i;omega
  refine zcC<|zz<|zx<|U zcf Y zdQ<|have s0:=((d7.t b2).t c5).t H;M 1 g3.sub (d6.up s0) zeN Y<|za Y ?_;have f212:=Sl.take e_f0 (k:=k) zU;have g6:=(t0.t c5).t H;refine zar rfl rfl (zfH (e_f0.up g6) rfl rfl (hk:=rfl) zU zbH zbV) ?_;refine zK (f212.up g6) zbH Y<|za Y<|zb<|zT ?_;refine zaM ([5,6,7,17,18]++zcp 98 21) (G:=Nat×Heap) (fun ⟨j,c7⟩=>[(5,iV (clS e.stretches k).1),(6,iV (clS e.stretches k).2.1),(7,.bool (clS e.stretches k).2.2),(98,iV (j:Int))]) (fun ⟨j,c7⟩ w'=>Le e6 c7∧St h w c7 w' [A,B,[]]∧(j≤(e.stretches.take k).length)∧(∀ j',j'<j→(decide ((j':Int)<(clS e.stretches k).1) && zsE e.stretches j' sx)=false)) (fun ⟨j,c7⟩=>(e.stretches.take k).length-j) ⟨0,e6⟩ ⟨rfl,rfl,rfl,rfl,trivial⟩ ⟨Le.refl _,g3,zbm,(by intro j' hj';omega)⟩ ?_;rintro ⟨j,c7⟩ _ y6 ⟨a2,d3,hj,hJ⟩;refine zx<|zN Y<|zb<|zaH ?_;refine zS Y (fun g7=>?_) (fun g7=>?_)
  ·refine zaN<|zT<|zx<|za Y ?_;obtain ⟨o,ho⟩:∃ y_,((e.stretches.take (k)))[j]?=some y_:=zch zU;have s1:=g6.t a2;obtain ⟨y7,y8,_,m7,m8,hr_o⟩:=Sl.elem (f212.up s1) ho;subst hr_o;refine zL m7 zbH zbV Y<|zg d3.sub m8 zdZ zbV Y<|zad d3 Tryz.zeroValue211 Y Y<|fun y9 z0 m9=>zc Y<|zo 3 m9 Y zbV<|fun z1 o0=>?_;obtain ⟨j2,b0,o1,a3⟩:=o0.freeze (k:=3) rfl;have e3:=zay.of o1;refine zb<|zaH ?_;have d5:e.stretches[j]?=some o:=by have q_:=ho;rw[List.getElem?_take] at q_;split at q_;exact q_;cases q_
   have hoo:=hl o (List.mem_of_getElem? d5);have hjk:j<k:=by have q_:=(List.getElem?_eq_some_iff.1 ho).1;rw[List.length_take] at q_;omega
   refine zag<|za Y<|za Y<|zN Y<|zt Y ?_;refine zaC (d:=106) Y (fun d2=>?_) (fun d2=>?_)
   ·refine Z Y<|zg a3.sub e3 zdZ zbV Y<|Z Y<|zg a3.sub (b6.up ((H.t a2).t b0)) zdZ zbV Y<|Z Y<|zQ Y (zgK Y Y Tryz.eqGuardType211 (Tryz.eq_Stretch o sx))<|Z Y<|zt Y ?_;refine zaC (d:=110) Y (fun g8=>?_) (fun g8=>?_)
    ·refine zaf 3 Y<|Z Y<|zi Y<|zi Y<|zb ?_;refine zap Y (fun j3=>?_) (fun j3=>?_)
     ·refine zx<|za Y<|za Y<|zc Y<|zc Y<|zd Y<|zb<|zhq<|zim Y<|zcV<|zcV<|zim Y<|zgg<|zz ?_
      first|have hcl:=zoa hsx d5 hjk d2 (by rw[decide_eq_true g8];rfl) hJ|have hcl:=zoa hsx d5 hjk d2 (by rw[g7];simp) hJ|have hcl:=zsT hsx (fun i_ hi_=>hJ i_ (by rw[List.length_take] at *;omega))
      refine zag<|zy Y zaS<|za Y<|zb ?_;have s2:=(((b2.t c5).t H).t a2).t b0;refine ⟨⟨k+1,A,B,j2⟩,⟨?_,?_,?_,Y,trivial⟩,?_,⟨s2,a3.take 2,?_,?_,?_,?_,?_⟩,?_⟩
      ·exact zaB (by rw[hcl])
      ·exact zaB (by rw[hcl])
      ·exact zM (by rw[hcl])
      ·exact zaR
      ·have q:=L;rw[zaQ hsx,zls,show zfi sx=i by unfold zfi;omega];exact q
      ·have q:=a1;rw[zaQ hsx,zls,show zfi sx=i by unfold zfi;omega];exact q
      ·have q:=F;rw[zaQ hsx,zke,show zfi sx=i by unfold zfi;omega];exact q
      ·have q:=a0;rw[zaQ hsx,zke,show zfi sx=i by unfold zfi;omega];exact q
      ·first|omega|(simp;omega)
      show e.stretches.length-((k+1))<e.stretches.length-k;omega
     cases j3
    refine Z Y<|zg a3.sub e3 zdZ zbV Y<|Z Y<|zg a3.sub (b6.up ((H.t a2).t b0)) zdZ zbV Y<|Z Y ?_;refine zaD a3 rfl rfl rfl Tryz.call180 rfl (ztU a3.sub (a:=o) (b:=sx) (by exact hoo) (by exact hl sx (List.mem_of_getElem? hsx))) ?_;intro z2 z3 j4 e4 e5 s3;subst s3;refine Z Y<|zh Y<|zi Y<|zb ?_;refine zap Y (fun j5=>?_) (fun j5=>?_)
    ·refine zx<|za Y<|za Y<|zc Y<|zc Y<|zd Y<|zb<|zhq<|zim Y<|zcV<|zcV<|zim Y<|zgg<|zz ?_
     first|have hcl:=zoa hsx d5 hjk d2 (by rw[decide_eq_true g8];rfl) hJ|have hcl:=zoa hsx d5 hjk d2 (by rw[j5];simp) hJ|have hcl:=zsT hsx (fun i_ hi_=>hJ i_ (by rw[List.length_take] at *;omega))
     refine zag<|zy Y zaS<|za Y<|zb ?_;have s4:=((((b2.t c5).t H).t a2).t b0).t e4;refine ⟨⟨k+1,A,B,j4⟩,⟨?_,?_,?_,Y,trivial⟩,?_,⟨s4,e5.take 2,?_,?_,?_,?_,?_⟩,?_⟩
     ·exact zaB (by rw[hcl])
     ·exact zaB (by rw[hcl])
     ·exact zM (by rw[hcl])
     ·exact zaR
     ·have q:=L;rw[zaQ hsx,zls,show zfi sx=i by unfold zfi;omega];exact q
     ·have q:=a1;rw[zaQ hsx,zls,show zfi sx=i by unfold zfi;omega];exact q
     ·have q:=F;rw[zaQ hsx,zke,show zfi sx=i by unfold zfi;omega];exact q
     ·have q:=a0;rw[zaQ hsx,zke,show zfi sx=i by unfold zfi;omega];exact q
     ·first|omega|(simp;omega)
     show e.stretches.length-((k+1))<e.stretches.length-k;omega
    refine zbj<|zaF<|zy Y zaS<|za Y<|zb ?_;refine ⟨⟨j+1,j4⟩,⟨rfl,Y,Y,Y,trivial⟩,?_,⟨((a2.t b0).t e4),e5.take 3,?_,?_⟩,?_⟩
    ·exact zaR
    ·first|omega|(simp;omega)
    ·intro j' hj'
     rcases Nat.lt_or_eq_of_le (Nat.le_of_lt_succ hj') with q_|q_
     ·exact hJ j' q_
     ·subst q_;simp only[zsE,d5];first|(rw[decide_eq_false (by assumption)];simp;done)|(simp_all;done)
    show (e.stretches.take k).length-((j+1))<(e.stretches.take k).length-j;omega
   refine zaf 8 Y<|zh Y<|zb ?_;refine zap Y (fun j6=>?_) (fun j6=>?_)
   ·cases j6
   refine zbj<|zaF<|zy Y zaS<|za Y<|zb ?_;refine ⟨⟨j+1,j2⟩,⟨rfl,Y,Y,Y,trivial⟩,?_,⟨(a2.t b0),a3.take 3,?_,?_⟩,?_⟩
   ·exact zaR
   ·first|omega|(simp;omega)
   ·intro j' hj'
    rcases Nat.lt_or_eq_of_le (Nat.le_of_lt_succ hj') with q_|q_
    ·exact hJ j' q_
    ·subst q_;simp only[zsE,d5];first|(rw[decide_eq_false (by assumption)];simp;done)|(simp_all;done)
   show (e.stretches.take k).length-((j+1))<(e.stretches.take k).length-j;omega
  refine zcC<|zeT<|zz ?_
  first|have hcl:=zoa hsx d5 hjk %g2 (by rw[decide_eq_true %g1];rfl) hJ|have hcl:=zoa hsx d5 hjk %g2 (by rw[g7];simp) hJ|have hcl:=zsT hsx (fun i_ hi_=>hJ i_ (by rw[List.length_take] at *;omega))
  refine zag<|zy Y zaS<|za Y<|zb ?_;have s5:=((b2.t c5).t H).t a2;refine ⟨⟨k+1,A,B,c7⟩,⟨?_,?_,?_,Y,trivial⟩,?_,⟨s5,d3.take 2,?_,?_,?_,?_,?_⟩,?_⟩
  ·exact zaB (by rw[hcl])
  ·exact zaB (by rw[hcl])
  ·exact zM (by rw[hcl])
  ·exact zaR
  ·have q:=L;rw[zaQ hsx,zls,show zfi sx=i by unfold zfi;omega];exact q
  ·have q:=a1;rw[zaQ hsx,zls,show zfi sx=i by unfold zfi;omega];exact q
  ·have q:=F;rw[zaQ hsx,zke,show zfi sx=i by unfold zfi;omega];exact q
  ·have q:=a0;rw[zaQ hsx,zke,show zfi sx=i by unfold zfi;omega];exact q
  ·first|omega|(simp;omega)
  show e.stretches.length-((k+1))<e.stretches.length-k;omega
 refine zcC<|zz<|zx<|zjf Y Y<|za Y<|za Y<|zt Y<|zjx Y Y<|zc Y<|zc Y<|zd Y<|zj<|zik<|zze Tryz.results128 ?_;obtain ⟨s6,d4,f250,o2⟩:=OM.freeze (k:=0) e9 L rfl;have g9:=f250.to (show _=(asM e.stretches) by rw[List.take_of_length_le zU]);have h0:FML (fun x:Pair=>.agg [iV x.a,iV x.b].toArray) (fun x:Pair=>[iV x.a,iV x.b]) zuP s6 (asM e.stretches) (.map (some c8)):=⟨g9,by intro p_ hp_;rfl⟩;obtain ⟨j7,c4,f254,o3⟩:=OM.freeze (k:=1) o2 F rfl;have h1:=f254.to (show _=(zoJ e.stretches) by rw[List.take_of_length_le zU]);have h2:FML (fun x:Pair=>.agg [iV x.a,iV x.b].toArray) (fun x:Pair=>[iV x.a,iV x.b]) zuP j7 (zoJ e.stretches) (.map (some c9)):=⟨h1,by intro p_ hp_;rfl⟩;refine ⟨j7,_,Y,o3.done,?_⟩;refine ⟨_,zDS Y (zaB ?_) (zaB ?_) (zM ?_),Box.some ?_ (c3.up ((b2.t d4).t c4)) ⟨_,_,_,_,Y,(e_f0.up (((h4.t b2).t d4).t c4)),(t_f0.up (((h4.t b2).t d4).t c4)),(h0.up c4),h2⟩⟩
 all_goals first|rfl|(rw[List.take_of_length_le zU];done)|(rw[show k=e.stretches.length by omega])
theorem ztW (hs:Sub h w) {t:Text} (t_f0:Sl zax h t_v0 t.chapters) (e_f0:Sl zbw h e_v0 e.stretches) (K3:zay h 3 0 Tryz.glob3) (hn20:e.stretches.length≤1000):Calls Tryz.prog 81 #[.agg #[t_v0],.agg #[iV e.id,e_v0]] w (zbe h w (fun _ _ res_=>res_=.tuple #[iV ((zkD t e).1),iV ((zkD t e).2.1),iV ((zkD t e).2.2)])):=by
 refine zl 30 Tryz.func81 Y<|have a6:=zbM hs;have a1:=t_f0.le;have a2:=e_f0.le;zx<|ze [t_v0] a6 Y<|fun b1 w2 h3 a7 P a8=>ze [iV (e.id),e_v0] a8 Y<|fun b7 w8 h9 C I B=>zc Y<|zc Y<|zc Y<|zb<|zat<|zg B.sub (P.up C) zaG zab Y<|zg B.sub I zco zbh Y ?_;have H:=a7.t C;refine zaD B rfl rfl rfl Tryz.call127 rfl (zoI B.sub (t:=t) (t_f0.up H) (e:=e) (e_f0.up H) (K3.up H) (by exact hn20)) ?_;intro c1 c2 a9 F A b0;subst b0;refine zc Y<|zb<|zx<|za Y<|zao Y<|zb ?_;refine zS Y (fun Q=>?_) (fun Q=>?_)
 ·refine zx<|za Y<|zc Y<|zc Y<|zc Y<|zj<|zJ<|zjs Tryz.results81 ?_;refine ⟨a9,_,Y,A.done,?_⟩;refine zvG (zaB ?_) (zaB ?_) (zaB ?_)
  all_goals simp_all[zkD]
 refine zaN ?_;have b2:zcT t e=0:=by simpa using Q
 obtain ⟨c3,S,hst⟩:=zfC b2;refine zag<|zg A.sub (P.up (C.t F)) zaG zab Y<|zg A.sub (I.up F) zco zbh Y ?_;have T:=H.t F;refine zaD A rfl rfl rfl Tryz.call128 rfl (znJ A.sub (t:=t) (t_f0.up T) (e:=e) (e_f0.up T) (by exact fun s_ hs_=>(hst s_ hs_).2) (by exact S)) ?_;intro c4 c5 a3 b5 L b3;obtain ⟨c6,rfl,f29⟩:=b3;obtain ⟨c7,b6,rfl,b8,a0⟩:=f29;obtain ⟨c8,c9,d0,d1,rfl,f35,f37,b9,c0⟩:=a0;have a4:=f35.le;have a5:=f37.le;refine zdy Y Y<|zbQ Y<|zR Y<|zR Y<|zbK Y<|zjx Y Y<|zc Y<|zc Y<|zd Y<|zb<|zat<|zt Y<|zcq Y Y<|zb ?_;refine zap Y (fun b4=>?_) (fun b4=>?_)
 ·refine zx<|zc Y<|zc Y<|zc Y<|zj<|zJ<|zjs Tryz.results81 ?_;refine ⟨a3,_,Y,L.done,?_⟩;refine zvG (zaB ?_) (zaB ?_) (zaB ?_)
  all_goals simp_all[zkD]
 refine zdF<|zx<|za Y<|za Y<|zc Y<|zc Y<|zc Y<|zj<|zjs Tryz.results81 ?_;refine ⟨a3,_,Y,L.done,?_⟩;refine zvG (zaB ?_) (zaB ?_) (zaB ?_)
 all_goals simp_all[zkD]
theorem zpX (hs:Sub h w) {t:Text} (t_f0:Sl zax h t_v0 t.chapters) (e_f0:Sl zbw h e_v0 e.stretches) (K3:zay h 3 0 Tryz.glob3) (hn20:e.stretches.length≤1000):Calls Tryz.prog 44 #[.agg #[t_v0],.agg #[iV e.id,e_v0]] w (zbe h w (fun _ _ res_=>res_=iV ((zcH t e)))):=by
 refine zl 21 Tryz.func44 Y<|have Q:=zbM hs;have L:=t_f0.le;have P:=e_f0.le;zx<|ze [t_v0] Q Y<|fun b1 w2 h3 S T a0=>ze [iV (e.id),e_v0] a0 Y<|fun b7 w8 h9 C I A=>zc Y<|zb<|zx<|zg A.sub (T.up C) zaG zab Y<|zg A.sub I zco zbh Y ?_;have F:=S.t C;refine zaD A rfl rfl rfl Tryz.call81 rfl (ztW A.sub (t:=t) (t_f0.up F) (e:=e) (e_f0.up F) (K3.up F) (by exact hn20)) ?_;intro a5 a6 H a4 B a1;subst a1;refine zdy Y Y<|zR Y<|zR Y<|zR Y<|zc Y<|zc Y<|zc Y<|zb<|zaH<|zaH<|have hcs:=zwy t e;zag<|za Y<|zb<|zT<|zx<|zeb Y Y Y<|zd Y<|zb ?_;refine zS Y (fun a2=>?_) (fun a2=>?_)
 ·refine zx<|zc Y<|zj<|zan<|zk Tryz.results44 ?_;refine ⟨H,_,Y,B.done,?_⟩;refine zaB ?_
  first|(simp_all;done)|(split at hcs <;> simp_all)
 refine zx<|zeb Y Y Y<|zd Y<|zb ?_;refine zS Y (fun a3=>?_) (fun a3=>?_)
 ·refine zx<|zc Y<|zj<|zan<|zk Tryz.results44 ?_;refine ⟨H,_,Y,B.done,?_⟩;refine zaB ?_
  first|(simp_all;done)|(split at hcs <;> simp_all)
 refine zbj<|zeT<|zz<|zx<|za Y<|zc Y<|zj<|zk Tryz.results44 ?_;refine ⟨H,_,Y,B.done,?_⟩;refine zaB ?_
 first|(simp_all;done)|(split at hcs <;> simp_all)
theorem ztS (hs:Sub h w) {t:Text} (t_f0:Sl zax h t_v0 t.chapters) {all__v:Value} {all_:(List Edition)} (all__f:Sl zmr h all__v all_) (K3:zay h 3 0 Tryz.glob3) (hn:all_.length≤10) (hn20:∀ e∈all_,e.stretches.length≤1000):Calls Tryz.prog 234 #[.agg #[t_v0],all__v] w (zbe h w (fun h' _ res_=>∃ u0,res_=.tuple #[u0,iV ((zlS t all_))]∧Sl (zAR zpq) h' u0 ((zqL t all_)))):=by
 refine zl 50 Tryz.func234 Y<|have e7:=zbM hs;have d3:=t_f0.le;have all__f_b:=all__f.le;zx<|ze [t_v0] e7 Y<|fun b1 w2 h3 a7 d4 e8=>zcP Y Y<|zc Y<|zb<|zat<|zq all__v Y<|zK (all__f.up a7) zhv Y<|za Y<|zb<|zT ?_;refine zaM ([4,5,7,8]++zcp 18 11) (G:=Nat×Heap) (fun ⟨k,h7⟩=>[(18,iV (k:Int))]) (fun ⟨k,h7⟩ w'=>Le h3 h7∧St h w h7 w' []∧(k≤all_.length)∧(∀ j x,j<k→all_[j]?=some x→zcT t x=0)) (fun ⟨k,h7⟩=>all_.length-k) ⟨0,h3⟩ ⟨rfl,trivial⟩ ⟨Le.refl _,e8,zbm,(by intro j x hj;omega)⟩ ?_;rintro ⟨k,h7⟩ _ h1 ⟨P,a8,hk,hA⟩;refine zx<|zN Y<|zb<|zaH ?_;refine zS Y (fun e9=>?_) (fun e9=>?_)
 ·refine zaN<|zT<|zx ?_;obtain ⟨e,he⟩:∃ y_,(all_)[k]?=some y_:=zch zU;have d5:=a7.t P;obtain ⟨h2,h4,_,b0,b2,hr_e⟩:=Sl.elem (all__f.up d5) he;obtain ⟨h5,rfl,f18⟩:=hr_e;have e3:=f18.le;refine zL b0 zhv zbh Y<|zg a8.sub b2 zco zbh Y<|zad a8 Tryz.zeroValue32 Y Y<|fun h6 h8 b3=>zbE b3 (k:=0) Y Y Y (zaX Y (zaX f18.one zdv)) zbh Y Y Y<|fun h9 b4=>?_;obtain ⟨j0,C,b5,F⟩:=b4.freeze (k:=0) rfl;have b6:=zay.of b5;refine zb<|zaH<|have b7:=hn20 e (List.mem_of_getElem? he);zag<|zg F.sub (d4.up (P.t C)) zaG zab Y<|zg F.sub b6 zco zbh Y ?_;have d6:=d5.t C;refine zaD F rfl rfl rfl Tryz.call127 rfl (zoI F.sub (t:=t) (t_f0.up d6) (e:=e) (f18.up C) (K3.up d6) (by exact b7)) ?_;intro j1 j2 d7 b8 a1 g0;subst g0;refine zc Y<|zb<|zx<|za Y<|zao Y<|zb ?_;refine zS Y (fun Q=>?_) (fun Q=>?_)
  ·refine zx<|za Y<|zcP Y Y<|zc Y<|zj<|zan<|zJ<|zan<|zbs Tryz.results234 ?_;refine ⟨d7,_,Y,a1.done,?_⟩;refine ⟨_,zdz Y (zaB ?_),Sl.to (Sl.nil _ _) ?_⟩
   ·exact (zrZ he hA (by simpa using Q)).symm
   rw[zqL,if_neg (by rw[zrZ he hA (by simpa using Q)];simpa using Q)]
  refine zbj<|zaF<|zy Y zaS<|za Y<|zb ?_;refine ⟨⟨k+1,d7⟩,⟨rfl,trivial⟩,?_,⟨((P.t C).t b8),a1.take 0,?_,?_⟩,?_⟩
  ·exact zaR
  ·first|omega|(simp;omega)
  ·intro j x hj hx
   rcases Nat.lt_or_eq_of_le (Nat.le_of_lt_succ hj) with q|q
   ·exact hA j x q hx
   ·subst q;rw[he] at hx;cases hx;simpa using Q
  show all_.length-((k+1))<all_.length-k;omega
 refine zcC<|zz<|zx<|zcP Y Y<|zb<|zaH<|zaH ?_;have hall:∀ e_∈all_,zcT t e_=0:=fun e_ he_=>by obtain ⟨j_,hj_⟩:=List.mem_iff_getElem?.1 he_;exact hA j_ e_ (by have q_:=(List.getElem?_eq_some_iff.1 hj_).1;omega) hj_
 have hsc:=zuV hall;refine zag<|zq all__v Y<|have d8:=a7.t P;zK (all__f.up d8) zhv Y<|za Y<|zb<|zT ?_;have b9:=a8.snoc;have f42:=OSl.nil (zAR zpq) 230 h7;refine zaM ([4,5,9,11,12,13,14,15]++zcp 31 18) (G:=Nat×Value×List (Nat×Obj)×Heap) (fun ⟨m,A,S,I⟩=>[(9,A),(31,iV (m:Int))]) (fun ⟨m,A,S,I⟩ w'=>Le h7 I∧St h w I w' [S]∧(OSl (zAR zpq) 230 I A (((all_.take m).map (zhk t))) S)∧(m≤all_.length)∧(∀ j x,j<m→all_[j]?=some x→zhj x.stretches=false)) (fun ⟨m,A,S,I⟩=>all_.length-m) ⟨0,(.slice none 0 0),[],h7⟩ ⟨rfl,rfl,trivial⟩ ⟨Le.refl _,b9,(OSl.to f42 (by rfl)),zbm,(by intro j x hj;omega)⟩ ?_;rintro ⟨m,A,S,I⟩ _ j3 ⟨T,a0,a2,hm,hC⟩;refine zx<|zN Y<|zb<|zaH ?_;refine zS Y (fun g1=>?_) (fun g1=>?_)
 ·refine zaN<|zT<|zx ?_;obtain ⟨e,he⟩:∃ y_,(all_)[m]?=some y_:=zch zU;have d9:=d8.t T;obtain ⟨j4,j5,_,c0,c1,hr_e⟩:=Sl.elem (all__f.up d9) he;obtain ⟨j6,rfl,f51⟩:=hr_e;have e4:=f51.le;refine zL c0 zhv zbh Y<|zg a0.sub c1 zco zbh Y<|zad a0 Tryz.zeroValue32 Y Y<|fun j7 j8 c2=>zbE c2 (k:=1) Y Y Y (zaX Y (zaX f51.one zdv)) zbh Y Y Y<|fun j9 c3=>?_;obtain ⟨k0,B,c4,H⟩:=c3.freeze (k:=1) rfl;have c5:=zay.of c4;refine zb<|zaH ?_;obtain ⟨k1,c6,hst⟩:=zfC (hall e (List.mem_of_getElem? he));have hcc:=zuI (fun s_ hs_=>(hst s_ hs_).2);refine zag<|zg H.sub (d4.up ((P.t T).t B)) zaG zab Y<|zg H.sub c5 zco zbh Y ?_;have g2:=d9.t B;refine zaD H rfl rfl rfl Tryz.call128 rfl (znJ H.sub (t:=t) (t_f0.up g2) (e:=e) (f51.up B) (by exact fun s_ hs_=>(hst s_ hs_).2) (by exact c6)) ?_;intro k2 k3 e0 a3 a4 g3;obtain ⟨k4,rfl,f70⟩:=g3;obtain ⟨e1,g9,rfl,c7,c8⟩:=f70;obtain ⟨k5,k6,k7,k8,rfl,f76,f78,c9,d0⟩:=c8;have e5:=f76.le;have e6:=f78.le;refine zdy Y Y<|zbQ Y<|zR Y<|zR Y<|zbK Y<|zjx Y Y<|zc Y<|zc Y<|zd Y<|zb<|zat<|zt Y<|zb ?_;refine zap Y (fun a9=>?_) (fun a9=>?_)
  ·refine zx<|zcP Y Y<|zc Y<|zj<|zJ<|zan<|zJ<|zan<|zbs Tryz.results234 ?_;refine ⟨e0,_,Y,a4.done,?_⟩;refine ⟨_,zdz Y (zaB ?_),Sl.to (Sl.nil _ _) ?_⟩
   all_goals have hq:zlS t all_=8:=by rw[hsc,if_pos (List.any_eq_true.2 ⟨e,List.mem_of_getElem? he,by rw[← hcc];simpa using a9⟩)]
   ·exact hq.symm
   rw[zqL,hq];rfl
  refine zdF<|zag<|zq A Y<|zjf Y Y<|zA (zAR zpq) [(zhk (t) (e))] [.pointer (some ⟨e1,0,none⟩)] a4 (Enc.cons (L:=(zAR zpq)) (vs:=[.pointer (some ⟨e1,0,none⟩)]) (x:=(zhk (t) (e))) (h:=e0) (⟨_,Y,Box.some Y c7 (⟨_,_,_,_,Y,f76,f78,c9,d0⟩)⟩) Enc.nil) Y Tryz.underlying346 Tryz.info230 zbL<|fun k9 l0 g4 a5 f86 d1=>?_;refine zaO (k:=0) (nb:=8) d1 (a2.up ((B.t a3).t a5)) rfl f86 rfl rfl rfl Tryz.underlying346 Tryz.info230 rfl rfl rfl (by decide) rfl (by simp only[List.length_append,List.length_map,List.length_take,List.length_cons,List.length_nil];omega) (by simp only[List.length_append,List.length_map,List.length_take,List.length_cons,List.length_nil];omega) ?_;intro e2 g5 l1 _ g6 f94 d2;subst g6;refine zH e2 Y<|zB<|zaF<|zy Y zaS<|za Y<|zb ?_;have g7:=((T.t B).t a3).t a5;refine ⟨⟨m+1,e2,g5,g4⟩,⟨rfl,Y,trivial⟩,?_,⟨g7,d2.take 1,?_,?_,?_⟩,?_⟩
  ·exact zaR
  ·refine OSl.to f94 ?_;rw[zaQ he,List.map_append];rfl
  ·first|omega|(simp;omega)
  ·intro j x hj hx
   rcases Nat.lt_or_eq_of_le (Nat.le_of_lt_succ hj) with q|q
   ·exact hC j x q hx
   ·subst q;rw[he] at hx;cases hx;rw[← hcc];simpa using a9
  show all_.length-((m+1))<all_.length-m;omega
 refine zcC<|zz<|zx<|zq A Y<|zH A Y<|zc Y<|zj<|zbs Tryz.results234 ?_;obtain ⟨g8,h0,f99,a6⟩:=OSl.freeze (k:=0) a0 a2 rfl (by simp only[List.length_append,List.length_map,List.length_take,List.length_cons,List.length_nil];omega);refine ⟨g8,_,Y,a6.done,?_⟩;refine ⟨_,zdz Y (zaB ?_),Sl.to f99 ?_⟩
 all_goals have hq:zlS t all_=0:=by rw[hsc,if_neg (by rw[List.any_eq_true];rintro ⟨e_,he_,q_⟩;obtain ⟨j_,hj_⟩:=List.mem_iff_getElem?.1 he_;rw[hC j_ e_ (by have q2_:=(List.getElem?_eq_some_iff.1 hj_).1;omega) hj_] at q_;cases q_)]
 ·exact hq.symm
 rw[zqL,if_pos hq,List.take_of_length_le zU]
theorem ztj (hs:Sub h w) {t:Text} (t_f0:Sl zax h t_v0 t.chapters) (e_f0:Sl zbw h e_v0 e.stretches) (K3:zay h 3 0 Tryz.glob3) (hn20:e.stretches.length≤1000):Calls Tryz.prog 185 #[.agg #[t_v0],.agg #[iV e.id,e_v0],.agg #[iV p.chapter,iV p.line,iV p.word]] w (zbe h w (fun h' _ res_=>∃ u0,res_=.tuple #[u0,iV ((zge t e p))]∧Box zpq h' (decide (zge t e p=0)) (zhk t e) u0)):=by
 refine zl 34 Tryz.func185 Y<|have c2:=zbM hs;have b2:=t_f0.le;have b3:=e_f0.le;zx<|ze [t_v0] c2 Y<|fun b1 w2 h3 c3 b4 c4=>ze [iV (e.id),e_v0] c4 Y<|fun b7 w8 h9 C a1 a2=>ze [iV (p.chapter),iV (p.line),iV (p.word)] a2 Y<|fun d4 d5 c5 B a3 F=>zdo Y Y<|zc Y<|zb<|zx<|zg F.sub (b4.up (C.t B)) zaG zab Y<|zg F.sub (a1.up B) zco zbh Y<|have b5:=(c3.t C).t B;zA zmr [e] [iV (e.id),e_v0] F (Enc.cons (L:=zmr) (vs:=[iV (e.id),e_v0]) (x:=e) (h:=c5) (⟨_,Y,(e_f0.up b5)⟩) Enc.nil) Y zhv Tryz.info32 zbL<|fun d6 d7 d8 H f22 Q=>?_;have S:=b5.t H;have con:=(ztS Q.sub (t:=t) (t_f0.up S) f22 (K3.up S) (by simp) (by intro e_ he_;rw[List.mem_singleton] at he_;rw[he_];exact hn20));rw[zrY,zxy] at con;refine zn Q Y Tryz.call234 con<|fun d9 e0 c6 I A c7=>?_;obtain ⟨T,rfl,f34⟩:=c7;have b8:=f34.le;clear con;refine zdy Y Y<|zaL T Y<|zR Y<|zH T Y<|zc Y<|zb<|zat<|za Y<|zao Y<|zb ?_;refine zS Y (fun a0=>?_) (fun a0=>?_)
 ·refine zx<|za Y<|zdo Y Y<|zc Y<|zj<|zJ<|zbs Tryz.results185 ?_;refine ⟨c6,_,Y,A.done,?_⟩;refine ⟨_,zdz Y (zaB ?_),Box.nil ?_⟩
  all_goals first|(simp_all[zge];done)|(cases e1_:zbF t <;> cases e2_:zcz t p <;> simp_all[zge];done)
 refine zaN<|zaH ?_;have hs0_:zcH t e=0:=by simpa using a0
 have e1:zbF t=true:=(zfC (zpw hs0_).1).1;refine zag<|have c8:=((C.t B).t H).t I;zg A.sub (b4.up c8) zaG zab Y<|zg A.sub (a3.up (H.t I)) zaE zP Y<|have c9:=S.t I;zn A Y Tryz.call66 (zkR A.sub (t:=t) (t_f0.up c9) (p:=p))<|fun e2 e3 b6 a4 P d0=>?_;subst d0;refine zdy Y Y<|zaL (zae _) Y<|zR Y<|zff Y Y<|zc Y<|zb<|zx<|za Y<|zao Y<|zb ?_;refine zS Y (fun d1=>?_) (fun d1=>?_)
 ·refine zx<|za Y<|zdo Y Y<|zc Y<|zj<|zJ<|zbs Tryz.results185 ?_;refine ⟨b6,_,Y,P.done,?_⟩;refine ⟨_,zdz Y (zaB ?_),Box.nil ?_⟩
  all_goals first|(simp_all[zge];done)|(cases e1_:zbF t <;> cases e2_:zcz t p <;> simp_all[zge];done)
 refine zaN ?_;have d2:zcH t e=0:=by simpa using a0
 have f45:=Sl.to (f34.up a4) (show _=[zhk t e] from if_pos d2);have b9:=f45.le;refine zag<|zq T Y ?_;obtain ⟨ch,hch⟩:∃ y_,([zhk t e])[0]?=some y_:=zch (by simp);obtain ⟨e4,e5,_,a5,a6,hr_ch⟩:=Sl.elem f45 hch;obtain ⟨e6,rfl,f51⟩:=hr_ch;obtain ⟨e7,d3,rfl,a7,a8⟩:=f51;obtain ⟨e8,e9,g0,g1,rfl,f57,f59,a9,b0⟩:=a8;have c0:=f57.le;have c1:=f59.le;refine zL a5 Tryz.underlying346 Tryz.sizeOf230 Y ?_;obtain rfl:ch=zhk t e:=(Option.some.inj hch).symm;refine M 0 P.sub a6 Tryz.isAgg230 Y<|zjx Y Y<|zc Y<|zj<|zbs Tryz.results185 ?_;refine ⟨b6,_,Y,P.done,?_⟩;refine ⟨_,zdz Y (zaB ?_),Box.some ?_ a7 ⟨_,_,_,_,Y,f57,f59,a9,b0⟩⟩
 all_goals first|(simp_all[zge];done)|(cases e1_:zbF t <;> cases e2_:zcz t p <;> simp_all[zge];done)
theorem zpn (hs:Sub h w) {b:Chart} (b_f0:Sl zbw h b_v0 b.edition.stretches) {b_v1:Value} (b_f1:Sl zax h b_v1 b.text.chapters) {b_v2:Value} (b_f2:FML (fun x:Pair=>.agg [iV x.a,iV x.b].toArray) (fun x:Pair=>[iV x.a,iV x.b]) zuP h b.as_ b_v2) {b_v3:Value} (b_f3:FML (fun x:Pair=>.agg [iV x.a,iV x.b].toArray) (fun x:Pair=>[iV x.a,iV x.b]) zuP h b.back b_v3) (b_c:zay h b_b 0 [iV (b.edition.id),b_v0,b_v1,b_v2,b_v3]) (hw:0≤p.word∧p.word≤1000):Calls Tryz.prog 186 #[.pointer (some ⟨b_b,0,none⟩),.agg #[iV p.chapter,iV p.line,iV p.word]] w (zbe h w (fun _ _ res_=>res_=.tuple #[.agg #[iV ((zuX b p)).chapter,iV ((zuX b p)).line,iV ((zuX b p)).word],.bool ((okC b p))])):=by
 refine zl 32 Tryz.func186 Y<|have a8:=zbM hs;have a5:=b_f0.le;have a6:=b_f1.le;zx<|ze [iV (p.chapter),iV (p.line),iV (p.word)] a8 Y<|fun b1 w2 h3 a7 P a9=>zad a9 Tryz.zeroValue138 Y Y<|fun b7 w8 b0=>zd Y<|zb<|zaH<|zba (er:=([],[],[],[],0)) (dsts:=[9,10,11,12,13,14,15,16,17,18,8,19,20,6,7]) b0 Tryz.mixed<|zF (zgW Y)<|zF (zbX Y)<|zF (zm zfV Y zie)<|zam (fun hD wD Q S T hO _ _=>(zr 3 (S.sub T) (b_c.up a7) zjb Y))<|zF (zm zal Y zG)<|zam (fun hD wD Q S T hO _ _=>(zr 0 (S.sub T) P zO Y))<|zF (zm zal Y zG)<|zam (fun hD wD Q S T hO _ _=>(zr 1 (S.sub T) P zO Y))<|zF (zce (cs:=[iV (p.chapter),iV (p.line)]) zbL)<|zam (fun hD wD Q S T hO _ _ _ _=>(ztG (k:=(Pair.mk ((p.chapter)) ((p.line)))) (zu:=ziG) (zle).toKeyF zfW (b_f2.up a7).1 (S.sub T) zeR Y Y Y))<|zF (zpF Y)<|zF (zft (v:=(.agg (List.toArray _))) Y Y)<|zF (zft (v:=(.bool _)) Y Y)<|zil zeR Y<|zbC ?_;refine zF (zpH Y)<|zck<|fun b4=>fun b3 b5 _ a0 a1 _ _ _ _ _ _ _ _ _ _ _ _ _ _ _ _ _ _ _ _ _ _ _ _=>zo 1 a1 Y zew<|fun b6 a2=>?_;obtain ⟨b8,C,a3,a4⟩:=a2.freeze (k:=1) rfl;have F:=zay.of a3;refine zB ⟨undef,Y,_,_,C,a4,?_⟩;intro H b9 _ B A _ _ _ _ _ _ _ _ _ _ _ _ _ _ _ _ _ _ _ _ _ _ _ _ _ _ _ _;refine zbk.fin Y<|zz<|zat<|zt Y<|zcq Y Y<|zb ?_;refine zap Y (fun b2=>?_) (fun b2=>?_)
 ·refine zx<|zQ Y (zce (cs:=[iV 0,iV 0,iV 0]) zbL)<|zo 0 A Y zcK<|fun c0 I=>zd Y<|zj<|zJ<|zbP Tryz.results186 Y zgx zcK Y (I.get (k:=0) Y) ?_;refine ⟨H,_,Y,I.done,?_⟩;refine zdz ?_ (zM ?_)
  all_goals first|(cases hq_:zcb b.as_ ⟨p.chapter,p.line⟩ <;> simp_all[zuX,okC,zrx];done)|(cases hq_:zcb b.as_ ⟨p.chapter,p.line⟩ <;> simp_all[zuX,okC,zrx] <;> rfl)
 refine zdF<|zx<|zQ Y (zdr Y Y Y Y Tryz.underlying292 zG)<|M 0 A.sub (F.up B) zO Y<|zQ Y (zdr Y Y Y Y Tryz.underlying292 zG)<|M 1 A.sub (F.up B) zO Y<|U zal Y zG<|M 2 A.sub (P.up ((a0.t C).t B)) zO Y<|zy Y zaS<|zQ Y (zce (cs:=[iV (((zcb b.as_ (Pair.mk ((p.chapter)) ((p.line)))).getD ziG).a),iV (((zcb b.as_ (Pair.mk ((p.chapter)) ((p.line)))).getD ziG).b),iV ((p.word)+1)]) zbL)<|zo 0 A Y zcK<|fun c1 L=>zd Y<|zj<|zbP Tryz.results186 Y zgx zcK Y (L.get (k:=0) Y) ?_;refine ⟨H,_,Y,L.done,?_⟩;refine zdz ?_ (zM ?_)
 all_goals first|(cases hq_:zcb b.as_ ⟨p.chapter,p.line⟩ <;> simp_all[zuX,okC,zrx];done)|(cases hq_:zcb b.as_ ⟨p.chapter,p.line⟩ <;> simp_all[zuX,okC,zrx] <;> rfl)
theorem ztV (hs:Sub h w) {t:Text} (t_f0:Sl zax h t_v0 t.chapters) (e_f0:Sl zbw h e_v0 e.stretches) (K3:zay h 3 0 Tryz.glob3) (hn20:e.stretches.length≤1000):Calls Tryz.prog 136 #[.agg #[t_v0],.agg #[iV e.id,e_v0],.agg #[iV p.chapter,iV p.line,iV p.word]] w (zbe h w (fun _ _ res_=>res_=.tuple #[.agg #[iV ((zfn t e p)).chapter,iV ((zfn t e p)).line,iV ((zfn t e p)).word],iV ((ziR t e p))])):=by
 refine zl 33 Tryz.func136 Y<|have c6:=zbM hs;have b8:=t_f0.le;have b9:=e_f0.le;zx<|ze [t_v0] c6 Y<|fun b1 w2 h3 c7 c8 c9=>ze [iV (e.id),e_v0] c9 Y<|fun b7 w8 h9 L a3 a4=>ze [iV (p.chapter),iV (p.line),iV (p.word)] a4 Y<|fun d4 d5 d6 F P a5=>zad a5 Tryz.zeroValue138 Y Y<|fun d7 d8 A=>zc Y<|zb<|zx<|zg A.sub (c8.up (L.t F)) zaG zab Y<|zg A.sub (a3.up F) zco zbh Y<|zg A.sub P zaE zP Y ?_;have a1:=(c7.t L).t F;refine zaD A rfl rfl rfl Tryz.call185 rfl (ztj A.sub (t:=t) (t_f0.up a1) (e:=e) (e_f0.up a1) (p:=p) (K3.up a1) (by exact hn20)) ?_;intro d9 e0 c0 a6 B I
 rcases Bool.eq_false_or_eq_true (decide (zge (t) (e) (p)=0)) with C|C
 ·simp only[C,if_true,if_false,Bool.false_eq_true,reduceIte] at I;obtain ⟨e1,rfl,f31⟩:=I;obtain ⟨e2,d1,rfl,a7,a8⟩:=f31;obtain ⟨e3,e4,e5,e6,rfl,f37,f39,a9,b0⟩:=a8;have c4:=f37.le;have c5:=f39.le;refine zdy Y Y<|zbQ Y<|zR Y<|zjx Y Y<|zc Y<|zb<|zat<|za Y<|zao Y<|zb ?_;refine zS Y (fun c1=>?_) (fun c1=>?_)
  ·refine zx<|zQ Y (zce (cs:=[iV 0,iV 0,iV 0]) zbL)<|za Y<|zo 0 B Y zcK<|fun e7 Q=>zc Y<|zj<|zJ<|zbP Tryz.results136 Y zgx zcK Y (Q.get (k:=0) Y) ?_;refine ⟨c0,_,Y,Q.done,?_⟩;refine zdz ?_ (zaB ?_)
   all_goals (obtain ⟨q1_,q2_⟩:=zuk (t:=t) (e:=e) (p:=p) (by simpa using c1);first|(rw[q1_];done)|(rw[q1_];rfl)|(rw[q2_];done)|(simp_all;done))
  refine zaN ?_;have hpz:zge t e p=0:=by simpa using C
  have hpw:=zrg hpz;refine zag<|zjf Y Y<|zg B.sub (P.up a6) zaE zP Y ?_;have con:=(zpn B.sub (b:=(zhk (t) (e))) f37 f39 a9 b0 a7 (p:=p) (by exact hpw));rw[zBl,zCE] at con;refine zn B Y Tryz.call186 con<|fun e8 e9 g0 d2 b2 d0=>?_;subst d0;clear con;refine zdy Y Y<|zaL (.agg (List.toArray _)) Y<|zbK Y<|zad b2 Tryz.zeroValue138 Y Y<|fun g1 g2 b3=>zo 1 b3 Y zcK<|fun g3 b4=>?_;obtain ⟨c2,d3,b5,H⟩:=b4.freeze (k:=1) rfl;have b6:=zay.of b5;refine zd Y<|zb<|zat<|zt Y<|zcq Y Y<|zb ?_;refine zap Y (fun a2=>?_) (fun a2=>?_)
  ·refine zx<|zQ Y (zce (cs:=[iV 0,iV 0,iV 0]) zbL)<|zo 0 H Y zcK<|fun g4 S=>zc Y<|zj<|zJ<|zbP Tryz.results136 Y zgx zcK Y (S.get (k:=0) Y) ?_;refine ⟨c2,_,Y,S.done,?_⟩;refine zdz ?_ (zaB ?_)
   all_goals (obtain ⟨q1_,q2_⟩:=zxf hpz (by simpa using a2);first|(rw[q1_];done)|(rw[q1_];rfl)|(rw[q2_];done)|(simp_all;done))
  refine zdF<|zx<|zg H.sub b6 zgx zcK Y<|zo 0 H Y zcK<|fun g5 T=>zc Y<|zj<|zbP Tryz.results136 Y zgx zcK Y (T.get (k:=0) Y) ?_;refine ⟨c2,_,Y,T.done,?_⟩;refine zdz ?_ (zaB ?_)
  all_goals (obtain ⟨q1_,q2_⟩:=zxe hpz (by simpa using a2);first|(rw[q1_];done)|(rw[q1_];rfl)|(rw[q2_];done)|(simp_all;done))
 simp only[C,if_true,if_false,Bool.false_eq_true,reduceIte] at I;obtain ⟨g6,rfl,f69⟩:=I;subst f69;refine zdy Y Y<|zgl (v:=(.pointer none)) Y Y Y<|zR Y<|zdo Y Y<|zc Y<|zb<|zat<|za Y<|zao Y<|zb ?_;refine zS Y (fun c3=>?_) (fun c3=>?_)
 ·refine zx<|zQ Y (zce (cs:=[iV 0,iV 0,iV 0]) zbL)<|za Y<|zo 0 B Y zcK<|fun g7 a0=>zc Y<|zj<|zJ<|zbP Tryz.results136 Y zgx zcK Y (a0.get (k:=0) Y) ?_;refine ⟨c0,_,Y,a0.done,?_⟩;refine zdz ?_ (zaB ?_)
  all_goals (obtain ⟨q1_,q2_⟩:=zuk (t:=t) (e:=e) (p:=p) (by simpa using c3);first|(rw[q1_];done)|(rw[q1_];rfl)|(rw[q2_];done)|(simp_all;done))
 exfalso;simp_all
end Go.Pk
