/- A PART OF THE PROOF: contracts of functions. -/
import Derived.Test.YtjkkoclmagdpoaaGreatDoorT9
set_option linter.all false
set_option maxRecDepth 4000
set_option maxHeartbeats 4000000
namespace Go.Pk
open Go Go.RowKit Go.Proofs
variable {h:Heap} {w:World} {b_b:Nat} {b:Text} {b_v0:Value}
theorem zuz {h0: Heap} {w0: World} {rest:Own} {l:Nat} (b_f0:Sl zaN h b_v0 b.chapters) (b_c:zaL h b_b 0 [b_v0]) {b_bb:Nat} (b_cc:zaL h b_bb 0 [.pointer (some ⟨b_b,0,none⟩)]) {Jw Jx:List Place→Heap→Own→Prop} (hJm:∀ xs h1 h2 o,Jw xs h1 o→Le h1 h2→Jw xs h2 o) (hJxm:∀ xs h1 h2 o,Jx xs h1 o→Le h1 h2→Jx xs h2 o) (hJ0:Jw [] h rest) (hY:∀ (pre:List Place) (x:Place) h1 w1 B rest us,Le h h1→Jw pre h1 rest→St h0 w0 h1 w1 (B++rest)→(∃ u_ v_,us=[u_,v_]∧(u_=.agg #[iV x.chapter,iV x.line,iV x.word]∧v_=zae (zbY b x))∧(zbJ b)[pre.length]?=some x)→zqe Tryz.prog l us.toArray w1 fun v w2=>∃ h2 rest2,Le h1 h2∧St h0 w0 h2 w2 (B++rest2)∧((v=.bool true∧Jw (pre++[x]) h2 rest2)∨(v=.bool false∧Jx (pre++[x]) h2 rest2))) (st0:St h0 w0 h w rest):Calls Tryz.prog 148 #[.func (.yield l) #[] #[],.pointer (some ⟨b_bb,0,none⟩)] w (fun e_ w'=>∃ h' rest' v_,e_=.returned v_∧Le h h'∧St h0 w0 h' w' rest'∧((∃ xs,xs=zbJ b∧Jw xs h' rest')∨(∃ pre,Jx pre h' rest'))):=by
 refine zg 46 Tryz.func148 K<|have a2:=b_f0.le;zw<|Y 0 st0.sub b_cc Tryz.isAgg187 K<|zU K (zdH K)<|Z zjW K zac<|Z zaY K zbW<|Y 0 st0.sub b_c zcJ K<|zG b_f0 zaJ K<|N K<|D<|zT ?_;refine zaI (zbP 3 6++zbP 15 31) (G:=Nat×Own×Heap) (fun ⟨i,rest,h1⟩=>[(15,iV (i:Int))]) (fun ⟨i,rest,h1⟩ w'=>Le h h1∧St h0 w0 h1 w' (rest)∧(i≤b.chapters.length)∧(Jw ((List.range i).flatMap (zkV b)) h1 rest)) (fun ⟨i,rest,h1⟩=>b.chapters.length-i) ⟨0,rest,h⟩ ⟨rfl,trivial⟩ ⟨Le.refl _,st0,zbB,(by exact hJm _ _ _ _ hJ0 (Le.refl _))⟩ ?_;rintro ⟨i,rest,h1⟩ _ w4 ⟨Q,e,hi,hJ⟩;refine zw<|zM K<|D<|zaM<|zV K (fun c5=>?_) (fun c5=>?_)
 ·refine zaS<|zT<|zw<|N K ?_;obtain ⟨c,hc⟩:∃ y_,(b.chapters)[i]?=some y_:=zdl zW;obtain ⟨b6,o7,_,a6,a7,hr_c⟩:=Sl.elem (b_f0.up Q) hc;obtain ⟨a8,rfl,f11⟩:=hr_c;have a4:=f11.le;refine zx a6 zaJ zbA K<|E e.sub a7 zjl zbA K<|znG e zgN K K (fun _=>K) K K K (us:=[iV c.id,a8]) (fun _=>K) (zbI K (zbI f11.one zgB)) zbA K<|fun b4 b5 g C j T=>D<|zw<|Z zaP K zcj<|Y 1 T.sub j zdd K<|zG (f11.up C) zaW K<|N K<|D<|zT ?_;refine zaI ([5,6,7,8]++zbP 23 22) (G:=Nat×Own×Heap) (fun ⟨n,rest,A⟩=>[(23,iV (n:Int))]) (fun ⟨n,rest,A⟩ w'=>Le g A∧St h0 w0 A w' (rest)∧(n≤c.lines.length)∧(Jw ((List.range i).flatMap (zkV b)++(List.range n).flatMap (zlE b i)) A rest)) (fun ⟨n,rest,A⟩=>c.lines.length-n) ⟨0,rest,g⟩ ⟨rfl,trivial⟩ ⟨Le.refl _,T,zbB,(by simpa using hJm _ _ _ _ hJ C)⟩ ?_;rintro ⟨n,rest,A⟩ _ b7 ⟨H,L,hn,hJ⟩;refine zw<|zM K<|D<|zaM<|zV K (fun a9=>?_) (fun a9=>?_)
  ·refine zaS<|zT<|zw<|N K ?_;obtain ⟨ln,hln⟩:∃ y_,(c.lines)[n]?=some y_:=zdl zW;obtain ⟨b8,b9,_,p,q,hr_ln⟩:=Sl.elem (f11.up (C.t H)) hln;obtain ⟨r,rfl,f28⟩:=hr_ln;have a5:=f28.le;refine zx p zaW zeY K<|Y 0 L.sub q zfK K<|U K<|zH r K<|D<|zw<|zk r K<|zG f28 zJ K<|N K<|D<|zT ?_;refine zaI ([7,8]++zbP 30 14) (G:=Nat×Own×Heap) (fun ⟨m,rest,F⟩=>[(30,iV (m:Int))]) (fun ⟨m,rest,F⟩ w'=>Le A F∧St h0 w0 F w' (rest)∧(m≤ln.length)∧(Jw ((List.range i).flatMap (zkV b)++(List.range n).flatMap (zlE b i)++(List.range m).map (mkP i n)) F rest)) (fun ⟨m,rest,F⟩=>ln.length-m) ⟨0,rest,A⟩ ⟨rfl,trivial⟩ ⟨Le.refl _,L,zbB,(by simpa using hJm _ _ _ _ hJ (Le.refl _))⟩ ?_;rintro ⟨m,rest,F⟩ _ c0 ⟨I,P,hm,hJ⟩;refine zw<|zM K<|D<|zaM<|zV K (fun b0=>?_) (fun b0=>?_)
   ·refine zaS<|zT<|zw<|N K ?_;obtain ⟨s,hs⟩:∃ y_,(ln)[m]?=some y_:=zdl zW;obtain ⟨c1,c2,_,u,y,hr_s⟩:=Sl.elem (f28.up I) hs;obtain ⟨rfl,z⟩:=hr_s;simp only[big] at z;refine zx u zJ zap K<|Y 0 P.sub y zaZ K<|U K<|zhW K K<|D<|zw<|zrw K K<|N K<|N K<|N K<|zU K (zdT (cs:=[iV (i:Int),iV (n:Int),iV (m:Int)]) zch)<|zfv K K ?_;have hJc:=hJm _ _ _ _ hJ (Le.refl _);have hAc:∃ u_ v_,[.agg #[iV (mkP i n m).chapter,iV (mkP i n m).line,iV (mkP i n m).word],zae s]=[u_,v_]∧(u_=.agg #[iV (mkP i n m).chapter,iV (mkP i n m).line,iV (mkP i n m).word]∧v_=zae (zbY b (mkP i n m)))∧(zbJ b)[((List.range i).flatMap (zkV b)++(List.range n).flatMap (zlE b i)++(List.range m).map (mkP i n)).length]?=some (mkP i n m):=⟨_,_,rfl,⟨rfl,by rw[zzf hc hln hs]⟩,zDA hc hln (k_List_getElem__eq_some_iff.1 hs).1⟩;have a3:=((Q.t C).t H).t I;refine zmg K K K K K (hY _ _ _ _ [] rest _ a3 hJc P hAc) ?_;intro b3 c3 b1 S a d a0 a1;refine zdJ K K<|D<|zaD K (fun f=>?_) (fun f=>?_)
    ·refine zky<|zaq<|zN<|zgE<|zaq<|zN<|zgE<|zaq<|zN<|zgE<|zob Tryz.results148 ?_;exact ⟨_,_,_,rfl,(a3.t a),d,.inr ⟨_,hJxm _ _ _ _ (a1 (by simpa using f)) (Le.refl _)⟩⟩
    refine zbO<|zaF<|zo K zbj<|N K<|D<|⟨⟨m+1,S,b1⟩,⟨rfl,trivial⟩,?_,⟨(I.t a),d,?_,?_⟩,?_⟩
    ·exact zba
    ·first|omega|(simp;omega)
    ·rw[zdb,zaz,← zaB];exact hJm _ _ _ _ (a0 (by simpa using f)) (Le.refl _)
    show ln.length-(m+1)<ln.length-m;omega
   refine zdx<|zaF<|zo K zbj<|N K<|D<|⟨⟨n+1,rest,F⟩,⟨rfl,trivial⟩,?_,⟨(H.t I),P,?_,?_⟩,?_⟩
   ·exact zba
   ·first|omega|(simp;omega)
   ·rw[zeR,← zph hc hln (w:=m) zW,← zaB];exact hJm _ _ _ _ hJ (Le.refl _)
   show c.lines.length-(n+1)<c.lines.length-n;omega
  refine zdx<|zaF<|zo K zbj<|N K<|D<|have b2:=(Q.t C).t H;⟨⟨i+1,rest,A⟩,⟨rfl,trivial⟩,?_,⟨b2,L,?_,?_⟩,?_⟩
  ·exact zba
  ·first|omega|(simp;omega)
  ·rw[zeR,← zpm hc (n:=n) zW];exact hJm _ _ _ _ hJ (Le.refl _)
  show b.chapters.length-(i+1)<b.chapters.length-i;omega
 refine zdx<|zvq Tryz.results148 ?_;exact ⟨_,_,_,rfl,Q,e,.inl ⟨_,rfl,by rw[zbJ,show b.chapters.length=i by omega];exact hJm _ _ _ _ hJ (Le.refl _)⟩⟩
theorem zwe (hs:Sub h w) (b_f0:Sl zaN h b_v0 b.chapters) (b_c:zaL h b_b 0 [b_v0]):Calls Tryz.prog 94 #[.pointer (some ⟨b_b,0,none⟩)] w (fun e_ w'=>∃ h' bo,e_=.returned (.func (.func 148) #[] #[.pointer (some ⟨bo,0,none⟩)])∧Le h h'∧St h w h' w' []∧zaL h' bo 0 [.pointer (some ⟨b_b,0,none⟩)]):=by
 exact zg 4 Tryz.func94 K<|have B:=zcu hs;have A:=b_f0.le;zw<|J [.pointer (some ⟨b_b,0,none⟩)] B K<|fun L P I C F H=>zfj K K<|D<|zw<|zgm K K K<|zU K (zCA K)<|ze<|zf Tryz.results94<|⟨I,_,K,C,H,F⟩
end Go.Pk

namespace Go.Pk
open Go Go.RowKit Go.Proofs
end Go.Pk

namespace Go.Pk
open Go Go.RowKit Go.Proofs
variable {h:Heap} {w:World} {l_v b_v0 c_v0 t_v0 e_v0:Value} {l:(List Str)} {b:Text} {b_b b_bb:Nat} {c:Copy} {s:Stretch} {e:Edition} {p:Place}
def _root_.Go.Proofs.Tryz.glob0:List Value:=[iV 0,.nilFunc,.nilFunc,iV 0,.func (.func 289) #[] #[],.func (.func 290) #[] #[],iV 1,.func (.func 291) #[] #[],.func (.func 292) #[] #[],iV 0,.func (.func 293) #[] #[],.func (.func 294) #[] #[]]
theorem zhB:KeyG Tryz.prog 68 zix:=zDB zaC (fun x y w=>Tryz.eq_Place x y w) (zAJ zaC zcW zO rfl rfl rfl)
theorem zra (hs:Sub h w) (l_f:Sl zea h l_v l) (j:Int) (hw:0≤j∧j≤(l.length:Int)):Calls Tryz.prog 143 #[l_v,iV j] w (zbH h w (fun _ _ res_=>res_=zae (zie l j.toNat))):=by
 refine zg 13 Tryz.func143 K<|have A:=zcu hs;have l_f_b:=l_f.le;zw<|zhW K K<|D<|zav<|N K<|zk l_v K<|zG l_f zJ K<|zgL K K K<|D<|zV K (fun H=>?_) (fun H=>?_)
 ·refine zw<|zhW K K<|ze<|zN<|zf Tryz.results143<|⟨h,_,K,A.done,?_⟩;refine ziE ?_
  all_goals (rw[zie,zbF zW];rfl)
 refine zgg<|zw<|zk l_v K<|N K ?_;obtain ⟨a,ha⟩:∃ y_,(l)[j.toNat]?=some y_:=zdl zW;obtain ⟨I,L,_,B,C,hr_a⟩:=Sl.elem l_f ha;obtain ⟨rfl,F⟩:=hr_a;simp only[big] at F;refine zax rfl rfl (zcD B rfl rfl (hk:=(show _=((j.toNat:Nat):Int) by omega)) (hu:=zJ) (hz:=zap)) ?_;refine Y 0 A.sub C zaZ K<|zhW K K<|ze<|zf Tryz.results143<|⟨h,_,K,A.done,?_⟩;refine ziE ?_
 all_goals first|(rw[zie,ha];rfl)|omega
theorem zzN (hs:Sub h w) {l:(List Int)} (l_f:Sl zeg h l_v l):Calls Tryz.prog 192 #[l_v] w (zbH h w (fun _ _ res_=>res_=iV (orL l))):=by
 refine zg 18 Tryz.func192 K<|have H:=zcu hs;have l_f_b:=l_f.le;zw<|U K<|D<|zw<|U K<|D<|zav<|zk l_v K<|zG l_f zbx K<|N K<|D<|zT ?_;refine zaI ([2,5]++zbP 8 9) (G:=Nat×Heap) (fun ⟨k,B⟩=>[(8,iV (k:Int))]) (fun ⟨k,B⟩ w'=>Le h B∧St h w B w' []∧(k≤l.length)∧(orL l=orL (l.drop k))) (fun ⟨k,B⟩=>l.length-k) ⟨0,h⟩ ⟨rfl,trivial⟩ ⟨Le.refl _,H,zbB,(by rfl)⟩ ?_;rintro ⟨k,B⟩ _ Q ⟨F,A,hk,he⟩;refine zw<|zM K<|D<|zaM<|zV K (fun P=>?_) (fun P=>?_)
 ·refine zaS<|zT<|zw ?_;obtain ⟨a,ha⟩:∃ y_,(l)[k]?=some y_:=zdl zW;obtain ⟨S,T,_,I,L,hr_a⟩:=Sl.elem (l_f.up F) ha;subst hr_a;refine zx I zbx zI K<|Y 0 A.sub L zO K<|U K<|D<|zw<|N K<|N K<|zar K<|D<|zV K (fun C=>?_) (fun C=>?_)
  ·refine zw<|N K<|U K<|ze<|zaq<|zN<|zaq<|zf Tryz.results192<|⟨B,_,K,A.done,?_⟩;refine zan ?_;rw[he,zud ha,zab (by simpa using C)]
  refine zbO<|zaF<|zo K zbj<|N K<|D<|⟨⟨k+1,B⟩,⟨rfl,trivial⟩,?_,⟨F,A,?_,?_⟩,?_⟩
  ·exact zba
  ·first|omega|(simp;omega)
  ·rw[he,zud ha,zam (by simpa using C)]
  show l.length-(k+1)<l.length-k;omega
 refine zdx<|zF<|zw<|N K<|U K<|ze<|zf Tryz.results192<|⟨B,_,K,A.done,?_⟩;refine zan ?_;rw[he,zeV zW];rfl
theorem zzM (hs:Sub h w) {a:Place} {b:Place}:Calls Tryz.prog 144 #[.agg #[iV a.chapter,iV a.line,iV a.word],.agg #[iV b.chapter,iV b.line,iV b.word]] w (zbH h w (fun _ _ res_=>res_=iV (zmi a b))):=by
 refine zg 22 Tryz.func144 K<|have r:=zcu hs;zw<|J [iV a.chapter,iV a.line,iV a.word] r K<|fun b1 w2 h3 a6 e s=>J [iV b.chapter,iV b.line,iV b.word] s K<|fun b7 w8 h9 H I g=>U K<|D<|zaM<|ziZ (dsts:=(zbP 5 17++[4])) g zbh<|zL (zh zaC K zI)<|zas (fun F P A C B Q _ _=>(zm 0 (C.sub B) (e.up H) zO K))<|zL (zh zaC K zI)<|zas (fun F P A C B Q _ _=>(zm 0 (C.sub B) I zO K))<|zbq (.det (iV (zke a.chapter b.chapter))) ?_ ?_
 ·intro F P A C B Q _ _ _ _;have S:=St.start B;refine zi S K Tryz.call193 (zlq S.sub _ _)<|fun a7 a8 a9 a0 i u=>?_;subst u;exact zl ⟨_,_,K,i,(),K,trivial⟩
 refine zL (zh zaC K zI)<|zas (fun F P A C B Q _ _=>(zm 1 (C.sub B) (e.up H) zO K))<|zL (zh zaC K zI)<|zas (fun F P A C B Q _ _=>(zm 1 (C.sub B) I zO K))<|zbq (.det (iV (zke a.line b.line))) ?_ ?_
 ·intro F P A C B Q _ _ _ _ _ _;have T:=St.start B;refine zi T K Tryz.call193 (zlq T.sub _ _)<|fun b0 b2 b3 a1 j v=>?_;subst v;exact zl ⟨_,_,K,j,(),K,trivial⟩
 refine zL (zh zaC K zI)<|zas (fun F P A C B Q _ _=>(zm 2 (C.sub B) (e.up H) zO K))<|zL (zh zaC K zI)<|zas (fun F P A C B Q _ _=>(zm 2 (C.sub B) I zO K))<|zbq (.det (iV (zke a.word b.word))) ?_ ?_
 ·intro F P A C B Q _ _ _ _ _ _;have c:=St.start B;refine zi c K Tryz.call193 (zlq c.sub _ _)<|fun b4 b5 b6 a2 l y=>?_;subst y;exact zl ⟨_,_,K,l,(),K,trivial⟩
 refine zbq (.res (fun h' res_=>Sl zeg h' res_ ([(zke a.chapter b.chapter),(zke a.line b.line),(zke a.word b.word)])) (fun _ _ _ hl f=>f.up hl)) ?_ ?_
 ·intro F P A C B Q _ _ _ _ _ _;have m:=St.start B;exact zA zeg [(zke a.chapter b.chapter),(zke a.line b.line),(zke a.word b.word)] [iV (zke a.chapter b.chapter),iV (zke a.line b.line),iV (zke a.word b.word)] m (Enc.cons (L:=zeg) (vs:=[iV (zke a.chapter b.chapter)]) (x:=(zke a.chapter b.chapter)) (h:=F) K (Enc.cons (L:=zeg) (vs:=[iV (zke a.line b.line)]) (x:=(zke a.line b.line)) (h:=F) K (Enc.cons (L:=zeg) (vs:=[iV (zke a.word b.word)]) (x:=(zke a.word b.word)) (h:=F) K Enc.nil))) K zbx Tryz.info3 zch<|fun b8 b9 c0 a3 f37 n=>zl ⟨_,_,K,n,_,K,f37⟩
 refine zbq (.det (iV ((orL (([(zke a.chapter b.chapter),(zke a.line b.line),(zke a.word b.word)])))))) ?_ ?_
 ·intro F P A C B Q gv15_0 gf15_0 _ _;have d:=St.start B;refine zi d K Tryz.call192 (zzN d.sub gf15_0)<|fun c1 c2 c3 a4 o z=>?_;subst z;exact zl ⟨_,_,K,o,(),K,trivial⟩
 refine zL (zqj K)<|zdy<|fun p c4 _ a5 q _ _ _ _ _ _ _ _ _ _ _ _ _ _ _ _ _ _ _ _ _ _ _ _ _ _ _ _ _ _ gv15_0x52 gf15_0x52 _ _ _ _=>zbT.fin K<|zF<|zky<|zf Tryz.results144<|⟨p,_,K,q.done,?_⟩;exact zan<|zHm a b
theorem ztJ (hs:Sub h w) (s:Str) (s_le:s.length≤281474976710656):Calls Tryz.prog 195 #[zae s] w (zbH h w (fun _ _ res_=>res_=.bool ((decide (s=[]))))):=by
 refine zg 5 Tryz.func195 K<|have A:=zcu hs;zw<|za K<|D<|zw<|zfv K K<|zmw K K K<|za K<|ze<|zf Tryz.results195<|⟨h,_,K,A.done,?_⟩;refine zP ?_
 all_goals rfl
theorem zxC (hs:Sub h w) (own_:Str) (own__le:own_.length≤281474976710656) (put:Str) (put_le:put.length≤281474976710656):Calls Tryz.prog 289 #[zae own_,zae put] w (zbH h w (fun _ _ res_=>res_=.bool ((decide (put=[]))))):=by
 refine zg 7 Tryz.func289 K<|have A:=zcu hs;zw<|za K<|D<|zw<|zfv K K<|zmw K K K<|za K<|ze<|zf Tryz.results289<|⟨h,_,K,A.done,?_⟩;refine zP ?_
 all_goals first|rfl|(simp_all;done)
theorem zxB (hs:Sub h w) (own_:Str) (own__le:own_.length≤281474976710656) (put:Str) (put_le:put.length≤281474976710656):Calls Tryz.prog 290 #[zae own_,zae put] w (zbH h w (fun h' _ res_=>∃ u0,res_=u0∧Sl zea h' u0 ([]:List Str))):=by
 refine zg 5 Tryz.func290 K<|have A:=zcu hs;zw<|zdD K K<|D<|zw<|zdD K K<|ze<|zf Tryz.results290<|⟨h,_,K,A.done,?_⟩;refine ⟨_,K,Sl.to (Sl.nil _ _) ?_⟩
 all_goals first|rfl|(simp_all;done)
theorem zxA (hs:Sub h w) (own_:Str) (own__le:own_.length≤281474976710656) (put:Str) (put_le:put.length≤281474976710656):Calls Tryz.prog 291 #[zae own_,zae put] w (zbH h w (fun _ _ res_=>res_=.bool (zgA put))):=by
 refine zg 7 Tryz.func291 K<|have A:=zcu hs;zw<|za K<|D<|zw<|zfv K K ?_;refine zau A rfl rfl rfl Tryz.call151 rfl (zrY A.sub _ (by first|assumption|decide|omega|(simp[big];done)|(simp[big];omega))) ?_;intro I L C F B H;obtain rfl:=H;refine za K<|ze<|zf Tryz.results291<|⟨C,_,K,B.done,?_⟩;refine zP ?_
 all_goals first|rfl|(simp_all;done)
theorem zxz (hs:Sub h w) (own_:Str) (own__le:own_.length≤281474976710656) (put:Str) (put_le:put.length≤281474976710656):Calls Tryz.prog 292 #[zae own_,zae put] w (zbH h w (fun h' _ res_=>∃ u0,res_=u0∧Sl zea h' u0 ([put,own_]))):=by
 refine zg 8 Tryz.func292 K<|have A:=zcu hs;zw<|zdD K K<|D<|zw<|zfv K K<|zfv K K ?_;refine zkF (L:=zea) (xs:=[put,own_]) (cs:=[zae put,zae own_]) A (Enc.cons (L:=zea) (vs:=[zae put]) (x:=put) (h:=h) (⟨rfl,by first|assumption|decide|omega|(simp[big];done)|(simp[big];omega)⟩) (Enc.cons (L:=zea) (vs:=[zae own_]) (x:=own_) (h:=h) (⟨rfl,by first|assumption|decide|omega|(simp[big];done)|(simp[big];omega)⟩) Enc.nil)) rfl rfl rfl zJ Tryz.info9 rfl rfl rfl zch ?_;intro C I F H f3 B;refine zH C K<|ze<|zf Tryz.results292<|⟨F,_,K,B.done,?_⟩;refine ⟨_,K,Sl.to f3 ?_⟩
 all_goals first|rfl|(simp_all;done)
theorem zxy (hs:Sub h w) (own_:Str) (own__le:own_.length≤281474976710656) (put:Str) (put_le:put.length≤281474976710656):Calls Tryz.prog 293 #[zae own_,zae put] w (zbH h w (fun _ _ res_=>res_=.bool ((zgA put && decide (put≠own_))))):=by
 refine zg 12 Tryz.func293 K<|have A:=zcu hs;zw<|za K<|D<|zw<|zfv K K ?_;refine zau A rfl rfl rfl Tryz.call151 rfl (zrY A.sub _ (by first|assumption|decide|omega|(simp[big];done)|(simp[big];omega))) ?_;intro L P C F B H;obtain rfl:=H;refine zp K<|zbX (d:=7) K (fun I=>?_) (fun I=>?_)
 ·refine X K<|zfv K K<|X K<|zfv K K<|X K<|zU K (zpg K K)<|zd K<|za K<|ze<|zf Tryz.results293<|⟨C,_,K,B.done,?_⟩;refine zP ?_
  all_goals first|rfl|(simp_all;done)
 refine zao 3 K<|zb K<|za K<|ze<|zf Tryz.results293<|⟨C,_,K,B.done,?_⟩;refine zP ?_
 all_goals first|rfl|(simp_all;done)
theorem zxx (hs:Sub h w) (own_:Str) (own__le:own_.length≤281474976710656) (put:Str) (put_le:put.length≤281474976710656):Calls Tryz.prog 294 #[zae own_,zae put] w (zbH h w (fun h' _ res_=>∃ u0,res_=u0∧Sl zea h' u0 ([put]))):=by
 refine zg 7 Tryz.func294 K<|have A:=zcu hs;zw<|zdD K K<|D<|zw<|zfv K K ?_;refine zkF (L:=zea) (xs:=[put]) (cs:=[zae put]) A (Enc.cons (L:=zea) (vs:=[zae put]) (x:=put) (h:=h) (⟨rfl,by first|assumption|decide|omega|(simp[big];done)|(simp[big];omega)⟩) Enc.nil) rfl rfl rfl zJ Tryz.info9 rfl rfl rfl zch ?_;intro C I F H f3 B;refine zH C K<|ze<|zf Tryz.results294<|⟨F,_,K,B.done,?_⟩;refine ⟨_,K,Sl.to f3 ?_⟩
 all_goals first|rfl|(simp_all;done)
theorem zvj (hs:Sub h w) (b_f0:Sl zaN h b_v0 b.chapters) (b_c:zaL h b_b 0 [b_v0]) (c_f0:Sl zgz h c_v0 c.readings) (K0:zaL h 0 0 Tryz.glob0) (ht:zcz b=true) (hv:∀ i,i<c.readings.length→zns b c i=true) (h20:c.readings.length≤20):Calls Tryz.prog 145 #[.pointer (some ⟨b_b,0,none⟩),.agg #[iV c.id,c_v0]] w (zbH h w (fun h' _ res_=>∃ u0,res_=.agg #[u0]∧Sl zaN h' u0 (zrh b c).chapters)):=by
 refine zg 121 Tryz.func145 K<|have C4:=zcu hs;have z6:=b_f0.le;have z7:=c_f0.le;zw<|J [iV c.id,c_v0] C4 K<|fun b1 w2 h3 q8 C5 C6=>zaf C6 Tryz.zeroValue24 K K<|fun b7 w8 C7=>D<|zw<|ziN (κ:=Place) (υ:=Value) (ek:=zix) (eu:=(fun v:Value=>v)) C7 K<|fun K8 C8 K9 f13 r2=>?_;obtain ⟨b6,rfl⟩:=f13.form;have r3:(([]:List (Place×Value)).map (·.1)).Nodup:=by simp
 refine zH (.map (some b6)) K<|D<|zaM<|zaM<|have g2:=r2.snoc;zah<|Z zcP K zfy<|Y 1 g2.sub C5 zgl K<|zG (c_f0.up q8) zco K<|N K<|D<|zT ?_;refine zaI ([7]++zbP 24 14) (G:=Nat×List (Place×Value)×List (Place×List Reading)×List (Nat×Obj)×List (Nat×Obj)×Heap) (fun ⟨i,rm,ls,O_,s,e8⟩=>[(24,iV (i:Int))]) (fun ⟨i,rm,ls,O_,s,e8⟩ w'=>Le h3 e8∧St h w e8 w' [[(b7,.cells (List.toArray [(.slice none 0 0)]) 24)],s,O_]∧(OM zix (fun v:Value=>v) rm s (.map (some b6)))∧(((rm).map (·.1)).Nodup)∧(i≤c.readings.length)∧(NM zgz 165 e8 rm ls O_)∧(zxQ Reading.at_ (c.readings.take i) ls)) (fun ⟨i,rm,ls,O_,s,e8⟩=>c.readings.length-i) ⟨0,[],[],[],C8,h3⟩ ⟨rfl,trivial⟩ ⟨Le.refl _,g2,(by have q:=f13;exact q),(by have q:=r3;exact q),zbB,(by exact NM.nil),(by exact zGi)⟩ ?_;rintro ⟨i,rm,ls,O_,s,e8⟩ _ L0 ⟨e2,e3,g3,r4,hi,hnm,hgr⟩;refine zw<|zM K<|D<|zaM<|zV K (fun C9=>?_) (fun C9=>?_)
 ·refine zaS<|zT<|zw ?_;obtain ⟨r,hr⟩:∃ y_,(c.readings)[i]?=some y_:=zdl zW;have D0:=q8.t e2;obtain ⟨L1,L2,_,r5,r6,hr_r⟩:=Sl.elem (c_f0.up D0) hr;obtain ⟨rfl,D9,r7⟩:=hr_r;simp only[big] at r7;refine zx r5 zco zdo K<|E e3.sub r6 zjk zdo K<|zaf e3 ziU K K<|fun L3 L4 r8=>zq 3 r8 K zdo<|fun L5 r9=>?_;obtain ⟨A7,g4,s0,s1⟩:=r9.freeze (k:=3) rfl;have g5:=zaL.of s0;refine D ?_;obtain ⟨_,o1_,R1_,rfl,hO1_,hp1_,hb1_⟩:=(hnm.up g4).open r.at_;have e4:St h w A7 _ [[(b7,.cells (List.toArray [(.slice none 0 0)]) 24)],s,R1_,[],o1_]:=St.pick (k:=2) s1 rfl hp1_;have hgl:((zcI ls r.at_).getD []).length≤i:=by rw[zuj hgr];exact zfl (zCJ _ _) (by rw[zt];omega)
  refine zah<|zk (.map (some b6)) K<|Z zaO K zR<|zr 0 [iV r.at_.chapter,iV r.at_.line,iV r.at_.word] e4.sub g5 zaE zR K<|E e4.sub g5 zjk zdo K ?_;refine zkF (L:=zgz) (xs:=[r]) (cs:=[iV r.at_.chapter,iV r.at_.line,iV r.at_.word,.int .u8 r.kind,zae r.word]) e4 (Enc.cons (L:=zgz) (vs:=[iV r.at_.chapter,iV r.at_.line,iV r.at_.word,.int .u8 r.kind,zae r.word]) (x:=r) (h:=A7) (⟨rfl,zfb,by first|assumption|decide|omega|(simp[big];done)|(simp[big];omega)⟩) Enc.nil) rfl rfl rfl zco Tryz.info165 rfl rfl rfl zch ?_;intro L6 L7 D1 e5 f43 s2;refine zok (i:=1) (k:=r.at_) (zu:=(Value.slice none 0 0)) s2 g3 K r4 zhB Tryz.underlying307 Tryz.zeroValue95 K K K K<|fun L8 L9 D2 _ D3 f51 s3 s4=>?_;subst D3;refine zbl ((zcI rm r.at_).getD (.slice none 0 0)) K ?_;refine zbe (k:=4) (nb:=48) s4 (hO1_.up e5) rfl f43 rfl rfl rfl zco Tryz.info165 rfl rfl rfl (by decide) rfl (by (try simp only[zj,zt,zy,zC,zhc,zhS]);omega) (by (try simp only[zj,zt,zy,zC,zhc,zhS]);omega) ?_;intro A8 D4 M0 _ D5 f58 s5;subst D5;refine zB K<|zjn (i:=1) (c:=D2) (k:=r.at_) (u:=A8) s5 f51 K s3 K K K<|fun D6 M1 _ D7 f63 s6 s7=>?_;subst D7;refine zl<|zhQ<|zF ?_;have s8:=St.unpick (k:=2) (j:=4) s7 rfl rfl (by decide);have s9:=(hb1_ _ _ _ _ e5 f58).ent (z:=(Value.slice none 0 0));refine zah<|zo K zbj<|N K<|D<|⟨⟨i+1,(ziL (zoP rm r.at_ (Value.slice none 0 0)) r.at_ A8),(ziL ls r.at_ ((zcI ls r.at_).getD []++[r])),(R1_++D4),D6,D1⟩,⟨rfl,trivial⟩,?_,⟨((e2.t g4).t e5),s8.take 3,?_,?_,?_,?_,?_⟩,?_⟩
  ·exact zba
  ·have q:=f63;exact q
  ·have q:=s6;exact q
  ·first|omega|(simp;omega)
  ·exact s9
  ·rw[zbg hr];exact zFi hgr r
  show c.readings.length-(i+1)<c.readings.length-i;omega
 refine zdx<|zF<|zaM ?_;obtain ⟨q9,t0,f69,t1⟩:=(hnm.up (Le.refl _)).freeze (k:=2) e3 rfl (fun k_ xs_ e_=>by have q_:=zFj hgr e_;rw[zt] at q_;omega);have hms:=zGj hgr (hnm.up (Le.refl _)) f69;rw[zS (show c.readings.length≤i by omega)] at hms;refine zah<|zaf t1 Tryz.zeroValue24 K K<|fun g0 M2 g6=>D<|zav<|zno K K<|zU K (zdH K)<|Z zjW K zac<|Z zaY K zbW<|have r0:=(q8.t e2).t t0;Y 0 g6.sub (b_c.up r0) zcJ K<|zG (b_f0.up r0) zaJ K<|N K<|D<|zT ?_;have t2:=g6.snoc;have f79:=OSl.nil zaN 158 q9;refine zaI (zbP 9 8++[18,19]++zbP 44 76) (G:=Nat×Value×List (Nat×Obj)×Heap) (fun ⟨k,v_c3_0,o_c3_0,e9⟩=>[(44,iV (k:Int))]) (fun ⟨k,v_c3_0,o_c3_0,e9⟩ w'=>Le q9 e9∧St h w e9 w' [[(b7,.cells (List.toArray [(.slice none 0 0)]) 24)],s,[],[(g0,.cells (List.toArray [v_c3_0]) 24)],o_c3_0]∧(OSl zaN 158 e9 v_c3_0 (zpX b c k) o_c3_0)∧(k≤b.chapters.length)) (fun ⟨k,v_c3_0,o_c3_0,e9⟩=>b.chapters.length-k) ⟨0,(.slice none 0 0),[],q9⟩ ⟨rfl,trivial⟩ ⟨Le.refl _,t2,(OSl.to f79 (by rfl)),zbB⟩ ?_;rintro ⟨k,v_c3_0,o_c3_0,e9⟩ _ M3 ⟨e6,b8,hO_c3_0,hk⟩;refine zw<|zM K<|D<|zaM<|zV K (fun D8=>?_) (fun D8=>?_)
 ·refine zaS<|zT<|zw<|N K ?_;obtain ⟨x,hx⟩:∃ y_,(b.chapters)[k]?=some y_:=zdl zW;have g1:=r0.t e6;obtain ⟨M4,M5,_,t3,t4,hr_x⟩:=Sl.elem (b_f0.up g1) hx;obtain ⟨M6,rfl,f88⟩:=hr_x;have A9:=f88.le;refine zx t3 zaJ zbA K<|E b8.sub t4 zjl zbA K<|zaf b8 zgN K K<|fun M7 M8 t5=>U K<|zaU 5 t5 K (zbI K (zbI f88.one zgB)) zbA<|fun M9 t6=>?_;obtain ⟨r1,S,t7,g7⟩:=t6.freeze (k:=5) rfl;have g8:=zaL.of t7;refine D<|zaM<|have N0:=(zmx ht).2.1;have E0:=zlF ht hx;zah<|Z zaP K zI<|Y 0 g7.sub g8 zO K<|zU K (zdT (cs:=[iV x.id,(.slice none 0 0)]) zch)<|zaf g7 zgN K K<|fun q7 E1 h8=>zq 6 h8 K zbA<|fun E2 c1=>D<|zav<|Z zaP K zcj<|Y 1 c1.sub g8 zdd K<|zG (f88.up S) zaW K<|N K<|D<|zT ?_;have h9:=c1.snoc;have f108:=OSl.nil (LSl zea) 159 r1;refine zaI ([12,13,14,15,16,18,19]++zbP 55 58) (G:=Nat×Value×List (Nat×Obj)×Heap) (fun ⟨n,v_c6_1,o_c6_1,T⟩=>[(55,iV (n:Int))]) (fun ⟨n,v_c6_1,o_c6_1,T⟩ w'=>Le r1 T∧St h w T w' [[(b7,.cells (List.toArray [(.slice none 0 0)]) 24)],s,[],[(g0,.cells (List.toArray [v_c3_0]) 24)],o_c3_0,[],[(q7,.cells (List.toArray [iV x.id,v_c6_1]) 158)],o_c6_1]∧(OSl (LSl zea) 159 T v_c6_1 (zpe c k x.lines n) o_c6_1)∧(n≤x.lines.length)) (fun ⟨n,v_c6_1,o_c6_1,T⟩=>x.lines.length-n) ⟨0,(.slice none 0 0),[],r1⟩ ⟨rfl,trivial⟩ ⟨Le.refl _,h9,(OSl.to f108 (by rfl)),zbB⟩ ?_;rintro ⟨n,v_c6_1,o_c6_1,T⟩ _ E3 ⟨F,y,hO_c6_1,hn⟩;refine zw<|zM K<|D<|zaM<|zV K (fun t8=>?_) (fun t8=>?_)
  ·refine zaS<|zT<|zw<|N K ?_;obtain ⟨l,hl⟩:∃ y_,(x.lines)[n]?=some y_:=zdl zW;obtain ⟨E4,E5,_,j0,j1,hr_l⟩:=Sl.elem (f88.up (S.t F)) hl;obtain ⟨e7,rfl,f116⟩:=hr_l;have z8:=f116.le;refine zx j0 zaW zeY K<|Y 0 y.sub j1 zfK K<|U K<|zH e7 K<|D<|zw<|zdD K K<|D<|zav<|zk e7 K<|zG f116 zJ K<|zo K zbj<|N K<|D<|zT ?_;have j2:=y.snoc;have f121:=OSl.nil zea 9 T;refine zaI ([14,15,16,18,19]++zbP 63 42) (G:=Nat×Value×List (Nat×Obj)×Heap) (fun ⟨m,a2,a7,o⟩=>[(14,a2),(63,iV (m:Int))]) (fun ⟨m,a2,a7,o⟩ w'=>Le T o∧St h w o w' [[(b7,.cells (List.toArray [(.slice none 0 0)]) 24)],s,[],[(g0,.cells (List.toArray [v_c3_0]) 24)],o_c3_0,[],[(q7,.cells (List.toArray [iV x.id,v_c6_1]) 158)],o_c6_1,a7]∧(OSl zea 9 o a2 (zoO c k n l m) a7)∧(m≤l.length+1)) (fun ⟨m,a2,a7,o⟩=>l.length+1-m) ⟨0,(.slice none 0 0),[],T⟩ ⟨rfl,rfl,trivial⟩ ⟨Le.refl _,j2,(OSl.to f121 (by rfl)),zbB⟩ ?_;rintro ⟨m,a2,a7,o⟩ _ E6 ⟨H,a3,c2,hw⟩;refine zw<|zM K<|D<|zaM<|zV K (fun t9=>?_) (fun t9=>?_)
   ·refine zaS<|zT<|zw<|N K<|U K<|D<|zaM<|have hol:=zGb ht hx hl m;have hll:=(zop ht hx hl).1;zah<|zk e7 K<|N K ?_;refine zau a3 rfl rfl rfl Tryz.call143 rfl (zra a3.sub (f116.up H) _ zW) ?_;intro E7 E8 b9 d j3 v0;subst v0;refine zse (L:=zea) (xs:=[((zie l (m:Int).toNat))]) (cs:=[zae ((zie l (m:Int).toNat))]) j3 (Enc.cons (L:=zea) (vs:=[zae ((zie l (m:Int).toNat))]) (x:=((zie l (m:Int).toNat))) (h:=b9) (⟨rfl,by first|assumption|decide|omega|(simp[big];done)|(simp[big];omega)⟩) Enc.nil) rfl rfl rfl zJ Tryz.info9 rfl rfl rfl rfl zch ?_;intro g9 v1 E9 f132 c3;refine zH g9 K<|D<|zav<|zk (.map (some b6)) K<|N K<|N K<|N K<|zU K (zdT (cs:=[iV (k:Int),iV (n:Int),iV (m:Int)]) zch) ?_;have v2:=(((e6.t S).t F).t H).t d;have f135:Sl zgz b9 ((zcI rm (Place.mk (k:Int) (n:Int) (m:Int))).getD (Value.slice none 0 0)) (zeA c (mkP k n m)):=zxN.get (hms.up v2) (Place.mk (k:Int) (n:Int) (m:Int));have z9:=f135.le;refine zU K (ztZ (k:=(Place.mk (k:Int) (n:Int) (m:Int))) (zu:=(Value.slice none 0 0)) (zhB).toKeyF Tryz.underlying307 g3 (c3.ent (k:=1) K) Tryz.zeroValue95 K K K)<|zG f135 zco K<|N K<|D<|zT ?_;refine zaI ([16,18,19]++zbP 77 24) (G:=Nat×Value×List (Nat×Obj)×Heap) (fun ⟨j,C,a9,a8⟩=>[(16,C),(77,iV (j:Int))]) (fun ⟨j,C,a9,a8⟩ w'=>Le b9 a8∧St h w a8 w' [[(b7,.cells (List.toArray [(.slice none 0 0)]) 24)],s,[],[(g0,.cells (List.toArray [v_c3_0]) 24)],o_c3_0,[],[(q7,.cells (List.toArray [iV x.id,v_c6_1]) 158)],o_c6_1,a7,a9]∧(OSl zea 9 a8 C ((zkd ((zeA c (mkP k n m)).take j) (zie l m))) a9)∧(j≤(zeA c (mkP k n m)).length)) (fun ⟨j,C,a9,a8⟩=>(zeA c (mkP k n m)).length-j) ⟨0,g9,v1,b9⟩ ⟨rfl,rfl,trivial⟩ ⟨Le.refl _,c3,(OSl.to f132 (by rfl)),zbB⟩ ?_;rintro ⟨j,C,a9,a8⟩ _ F0 ⟨I,b0,B,hj⟩;refine zw<|zM K<|D<|zaM<|zV K (fun v3=>?_) (fun v3=>?_)
    ·refine zaS<|zT<|zw ?_;obtain ⟨q,hq⟩:∃ y_,((zeA c (mkP k n m)))[j]?=some y_:=zdl (by show j<(zeA c (mkP k n m)).length;omega);obtain ⟨F1,F2,_,j4,j5,hr_q⟩:=Sl.elem (f135.up I) hq;obtain ⟨rfl,B0,j6⟩:=hr_q;simp only[big] at j6;refine zx j4 zco zdo K<|E b0.sub j5 zjk zdo K<|zaf b0 ziU K K<|fun F3 F4 j7=>zq 10 j7 K zdo<|fun F5 j8=>?_;obtain ⟨F6,A,j9,b2⟩:=j8.freeze (k:=10) rfl;have e:=zaL.of j9;refine D<|zaM ?_;have hq:(zeA c (mkP k n m))[j]?=some q:=hq;have hqj:=(k_List_getElem__eq_some_iff.1 hq).1;have hpl:=zyG h20 (mkP k n m) (zie l m) j;have hqm:=zvC (zD hq);have hpn:=zwE hv (mkP k n m) (zie l m) j zW;have hqk:=zDw hv hqm;refine zah<|zk C K<|zlW (B.up A) K zJ K<|zja K K zbj K<|U K<|D ?_
     rcases (show q.kind=1∨q.kind=2∨q.kind=3 by omega) with P|P|P
     ·have f159:=OSl.take (B.up A) (k:=((zkd ((zeA c (mkP k n m)).take j) (zie l m)).length-1)) zW;have v4:=(((((g1.t S).t F).t H).t d).t I).t A;obtain ⟨wl,hwl⟩:∃ y_,((zkd ((zeA c (mkP k n m)).take j) (zie l m)))[((zkd ((zeA c (mkP k n m)).take j) (zie l m)).length-1)]?=some y_:=zdl zW;obtain ⟨F7,F8,A0,_,v5,k0,hr_wl,k1⟩:=OSl.elem (B.up A) hwl;subst v5;obtain ⟨rfl,k2⟩:=hr_wl;simp only[big] at k2;refine zgR (er:=([2,11],[16],[0,8],[],0)) (dsts:=(zbP 84 16++[16])) b2 zbh<|zL (zbw C K)<|zL (zho K) ?_;refine zL (zjE (B.up A) rfl rfl (hk:=(show _=((((zkd ((zeA c (mkP k n m)).take j) (zie l m)).length-1):Nat):Int) by omega)) zW zJ zap) ?_;refine zL (zh zaO K zcg)<|zas (fun hD wD Q p a hO _ _=>(zm 3 (p.sub a) e zda K)) ?_;refine zL (zex rfl rfl (show _=((1:Nat):Int) by rw[P];rfl) rfl zjh ziw) ?_;refine zL (zh zeU K Tryz.sizeOf249)<|zas (fun hD wD Q p a hO _ _=>(zm 5 (p.sub a) (K0.up v4) Tryz.isAgg249 K))<|zL (zbw C K)<|zL (zho K) ?_;refine zL (zcD k0 rfl rfl (hk:=(show _=((((zkd ((zeA c (mkP k n m)).take j) (zie l m)).length-1):Nat):Int) by omega)) (hu:=zJ) (hz:=zap)) ?_;refine zas (fun hD wD Q p a hO _ _=>(zjv (j:=0) ((hO K).get (k:=9) K) k1 K K K zaZ))<|zL (zh zaO K zap)<|zas (fun hD wD Q p a hO _ _=>(zm 4 (p.sub a) e zaZ K))<|zbq (.res (fun h' res_=>Sl zea h' res_ ([]:List Str)) (fun _ _ _ hl f=>f.up hl)) ?_ ?_
      ·intro hD wD Q p a hO _ _ _ _ _ _;have c4:=St.start a;refine zgh (fs:=[]) (cs:=[]) c4 rfl rfl rfl rfl Tryz.call290 rfl (zxB c4.sub _ (by first|assumption|decide|omega|(simp[big];done)|(simp[big];omega)) _ (by first|assumption|decide|omega|(simp[big];done)|(simp[big];omega))) ?_;intro F9 G0 G1 B1 k3 v6;obtain ⟨G2,v7,f176⟩:=v6;rw[← v7] at f176;have A1:=f176.le;exact zl ⟨_,_,K,k3,_,K,f176⟩
      refine zcf<|zcf<|zdy<|fun B2 G3 _ c5 k4 _ _ gv14_0x178 gf14_0x178=>?_;refine zbe (k:=9) (nb:=16) k4 (f159.up c5) rfl gf14_0x178 rfl rfl rfl zJ Tryz.info9 rfl rfl rfl (by decide) rfl (by (try simp only[zj,zt,zy,zC,zhc,zhS]);omega) (by (try simp only[zj,zt,zy,zC,zhc,zhS]);omega) ?_;intro h0 v8 G4 _ v9 f187 k5;subst v9;refine zl ⟨_,K,_,_,Le.refl _,k5,?_⟩;intro B3 G5 _ c6 k6 _ _ _ _ _ _ _ _ _ _ _ _ _ _ _ _ _ _ _ _ _ _ _ _ _ _ _ _ gv14_0x189 gf14_0x189;refine zH h0 K<|zl ⟨_,K,_,_,Le.refl _,k6,?_⟩;intro k7 G6 _ c7 k8 _ _ _ _ _ _ _ _ _ _ _ _ _ _ _ _ _ _ _ _ _ _ _ _ _ _ _ _ gv14_0x198 gf14_0x198;refine zbT.fin K<|zaF<|zo K zbj<|N K<|D<|have w0:=(((I.t A).t c5).t c6).t c7;⟨⟨j+1,h0,v8,k7⟩,⟨rfl,K,trivial⟩,?_,⟨w0,k8.take 10,?_,?_⟩,?_⟩
      ·exact zba
      ·refine OSl.to (f187.up (c6.t c7)) ?_;rw[zbg hq,zmB,zwD hwl,zoz,P];rfl
      ·first|omega|(simp;omega)
      show (zeA c (mkP k n m)).length-(j+1)<(zeA c (mkP k n m)).length-j;omega
     ·have f200:=OSl.take (B.up A) (k:=((zkd ((zeA c (mkP k n m)).take j) (zie l m)).length-1)) zW;have w1:=(((((g1.t S).t F).t H).t d).t I).t A;obtain ⟨wl,hwl⟩:∃ y_,((zkd ((zeA c (mkP k n m)).take j) (zie l m)))[((zkd ((zeA c (mkP k n m)).take j) (zie l m)).length-1)]?=some y_:=zdl zW;obtain ⟨G7,G8,A2,_,w3,k9,hr_wl,l0⟩:=OSl.elem (B.up A) hwl;subst w3;obtain ⟨rfl,l1⟩:=hr_wl;simp only[big] at l1;refine zgR (er:=([2,11],[16],[0,8],[],0)) (dsts:=(zbP 84 16++[16])) b2 zbh<|zL (zbw C K)<|zL (zho K) ?_;refine zL (zjE (B.up A) rfl rfl (hk:=(show _=((((zkd ((zeA c (mkP k n m)).take j) (zie l m)).length-1):Nat):Int) by omega)) zW zJ zap) ?_;refine zL (zh zaO K zcg)<|zas (fun hD wD Q p a hO _ _=>(zm 3 (p.sub a) e zda K)) ?_;refine zL (zex rfl rfl (show _=((2:Nat):Int) by rw[P];rfl) rfl zjh ziw) ?_;refine zL (zh zeU K Tryz.sizeOf249)<|zas (fun hD wD Q p a hO _ _=>(zm 8 (p.sub a) (K0.up w1) Tryz.isAgg249 K))<|zL (zbw C K)<|zL (zho K) ?_;refine zL (zcD k9 rfl rfl (hk:=(show _=((((zkd ((zeA c (mkP k n m)).take j) (zie l m)).length-1):Nat):Int) by omega)) (hu:=zJ) (hz:=zap)) ?_;refine zas (fun hD wD Q p a hO _ _=>(zjv (j:=0) ((hO K).get (k:=9) K) l0 K K K zaZ))<|zL (zh zaO K zap)<|zas (fun hD wD Q p a hO _ _=>(zm 4 (p.sub a) e zaZ K))<|zbq (.res (fun h' res_=>Sl zea h' res_ ([q.word,wl])) (fun _ _ _ hl f=>f.up hl)) ?_ ?_
      ·intro hD wD Q p a hO _ _ _ _ _ _;have c8:=St.start a;refine zgh (fs:=[]) (cs:=[]) c8 rfl rfl rfl rfl Tryz.call292 rfl (zxz c8.sub _ (by first|assumption|decide|omega|(simp[big];done)|(simp[big];omega)) _ (by first|assumption|decide|omega|(simp[big];done)|(simp[big];omega))) ?_;intro G9 H0 H1 B4 l2 w4;obtain ⟨H2,w5,f217⟩:=w4;rw[← w5] at f217;have A3:=f217.le;exact zl ⟨_,_,K,l2,_,K,f217⟩
      refine zcf<|zcf<|zdy<|fun B5 H3 _ c9 l3 _ _ gv14_0x219 gf14_0x219=>?_;refine zbe (k:=9) (nb:=16) l3 (f200.up c9) rfl gf14_0x219 rfl rfl rfl zJ Tryz.info9 rfl rfl rfl (by decide) rfl (by (try simp only[zj,zt,zy,zC,zhc,zhS]);omega) (by (try simp only[zj,zt,zy,zC,zhc,zhS]);omega) ?_;intro h1 w6 H4 _ w7 f228 l4;subst w7;refine zl ⟨_,K,_,_,Le.refl _,l4,?_⟩;intro B6 H5 _ d0 l5 _ _ _ _ _ _ _ _ _ _ _ _ _ _ _ _ _ _ _ _ _ _ _ _ _ _ _ _ gv14_0x230 gf14_0x230;refine zH h1 K<|zl ⟨_,K,_,_,Le.refl _,l5,?_⟩;intro l6 H6 _ d1 l7 _ _ _ _ _ _ _ _ _ _ _ _ _ _ _ _ _ _ _ _ _ _ _ _ _ _ _ _ gv14_0x239 gf14_0x239;refine zbT.fin K<|zaF<|zo K zbj<|N K<|D<|have w9:=(((I.t A).t c9).t d0).t d1;⟨⟨j+1,h1,w6,l6⟩,⟨rfl,K,trivial⟩,?_,⟨w9,l7.take 10,?_,?_⟩,?_⟩
      ·exact zba
      ·refine OSl.to (f228.up (d0.t d1)) ?_;rw[zbg hq,zmB,zwD hwl,zoz,P];rfl
      ·first|omega|(simp;omega)
      show (zeA c (mkP k n m)).length-(j+1)<(zeA c (mkP k n m)).length-j;omega
     have f241:=OSl.take (B.up A) (k:=((zkd ((zeA c (mkP k n m)).take j) (zie l m)).length-1)) zW;have x0:=(((((g1.t S).t F).t H).t d).t I).t A;obtain ⟨wl,hwl⟩:∃ y_,((zkd ((zeA c (mkP k n m)).take j) (zie l m)))[((zkd ((zeA c (mkP k n m)).take j) (zie l m)).length-1)]?=some y_:=zdl zW;obtain ⟨H7,H8,A4,_,x1,l8,hr_wl,l9⟩:=OSl.elem (B.up A) hwl;subst x1;obtain ⟨rfl,m0⟩:=hr_wl;simp only[big] at m0;refine zgR (er:=([2,11],[16],[0,8],[],0)) (dsts:=(zbP 84 16++[16])) b2 zbh<|zL (zbw C K)<|zL (zho K) ?_;refine zL (zjE (B.up A) rfl rfl (hk:=(show _=((((zkd ((zeA c (mkP k n m)).take j) (zie l m)).length-1):Nat):Int) by omega)) zW zJ zap) ?_;refine zL (zh zaO K zcg)<|zas (fun hD wD Q p a hO _ _=>(zm 3 (p.sub a) e zda K)) ?_;refine zL (zex rfl rfl (show _=((3:Nat):Int) by rw[P];rfl) rfl zjh ziw) ?_;refine zL (zh zeU K Tryz.sizeOf249)<|zas (fun hD wD Q p a hO _ _=>(zm 11 (p.sub a) (K0.up x0) Tryz.isAgg249 K))<|zL (zbw C K)<|zL (zho K) ?_;refine zL (zcD l8 rfl rfl (hk:=(show _=((((zkd ((zeA c (mkP k n m)).take j) (zie l m)).length-1):Nat):Int) by omega)) (hu:=zJ) (hz:=zap)) ?_;refine zas (fun hD wD Q p a hO _ _=>(zjv (j:=0) ((hO K).get (k:=9) K) l9 K K K zaZ))<|zL (zh zaO K zap)<|zas (fun hD wD Q p a hO _ _=>(zm 4 (p.sub a) e zaZ K))<|zbq (.res (fun h' res_=>Sl zea h' res_ ([q.word])) (fun _ _ _ hl f=>f.up hl)) ?_ ?_
     ·intro hD wD Q p a hO _ _ _ _ _ _;have d2:=St.start a;refine zgh (fs:=[]) (cs:=[]) d2 rfl rfl rfl rfl Tryz.call294 rfl (zxx d2.sub _ (by first|assumption|decide|omega|(simp[big];done)|(simp[big];omega)) _ (by first|assumption|decide|omega|(simp[big];done)|(simp[big];omega))) ?_;intro H9 I0 I1 B7 m1 x2;obtain ⟨I2,x3,f258⟩:=x2;rw[← x3] at f258;have A5:=f258.le;exact zl ⟨_,_,K,m1,_,K,f258⟩
     refine zcf<|zcf<|zdy<|fun B8 I3 _ d3 m2 _ _ gv14_0x260 gf14_0x260=>?_;refine zbe (k:=9) (nb:=16) m2 (f241.up d3) rfl gf14_0x260 rfl rfl rfl zJ Tryz.info9 rfl rfl rfl (by decide) rfl (by (try simp only[zj,zt,zy,zC,zhc,zhS]);omega) (by (try simp only[zj,zt,zy,zC,zhc,zhS]);omega) ?_;intro h2 x4 I4 _ x5 f269 m3;subst x5;refine zl ⟨_,K,_,_,Le.refl _,m3,?_⟩;intro B9 I5 _ d4 m4 _ _ _ _ _ _ _ _ _ _ _ _ _ _ _ _ _ _ _ _ _ _ _ _ _ _ _ _ gv14_0x271 gf14_0x271;refine zH h2 K<|zl ⟨_,K,_,_,Le.refl _,m4,?_⟩;intro m5 I6 _ d5 m6 _ _ _ _ _ _ _ _ _ _ _ _ _ _ _ _ _ _ _ _ _ _ _ _ _ _ _ _ gv14_0x280 gf14_0x280;refine zbT.fin K<|zaF<|zo K zbj<|N K<|D<|have x6:=(((I.t A).t d3).t d4).t d5;⟨⟨j+1,h2,x4,m5⟩,⟨rfl,K,trivial⟩,?_,⟨x6,m6.take 10,?_,?_⟩,?_⟩
     ·exact zba
     ·refine OSl.to (f269.up (d4.t d5)) ?_;rw[zbg hq,zmB,zwD hwl,zoz,P];rfl
     ·first|omega|(simp;omega)
     show (zeA c (mkP k n m)).length-(j+1)<(zeA c (mkP k n m)).length-j;omega
    refine zdx<|zF ?_;have hpl:=zyG h20 (mkP k n m) (zie l m) j;have hal:=ztU (k:=k) (n:=n) (m:=m) h20 hll zW;obtain ⟨x7,d6,f284,m7⟩:=OSl.freeze (k:=9) b0 B rfl (by (try simp only[zj,zt,zy,zC,zhc,zhS]);omega);refine zah<|zk a2 K<|zk C K ?_;refine zbe (k:=8) (nb:=16) m7 (c2.up ((d.t I).t d6)) rfl f284 rfl rfl rfl zJ Tryz.info9 rfl rfl rfl (by decide) rfl (by (try simp only[zj,zt,zy,zC,zhc,zhS]);omega) (by (try simp only[zj,zt,zy,zC,zhc,zhS]);omega) ?_;intro h4 x8 I7 _ x9 f290 m8;subst x9;refine zH h4 K<|zl<|zaF<|zo K zbj<|N K<|D<|have y0:=((H.t d).t I).t d6;⟨⟨m+1,h4,x8,x7⟩,⟨rfl,K,trivial⟩,?_,⟨y0,m8.take 9,?_,?_⟩,?_⟩
    ·exact zba
    ·refine OSl.to f290 ?_;rw[ztW,zyF,zS zW]
    ·first|omega|(simp;omega)
    show l.length+1-(m+1)<l.length+1-m;omega
   refine zdx<|zF ?_;have hal:=ztU (k:=k) (n:=n) (m:=m) h20 (zop ht hx hl).1 zW;have m9:=St.none (k:=6) a3 rfl;obtain ⟨A6,o0,a0,o1⟩:=OSl.raw (hO_c6_1.up H);obtain ⟨I8,d7,d8,o2⟩:=a3.freeze (k:=6) rfl;have o3:=zaL.of d8;refine zzT (er:=([],[],[],[],0)) (dsts:=(zbP 105 7)) 7 _ K zch zch zch zch o2 zbh<|zL (zh zaP K zcj)<|zas (fun hD wD Q p a hO _ _=>(zm 1 (p.sub a) o3 zdd K))<|zL (zbw a2 K)<|zcf<|zcf<|zcf<|zL (zh zaP K zcj)<|zdy<|fun C0 I9 _ b3 o4 _ _=>?_;have o5:=St.front (k:=8) o4 rfl;have con:=zmJ (rest:=[[(b7,.cells (List.toArray [(.slice none 0 0)]) 24)],s,[],[(g0,.cells (List.toArray [v_c3_0]) 24)],o_c3_0,[],[],o_c6_1,[]]) (c2.up (d7.t b3)) (g:=195) (caps:=[]) (fun x_=>(decide ((x_)=[]))) (by have q_:=ztg (c:=c) (k:=k) (n:=n) (l:=l) h20 m;have q2_:=(zop ht hx hl).1;omega) Tryz.call195 (fun x_ h_ w_ vs_ le_ hs_ hx_ hr_ u_ hu_=>by cases hu_;obtain ⟨hr1_,hr2_⟩:=hr_;cases hr1_;simp only[big] at hr2_;exact ztJ hs_ _ hr2_) o5;refine zcG K K (zcT K Tryz.call194 K) (con.mono ?_);rintro _ J0 ⟨J1,J2,c0,rfl,b4,o6,f314⟩;refine ⟨_,K,?_⟩;clear con;have o7:=St.backAt (k:=8) o6 rfl;refine zl ⟨_,K,_,_,b4,o7,?_⟩;intro o8 J3 _ a1 o9;refine zkF (L:=zEg) (xs:=[c0]) (cs:=[c0]) o9 (Enc.cons (L:=zEg) (vs:=[c0]) (x:=c0) (h:=o8) ⟨rfl,(f314.up a1).one⟩ Enc.nil) rfl rfl rfl zaW Tryz.info159 rfl rfl rfl (by obtain ⟨_,_,rfl⟩:=(f314.up a1).form;kernel_rfl) ?_;intro J4 J5 J6 a4 f326 p0;refine zl ⟨_,K,_,_,a4,p0,?_⟩;intro C1 J7 _ a5 p1 _ _;have h5:=((((d7.t b3).t b4).t a1).t a4).t a5;refine zbe (L:=zEg) (k:=7) (nb:=24) p1 (o0.up h5) rfl (f326.up a5) rfl rfl rfl zaW Tryz.info159 rfl rfl rfl (by decide) rfl (by have q_:=a0;rw[zhc] at q_;simp only[zy,zC];omega) (by have q_:=a0;rw[zhc] at q_;simp only[zy,zC];omega) ?_;intro h6 y1 J8 _ y2 f337 p2;subst y2;refine zl ⟨_,K,_,_,Le.refl _,p2,?_⟩;intro C2 J9 _ a6 p3 _ _ _ _ _ _ _ _;refine zbT.fin K<|⟨rfl,?_⟩;have y3:=((g1.t S).t F).t H;have y4:=((((b3.t b4).t a1).t a4).t a5).t a6;have p4:=St.defrost (O:=[(q7,_)]) p3 y3 (h5.t a6) (by intro p_ hp_;rw[zgc] at hp_;subst hp_;exact ⟨y4 _ _ d8,m9⟩) (by simp);have y5:=((a1.t a4).t a5).t a6;have f349:=OSl.heap (fun _ _ _ _ q=>q) (f314.up y5) o;have f350:=OSl.heap (fun _ _ _ _ q=>q) (f337.up a6) o;have p5:=St.move (k:=6) (j:=9) p4 rfl rfl (by decide);obtain ⟨y6,b5,f354,p6⟩:=OSl.freeze (k:=8) p5 f349 rfl (zfl (zak _ _) zW);obtain ⟨y7,y8⟩:=zEz b5 a0 o1 f354;have f358:=OSl.unraw (f350.up b5) y7 y8;refine zeH p6 (k:=6) K K (v:=h6) K f358.one zcj K K K<|fun K1 p7=>zl<|zaF<|zo K zbj<|N K<|D<|⟨⟨n+1,h6,y1,y6⟩,⟨rfl,trivial⟩,?_,⟨((F.t H).t b5),p7.take 8,?_,?_⟩,?_⟩
   ·exact zba
   ·refine OSl.to f358 ?_;rw[zAB hl,zyH,show m=l.length+1 by omega];simp only[ne_eq,decide_not]
   ·first|omega|(simp;omega)
   show x.lines.length-(n+1)<x.lines.length-n;omega
  refine zdx<|zF<|zah<|Z zaY K zbW<|zgs (y.get (k:=3) K) K K zcJ K<|zem (y.get (k:=6) K) K zjl zbA K K ?_;obtain ⟨y9,d9,f363,p8⟩:=OSl.freeze (k:=7) y hO_c6_1 rfl (by (try simp only[zj,zt,zy,zC,zhc,zhS]);omega);refine zA zaN [(Chapter.mk x.id (zpe c k x.lines n))] [iV x.id,v_c6_1] p8 (Enc.cons (L:=zaN) (vs:=[iV x.id,v_c6_1]) (x:=(Chapter.mk x.id (zpe c k x.lines n))) (h:=y9) (⟨_,K,f363⟩) Enc.nil) K zaJ Tryz.info158 zch<|fun K2 K3 z0 e0 f367 p9=>?_;have z1:=((S.t F).t d9).t e0;refine zbe (k:=4) (nb:=32) p9 (hO_c3_0.up z1) rfl f367 rfl rfl rfl zaJ Tryz.info158 rfl rfl rfl (by decide) rfl (by (try simp only[zj,zt,zy,zC,zhc,zhS]);omega) (by (try simp only[zj,zt,zy,zC,zhc,zhS]);omega) ?_;intro h7 z2 K4 _ z3 f375 q0;subst z3;refine Z zaY K zbW<|zeH q0 (k:=3) K K (v:=h7) K f375.one zbW K K K<|fun K5 q1=>zl<|zaF<|zo K zbj<|N K<|D<|have z4:=(((e6.t S).t F).t d9).t e0;⟨⟨k+1,h7,z2,z0⟩,⟨rfl,trivial⟩,?_,⟨z4,q1.take 5,?_,?_⟩,?_⟩
  ·exact zba
  ·refine OSl.to f375 ?_;rw[zAC hx,show n=x.lines.length by omega];rfl
  ·first|omega|(simp;omega)
  show b.chapters.length-(k+1)<b.chapters.length-k;omega
 refine zdx<|zF<|zw<|zem (b8.get (k:=3) K) K zaX zac K K<|zaU 0 b8 K (zbI hO_c3_0.one zgB) zac<|fun K6 q2=>?_;obtain ⟨K7,q3,q4,e1⟩:=q2.freeze (k:=0) rfl;have q5:=zaL.of q4;refine ze<|zgj Tryz.results145 K zaX zac K e1.sub q5 ?_;obtain ⟨z5,C3,f390,q6⟩:=OSl.freeze (k:=4) e1 (hO_c3_0.up q3) rfl (by (try simp only[zj,zt,zy,zC,zhc,zhS]);omega);refine ⟨z5,_,K,q6.done,?_⟩;refine ⟨_,?_,Sl.to f390 ?_⟩
 all_goals first|rfl|(rw[show k=b.chapters.length by omega];rfl)
theorem zsP (hs:Sub h w) (l_f:Sl zea h l_v l):Calls Tryz.prog 147 #[l_v] w (zbH h w (fun _ _ res_=>res_=.bool (!inB l.length 1 10))):=by
 refine zg 8 Tryz.func147 K<|have C:=zcu hs;have l_f_b:=l_f.le;zw<|za K<|D<|zw<|zk l_v K<|zG l_f zJ K<|zA zeg [(l.length:Int)] [iV (l.length:Int)] C (Enc.cons (L:=zeg) (vs:=[iV (l.length:Int)]) (x:=(l.length:Int)) (h:=h) K Enc.nil) K zbx Tryz.info3 zch<|fun Q S T I f3 A=>zi A K zhJ (zhF A.sub _ _ f3)<|fun a b P H B F=>?_;obtain rfl:=F;refine zdJ K K<|za K<|ze<|zf Tryz.results147<|⟨P,_,K,B.done,?_⟩;refine zP ?_
 all_goals first|rfl|(simp;done)
theorem zuy (hs:Sub h w) (b_f0:Sl zaN h b_v0 b.chapters) (b_c:zaL h b_b 0 [b_v0]) (c_f0:Sl zgz h c_v0 c.readings) (K0:zaL h 0 0 Tryz.glob0) (ht:zcz b=true):Calls Tryz.prog 93 #[.pointer (some ⟨b_b,0,none⟩),.agg #[iV c.id,c_v0]] w (zbH h w (fun _ _ res_=>res_=.bool (zmY b c))):=by
 refine zg 114 Tryz.func93 K<|have y6:=zcu hs;have v0:=b_f0.le;have v1:=c_f0.le;zw<|J [iV c.id,c_v0] y6 K<|fun b1 w2 h3 y7 g7 v4=>za K<|D<|zav<|Z zcP K zI<|Y 0 v4.sub g7 zO K<|zA zeg [c.id] [iV c.id] v4 (Enc.cons (L:=zeg) (vs:=[iV c.id]) (x:=(c.id)) (h:=h3) K Enc.nil) K zbx Tryz.info3 zch<|fun v7 w8 I1 a5 f9 h0=>zi h0 K zhJ (zhF h0.sub _ _ f9)<|fun I2 I3 p3 a6 a7 y8=>?_;subst y8;refine zdJ K K<|zp K<|zbX (d:=18) K (fun p4=>?_) (fun p4=>?_)
 ·refine zao 4 K<|zd K<|D<|zaD K (fun v5=>?_) (fun v5=>?_)
  ·refine zw<|za K<|ze<|zN<|zf zhC<|⟨p3,_,K,a7.done,?_⟩;refine zP ?_
   first|exact znV (fun q=>by have q_:=p4;simp[q.1] at q_)|exact (znV (fun q=>by have q_:=p4;simp[q.1] at q_)).symm
  cases v5
 refine X K<|Z zcP K zfy<|X K<|Y 1 a7.sub (g7.up (a5.t a6)) zgl K<|X K<|have p5:=(y7.t a5).t a6;zG (c_f0.up p5) zco K<|X K<|zhn K K K<|zb K<|D<|zV K (fun p6=>?_) (fun p6=>?_)
 ·refine zw<|za K<|ze<|zN<|zf zhC<|⟨p3,_,K,a7.done,?_⟩;refine zP ?_
  first|exact znV (fun q=>by have q_:=p6;omega)|exact (znV (fun q=>by have q_:=p6;omega)).symm
 refine zaS<|zaM ?_;have hid:inB c.id 0 9999=true∧c.readings.length≤20:=⟨by simpa using p4,by have q_:=p6;omega⟩;refine zah<|Z zcP K zfy<|Y 1 a7.sub (g7.up (a5.t a6)) zgl K<|zG (c_f0.up p5) zco K<|N K<|D<|zT ?_;refine zaI (zbP 4 7++zbP 27 74) (G:=Nat×Heap) (fun ⟨i,g8⟩=>[(27,iV (i:Int))]) (fun ⟨i,g8⟩ w'=>Le p3 g8∧St h w g8 w' []∧(i≤c.readings.length)∧(∀ j,j<i→zns b c j=true)) (fun ⟨i,g8⟩=>c.readings.length-i) ⟨0,p3⟩ ⟨rfl,trivial⟩ ⟨Le.refl _,a7,zbB,(by intro j hj;omega)⟩ ?_;rintro ⟨i,g8⟩ _ I4 ⟨n,a8,hi,hA⟩;refine zw<|zM K<|D<|zaM<|zV K (fun y9=>?_) (fun y9=>?_)
 ·refine zaS<|zT<|zw<|N K ?_;obtain ⟨r,hr⟩:∃ y_,(c.readings)[i]?=some y_:=zdl zW;have v6:=p5.t n;obtain ⟨I5,I6,_,p8,p9,hr_r⟩:=Sl.elem (c_f0.up v6) hr;obtain ⟨rfl,z5,q0⟩:=hr_r;simp only[big] at q0;refine zx p8 zco zdo K<|E a8.sub p9 zjk zdo K<|zaf a8 ziU K K<|fun I7 I8 q1=>U K<|zq 0 q1 K zdo<|fun I9 q2=>?_;obtain ⟨J0,a9,q3,e9⟩:=q2.freeze (k:=0) rfl;have Q:=zaL.of q3;refine D<|zaM<|have qb:=zCF b_f0 r.at_;zah<|zno K K<|Z zaO K zR<|zr 0 [iV r.at_.chapter,iV r.at_.line,iV r.at_.word] e9.sub Q zaE zR K<|have g5:=v6.t a9;zi e9 K Tryz.call115 (zmc e9.sub (t:=b) (b_f0.up g5) (b_c.up g5) (p:=r.at_))<|fun o J1 v8 H g0 z0=>?_;obtain ⟨J2,z1,f53⟩:=z0;rw[← z1] at f53;have w1:=f53.le;refine zH o K<|D<|zav<|zk o K<|zG f53 zJ K<|zgL K K K<|zp K<|zaK (d:=39) K (fun g6=>?_) (fun g6=>?_)
  ·refine zao 6 K<|zd K<|D<|zaD K (fun v9=>?_) (fun v9=>?_)
   ·refine zw<|za K<|ze<|zN<|zaq<|zN<|zaq<|zf zhC<|⟨v8,_,K,g0.done,?_⟩;refine zP ?_
    first|exact zfI hr (by have q_:((zdw b r.at_).getD [])=[]:=zee (by have q2_:=g6;omega);simp[ziB,q_])|exact (zfI hr (by have q_:((zdw b r.at_).getD [])=[]:=zee (by have q2_:=g6;omega);simp[ziB,q_])).symm
   cases v9
  refine X K<|Z zaO K zcg<|X K<|Y 3 g0.sub (Q.up H) zda K<|X K ?_;refine zax rfl rfl (zkH rfl rfl zcW (IntWalk.i64_in _ zW)) ?_;refine X K<|zA zeg [r.kind] [iV r.kind] g0 (Enc.cons (L:=zeg) (vs:=[iV r.kind]) (x:=(r.kind)) (h:=v8) K Enc.nil) K zbx Tryz.info3 zch<|fun J3 J4 J5 A f59 h1=>X K<|zi h1 K zhJ (zhF h1.sub _ _ f59)<|fun J6 J7 w0 B g z2=>?_;subst z2;refine X K<|zdJ K K<|zb K<|D<|zaD K (fun p7=>?_) (fun p7=>?_)
  ·refine zw<|za K<|ze<|zN<|zaq<|zN<|zaq<|zf zhC<|⟨w0,_,K,g.done,?_⟩;refine zP ?_
   first|exact zfI hr (by have q_:=p7;simp at q_;simp[ziB,q_])|exact (zfI hr (by have q_:=p7;simp at q_;simp[ziB,q_])).symm
  refine zgg<|zGz ([4,8]++zbP 47 29) (G:=Heap) (fun g9=>[]) (fun g9 w'=>Le w0 g9∧St h w g9 w' [[]]∧(ziB b r=true)) ?_ ?_
  ·have hkd:1≤r.kind∧r.kind≤3:=by have q_:=p7;simp[inB] at q_;omega
   have hol:=zHk ht r.at_ r.at_.word.toNat
   rcases (show r.kind=1∨r.kind=2∨r.kind=3 by omega) with I|I|I
   ·refine zah<|Z zaO K zcg<|Y 3 g.sub (Q.up ((H.t A).t B)) zda K ?_;refine zax rfl rfl (zex rfl rfl (show _=((1:Nat):Int) by rw[I];rfl) rfl zjh ziw) ?_;have z3:=((g5.t H).t A).t B;refine zr 3 [iV 0,.func (.func 289) #[] #[],.func (.func 290) #[] #[]] g.sub (K0.up z3) Tryz.isAgg251 ziw K<|zaf g Tryz.zeroValue251 K K<|fun J8 J9 q4=>zq 1 q4 K ziw<|fun K1 q5=>?_;obtain ⟨K2,s,q6,h2⟩:=q5.freeze (k:=1) rfl;have g1:=zaL.of q6;refine D<|zaM ?_;have K3:=((H.t A).t B).t s
    rcases zbN ((!(zey (([(r.at_.word)])) (0) ((((((zdw (b) (r.at_)).getD []).length:Int)-1)+0))))) with e8|e8
    ·have b0:=e8;have z4:=((H.t A).t B).t s;refine ziZ (dsts:=(zbP 51 25)) h2 zbh<|zL (zbw o K)<|zL (zrE (f53.up ((A.t B).t s)) K zJ)<|zL (zpf K K zbj)<|zL (zh zeU K zI)<|zas (fun S T C P F e _ _=>(zm 0 (P.sub F) g1 zO K))<|zL (zkU K K zbj)<|zL (zh zaO K zR)<|zL (zh zaC K zI)<|zas (fun S T C P F e _ _=>(zm 2 (P.sub F) (Q.up z4) zO K))<|zbq (.res (fun h' res_=>Sl zeg h' res_ ([r.at_.word])) (fun _ _ _ hl f=>f.up hl)) ?_ ?_
     ·intro S T C P F e _ _;have q7:=St.start F;exact zA zeg [r.at_.word] [iV r.at_.word] q7 (Enc.cons (L:=zeg) (vs:=[iV r.at_.word]) (x:=(r.at_.word)) (h:=S) K Enc.nil) K zbx Tryz.info3 zch<|fun K4 K5 K6 z6 f92 q8=>zl ⟨_,_,K,q8,_,K,f92⟩
     refine zbq (.det (.bool (zey (([r.at_.word])) 0 ((((((zdw b r.at_).getD []).length:Int)-1)+0))))) ?_ ?_
     ·intro S T C P F e _ _ gv9_0 gf9_0;have h4:=St.start F;refine zi h4 K zhJ (zhF h4.sub _ _ gf9_0)<|fun K7 K8 K9 w3 j2 q9=>?_;subst q9;exact zl ⟨_,_,K,j2,(),K,trivial⟩
     refine zL (Run.lit (zpH K) b0)<|zL (znK K)<|zdZ K<|zdZ K<|zdZ K<|zdZ K<|zdZ K<|zdZ K<|zdZ K<|zdZ K<|zdZ K<|zdZ K<|zdZ K<|zL (zsj (v:=(.bool _)) K K)<|zdy<|fun j3 z7 _ w4 j4 _ _ _ _ _ _ _ _ _ _ _ _ _ _ _ _ _ _ gv9_0x107 gf9_0x107 _ _ _ _ _ _ _ _ _ _ _ _ _ _ _ _ _ _ _ _ _ _ _ _ _ _ _ _ _ _=>zbT.fin K<|zF<|zaD K (fun h5=>?_) (fun h5=>?_)
     ·refine zw<|za K<|ze<|zN<|zaq<|zN<|zaq<|zf zhC<|⟨j3,_,K,j4.done,?_⟩;refine zP ?_
      first|exact zfI hr (by have q_:=e8;simp at q_;simp[ziB,I,q_])|exact (zfI hr (by have q_:=e8;simp at q_;simp[ziB,I,q_])).symm
     cases h5
    have b0:=e8;have g2:=((H.t A).t B).t s;refine ziZ (dsts:=(zbP 51 25)) h2 zbh<|zL (zbw o K)<|zL (zrE (f53.up ((A.t B).t s)) K zJ)<|zL (zpf K K zbj)<|zL (zh zeU K zI)<|zas (fun S T C P F e _ _=>(zm 0 (P.sub F) g1 zO K))<|zL (zkU K K zbj)<|zL (zh zaO K zR)<|zL (zh zaC K zI)<|zas (fun S T C P F e _ _=>(zm 2 (P.sub F) (Q.up g2) zO K))<|zbq (.res (fun h' res_=>Sl zeg h' res_ ([r.at_.word])) (fun _ _ _ hl f=>f.up hl)) ?_ ?_
    ·intro S T C P F e _ _;have j5:=St.start F;exact zA zeg [r.at_.word] [iV r.at_.word] j5 (Enc.cons (L:=zeg) (vs:=[iV r.at_.word]) (x:=(r.at_.word)) (h:=S) K Enc.nil) K zbx Tryz.info3 zch<|fun z8 z9 A0 w5 f113 j6=>zl ⟨_,_,K,j6,_,K,f113⟩
    refine zbq (.det (.bool (zey (([r.at_.word])) 0 ((((((zdw b r.at_).getD []).length:Int)-1)+0))))) ?_ ?_
    ·intro S T C P F e _ _ gv9_0 gf9_0;have c5:=St.start F;refine zi c5 K zhJ (zhF c5.sub _ _ gf9_0)<|fun A1 A2 A3 w6 j7 r0=>?_;subst r0;exact zl ⟨_,_,K,j7,(),K,trivial⟩
    refine zL (Run.lit (zpH K) b0)<|zL (znK K)<|zgp ⟨rfl,(zh zeU K Tryz.sizeOf248)⟩<|zjL (fun S T C P F e _ _ _ _=>⟨rfl,(zm 1 (P.sub F) g1 Tryz.isAgg248 K)⟩)<|zgp ⟨rfl,(zbw o K)⟩<|zgp ⟨rfl,(zh zaO K zR)⟩<|zgp ⟨rfl,(zh zaC K zI)⟩<|zjL (fun S T C P F e _ _ _ _=>⟨rfl,(zm 2 (P.sub F) (Q.up g2) zO K)⟩)<|zbq (.det (zae ((zie (((zdw b r.at_).getD [])) (r.at_.word).toNat)))) ?_ ?_
    ·intro S T C P F e _ _ _ _ _ _;have c6:=St.start F;refine X K ?_;refine zau c6 rfl rfl rfl Tryz.call143 rfl (zra c6.sub (f53.up (((A.t B).t s).trans P)) _ (by have q_:=e8;simp[inB] at q_;omega)) ?_;intro A4 A5 A6 w7 j8 r1;subst r1;exact zl ⟨_,_,K,j8,(),K,trivial⟩
    refine zgp ⟨rfl,(zh zaO K zap)⟩<|zjL (fun S T C P F e _ _ _ _=>⟨rfl,(zm 4 (P.sub F) (Q.up g2) zaZ K)⟩)<|zbq (.det (.bool ((decide ((r.word)=[]))))) ?_ ?_
    ·intro S T C P F e _ _ _ _ _ _ _ _;have c7:=St.start F;refine X K ?_;refine zgh (fs:=[]) (cs:=[]) c7 rfl rfl rfl rfl Tryz.call289 rfl (zxC c7.sub _ (by first|assumption|decide|omega|(simp[big];done)|(simp[big];omega)) _ (by first|assumption|decide|omega|(simp[big];done)|(simp[big];omega))) ?_;intro A7 A8 A9 w9 j9 r2;subst r2;exact zl ⟨_,_,K,j9,(),K,trivial⟩
    refine zgp ⟨rfl,(zpH K)⟩<|zL (zoe (v:=(.bool _)) K K)<|zdy<|fun c8 B0 _ k0 c9 _ _ _ _ _ _ _ _ _ _ _ _ _ _ _ _ _ _ gv9_0x142 gf9_0x142 _ _ _ _ _ _ _ _ _ _ _ _ _ _ _ _ _ _ _ _ _ _ _ _ _ _ _ _ _ _=>zbT.fin K<|zF<|zaD K (fun b8=>?_) (fun b8=>?_)
    ·refine zw<|za K<|ze<|zN<|zaq<|zN<|zaq<|zf zhC<|⟨c8,_,K,c9.done,?_⟩;refine zP ?_
     first|exact zfI hr (by have q_:=b8;first|(simp at q_;simp[ziB,zkj,I,q_];done)|(simp at q_;cases hwb:zgA r.word <;> simp_all[ziB,zkj]))|exact (zfI hr (by have q_:=b8;first|(simp at q_;simp[ziB,zkj,I,q_];done)|(simp at q_;cases hwb:zgA r.word <;> simp_all[ziB,zkj]))).symm
    refine zgg<|⟨c8,trivial,?_,(s.t k0),c9.take 1,?_⟩
    ·exact zba
    have q1_:=g6;have q2_:=e8;have q3_:=b8;have q4_:((zdw b r.at_).getD [])≠[]:=fun e_=>q1_ (by rw[e_];rfl);simp at q2_ q3_;simp[ziB,zkj,I,q2_,q3_,q4_];try rfl
   ·refine zah<|Z zaO K zcg<|Y 3 g.sub (Q.up ((H.t A).t B)) zda K ?_;refine zax rfl rfl (zex rfl rfl (show _=((2:Nat):Int) by rw[I];rfl) rfl zjh ziw) ?_;have r3:=((g5.t H).t A).t B;refine zr 6 [iV 1,.func (.func 291) #[] #[],.func (.func 292) #[] #[]] g.sub (K0.up r3) Tryz.isAgg251 ziw K<|zaf g Tryz.zeroValue251 K K<|fun B1 B2 k1=>zq 1 k1 K ziw<|fun B3 k2=>?_;obtain ⟨B4,l,k3,d0⟩:=k2.freeze (k:=1) rfl;have b2:=zaL.of k3;refine D<|zaM ?_;have B5:=((H.t A).t B).t l
    rcases zbN ((!(zey (([(r.at_.word)])) (0) ((((((zdw (b) (r.at_)).getD []).length:Int)-1)+1))))) with u|u
    ·have a0:=u;have r4:=((H.t A).t B).t l;refine ziZ (dsts:=(zbP 51 25)) d0 zbh<|zL (zbw o K)<|zL (zrE (f53.up ((A.t B).t l)) K zJ)<|zL (zpf K K zbj)<|zL (zh zeU K zI)<|zas (fun S T C P F e _ _=>(zm 0 (P.sub F) b2 zO K))<|zL (zkU K K zbj)<|zL (zh zaO K zR)<|zL (zh zaC K zI)<|zas (fun S T C P F e _ _=>(zm 2 (P.sub F) (Q.up r4) zO K))<|zbq (.res (fun h' res_=>Sl zeg h' res_ ([r.at_.word])) (fun _ _ _ hl f=>f.up hl)) ?_ ?_
     ·intro S T C P F e _ _;have k4:=St.start F;exact zA zeg [r.at_.word] [iV r.at_.word] k4 (Enc.cons (L:=zeg) (vs:=[iV r.at_.word]) (x:=(r.at_.word)) (h:=S) K Enc.nil) K zbx Tryz.info3 zch<|fun B6 B7 B8 x0 f161 k5=>zl ⟨_,_,K,k5,_,K,f161⟩
     refine zbq (.det (.bool (zey (([r.at_.word])) 0 ((((((zdw b r.at_).getD []).length:Int)-1)+1))))) ?_ ?_
     ·intro S T C P F e _ _ gv9_0 gf9_0;have d1:=St.start F;refine zi d1 K zhJ (zhF d1.sub _ _ gf9_0)<|fun B9 C0 C1 x1 k6 r5=>?_;subst r5;exact zl ⟨_,_,K,k6,(),K,trivial⟩
     refine zL (Run.lit (zpH K) a0)<|zL (znK K)<|zdZ K<|zdZ K<|zdZ K<|zdZ K<|zdZ K<|zdZ K<|zdZ K<|zdZ K<|zdZ K<|zdZ K<|zdZ K<|zL (zsj (v:=(.bool _)) K K)<|zdy<|fun k7 C2 _ x2 k8 _ _ _ _ _ _ _ _ _ _ _ _ _ _ _ _ _ _ gv9_0x176 gf9_0x176 _ _ _ _ _ _ _ _ _ _ _ _ _ _ _ _ _ _ _ _ _ _ _ _ _ _ _ _ _ _=>zbT.fin K<|zF<|zaD K (fun h6=>?_) (fun h6=>?_)
     ·refine zw<|za K<|ze<|zN<|zaq<|zN<|zaq<|zf zhC<|⟨k7,_,K,k8.done,?_⟩;refine zP ?_
      first|exact zfI hr (by have q_:=u;simp at q_;simp[ziB,I,q_])|exact (zfI hr (by have q_:=u;simp at q_;simp[ziB,I,q_])).symm
     cases h6
    have a0:=u;have g3:=((H.t A).t B).t l;refine ziZ (dsts:=(zbP 51 25)) d0 zbh<|zL (zbw o K)<|zL (zrE (f53.up ((A.t B).t l)) K zJ)<|zL (zpf K K zbj)<|zL (zh zeU K zI)<|zas (fun S T C P F e _ _=>(zm 0 (P.sub F) b2 zO K))<|zL (zkU K K zbj)<|zL (zh zaO K zR)<|zL (zh zaC K zI)<|zas (fun S T C P F e _ _=>(zm 2 (P.sub F) (Q.up g3) zO K))<|zbq (.res (fun h' res_=>Sl zeg h' res_ ([r.at_.word])) (fun _ _ _ hl f=>f.up hl)) ?_ ?_
    ·intro S T C P F e _ _;have k9:=St.start F;exact zA zeg [r.at_.word] [iV r.at_.word] k9 (Enc.cons (L:=zeg) (vs:=[iV r.at_.word]) (x:=(r.at_.word)) (h:=S) K Enc.nil) K zbx Tryz.info3 zch<|fun C3 C4 C5 x3 f182 l0=>zl ⟨_,_,K,l0,_,K,f182⟩
    refine zbq (.det (.bool (zey (([r.at_.word])) 0 ((((((zdw b r.at_).getD []).length:Int)-1)+1))))) ?_ ?_
    ·intro S T C P F e _ _ gv9_0 gf9_0;have d2:=St.start F;refine zi d2 K zhJ (zhF d2.sub _ _ gf9_0)<|fun C6 C7 C8 x4 l1 r6=>?_;subst r6;exact zl ⟨_,_,K,l1,(),K,trivial⟩
    refine zL (Run.lit (zpH K) a0)<|zL (znK K)<|zgp ⟨rfl,(zh zeU K Tryz.sizeOf248)⟩<|zjL (fun S T C P F e _ _ _ _=>⟨rfl,(zm 1 (P.sub F) b2 Tryz.isAgg248 K)⟩)<|zgp ⟨rfl,(zbw o K)⟩<|zgp ⟨rfl,(zh zaO K zR)⟩<|zgp ⟨rfl,(zh zaC K zI)⟩<|zjL (fun S T C P F e _ _ _ _=>⟨rfl,(zm 2 (P.sub F) (Q.up g3) zO K)⟩)<|zbq (.det (zae ((zie (((zdw b r.at_).getD [])) (r.at_.word).toNat)))) ?_ ?_
    ·intro S T C P F e _ _ _ _ _ _;have d3:=St.start F;refine X K ?_;refine zau d3 rfl rfl rfl Tryz.call143 rfl (zra d3.sub (f53.up (((A.t B).t l).trans P)) _ (by have q_:=u;simp[inB] at q_;omega)) ?_;intro C9 D0 D1 x5 l2 r7;subst r7;exact zl ⟨_,_,K,l2,(),K,trivial⟩
    refine zgp ⟨rfl,(zh zaO K zap)⟩<|zjL (fun S T C P F e _ _ _ _=>⟨rfl,(zm 4 (P.sub F) (Q.up g3) zaZ K)⟩)<|zbq (.det (.bool ((zgA r.word)))) ?_ ?_
    ·intro S T C P F e _ _ _ _ _ _ _ _;have d4:=St.start F;refine X K ?_;refine zgh (fs:=[]) (cs:=[]) d4 rfl rfl rfl rfl Tryz.call291 rfl (zxA d4.sub _ (by first|assumption|decide|omega|(simp[big];done)|(simp[big];omega)) _ (by first|assumption|decide|omega|(simp[big];done)|(simp[big];omega))) ?_;intro D2 D3 D4 x6 l3 r8;subst r8;exact zl ⟨_,_,K,l3,(),K,trivial⟩
    refine zgp ⟨rfl,(zpH K)⟩<|zL (zoe (v:=(.bool _)) K K)<|zdy<|fun d5 D5 _ l4 d6 _ _ _ _ _ _ _ _ _ _ _ _ _ _ _ _ _ _ gv9_0x211 gf9_0x211 _ _ _ _ _ _ _ _ _ _ _ _ _ _ _ _ _ _ _ _ _ _ _ _ _ _ _ _ _ _=>zbT.fin K<|zF<|zaD K (fun b9=>?_) (fun b9=>?_)
    ·refine zw<|za K<|ze<|zN<|zaq<|zN<|zaq<|zf zhC<|⟨d5,_,K,d6.done,?_⟩;refine zP ?_
     first|exact zfI hr (by have q_:=b9;first|(simp at q_;simp[ziB,zkj,I,q_];done)|(simp at q_;cases hwb:zgA r.word <;> simp_all[ziB,zkj]))|exact (zfI hr (by have q_:=b9;first|(simp at q_;simp[ziB,zkj,I,q_];done)|(simp at q_;cases hwb:zgA r.word <;> simp_all[ziB,zkj]))).symm
    refine zgg<|⟨d5,trivial,?_,(l.t l4),d6.take 1,?_⟩
    ·exact zba
    have q1_:=g6;have q2_:=u;have q3_:=b9;have q4_:((zdw b r.at_).getD [])≠[]:=fun e_=>q1_ (by rw[e_];rfl);simp at q2_ q3_;simp[ziB,zkj,I,q2_,q3_,q4_];try rfl
   refine zah<|Z zaO K zcg<|Y 3 g.sub (Q.up ((H.t A).t B)) zda K ?_;refine zax rfl rfl (zex rfl rfl (show _=((3:Nat):Int) by rw[I];rfl) rfl zjh ziw) ?_;have r9:=((g5.t H).t A).t B;refine zr 9 [iV 0,.func (.func 293) #[] #[],.func (.func 294) #[] #[]] g.sub (K0.up r9) Tryz.isAgg251 ziw K<|zaf g Tryz.zeroValue251 K K<|fun D6 D7 l5=>zq 1 l5 K ziw<|fun D8 l6=>?_;obtain ⟨D9,m,l7,d7⟩:=l6.freeze (k:=1) rfl;have b3:=zaL.of l7;refine D<|zaM ?_;have E0:=((H.t A).t B).t m
   rcases zbN ((!(zey (([(r.at_.word)])) (0) ((((((zdw (b) (r.at_)).getD []).length:Int)-1)+0))))) with y|y
   ·have a1:=y;have s0:=((H.t A).t B).t m;refine ziZ (dsts:=(zbP 51 25)) d7 zbh<|zL (zbw o K)<|zL (zrE (f53.up ((A.t B).t m)) K zJ)<|zL (zpf K K zbj)<|zL (zh zeU K zI)<|zas (fun S T C P F e _ _=>(zm 0 (P.sub F) b3 zO K))<|zL (zkU K K zbj)<|zL (zh zaO K zR)<|zL (zh zaC K zI)<|zas (fun S T C P F e _ _=>(zm 2 (P.sub F) (Q.up s0) zO K))<|zbq (.res (fun h' res_=>Sl zeg h' res_ ([r.at_.word])) (fun _ _ _ hl f=>f.up hl)) ?_ ?_
    ·intro S T C P F e _ _;have l8:=St.start F;exact zA zeg [r.at_.word] [iV r.at_.word] l8 (Enc.cons (L:=zeg) (vs:=[iV r.at_.word]) (x:=(r.at_.word)) (h:=S) K Enc.nil) K zbx Tryz.info3 zch<|fun E1 E2 E3 x7 f230 l9=>zl ⟨_,_,K,l9,_,K,f230⟩
    refine zbq (.det (.bool (zey (([r.at_.word])) 0 ((((((zdw b r.at_).getD []).length:Int)-1)+0))))) ?_ ?_
    ·intro S T C P F e _ _ gv9_0 gf9_0;have d8:=St.start F;refine zi d8 K zhJ (zhF d8.sub _ _ gf9_0)<|fun E4 E5 E6 x8 m0 s1=>?_;subst s1;exact zl ⟨_,_,K,m0,(),K,trivial⟩
    refine zL (Run.lit (zpH K) a1)<|zL (znK K)<|zdZ K<|zdZ K<|zdZ K<|zdZ K<|zdZ K<|zdZ K<|zdZ K<|zdZ K<|zdZ K<|zdZ K<|zdZ K<|zL (zsj (v:=(.bool _)) K K)<|zdy<|fun m1 E7 _ x9 m2 _ _ _ _ _ _ _ _ _ _ _ _ _ _ _ _ _ _ gv9_0x245 gf9_0x245 _ _ _ _ _ _ _ _ _ _ _ _ _ _ _ _ _ _ _ _ _ _ _ _ _ _ _ _ _ _=>zbT.fin K<|zF<|zaD K (fun h7=>?_) (fun h7=>?_)
    ·refine zw<|za K<|ze<|zN<|zaq<|zN<|zaq<|zf zhC<|⟨m1,_,K,m2.done,?_⟩;refine zP ?_
     first|exact zfI hr (by have q_:=y;simp at q_;simp[ziB,I,q_])|exact (zfI hr (by have q_:=y;simp at q_;simp[ziB,I,q_])).symm
    cases h7
   have a1:=y;have g4:=((H.t A).t B).t m;refine ziZ (dsts:=(zbP 51 25)) d7 zbh<|zL (zbw o K)<|zL (zrE (f53.up ((A.t B).t m)) K zJ)<|zL (zpf K K zbj)<|zL (zh zeU K zI)<|zas (fun S T C P F e _ _=>(zm 0 (P.sub F) b3 zO K))<|zL (zkU K K zbj)<|zL (zh zaO K zR)<|zL (zh zaC K zI)<|zas (fun S T C P F e _ _=>(zm 2 (P.sub F) (Q.up g4) zO K))<|zbq (.res (fun h' res_=>Sl zeg h' res_ ([r.at_.word])) (fun _ _ _ hl f=>f.up hl)) ?_ ?_
   ·intro S T C P F e _ _;have m3:=St.start F;exact zA zeg [r.at_.word] [iV r.at_.word] m3 (Enc.cons (L:=zeg) (vs:=[iV r.at_.word]) (x:=(r.at_.word)) (h:=S) K Enc.nil) K zbx Tryz.info3 zch<|fun E8 E9 F0 y0 f251 m4=>zl ⟨_,_,K,m4,_,K,f251⟩
   refine zbq (.det (.bool (zey (([r.at_.word])) 0 ((((((zdw b r.at_).getD []).length:Int)-1)+0))))) ?_ ?_
   ·intro S T C P F e _ _ gv9_0 gf9_0;have d9:=St.start F;refine zi d9 K zhJ (zhF d9.sub _ _ gf9_0)<|fun F1 F2 F3 y1 m5 s2=>?_;subst s2;exact zl ⟨_,_,K,m5,(),K,trivial⟩
   refine zL (Run.lit (zpH K) a1)<|zL (znK K)<|zgp ⟨rfl,(zh zeU K Tryz.sizeOf248)⟩<|zjL (fun S T C P F e _ _ _ _=>⟨rfl,(zm 1 (P.sub F) b3 Tryz.isAgg248 K)⟩)<|zgp ⟨rfl,(zbw o K)⟩<|zgp ⟨rfl,(zh zaO K zR)⟩<|zgp ⟨rfl,(zh zaC K zI)⟩<|zjL (fun S T C P F e _ _ _ _=>⟨rfl,(zm 2 (P.sub F) (Q.up g4) zO K)⟩)<|zbq (.det (zae ((zie (((zdw b r.at_).getD [])) (r.at_.word).toNat)))) ?_ ?_
   ·intro S T C P F e _ _ _ _ _ _;have e0:=St.start F;refine X K ?_;refine zau e0 rfl rfl rfl Tryz.call143 rfl (zra e0.sub (f53.up (((A.t B).t m).trans P)) _ (by have q_:=y;simp[inB] at q_;omega)) ?_;intro F4 F5 F6 y2 m6 s3;subst s3;exact zl ⟨_,_,K,m6,(),K,trivial⟩
   refine zgp ⟨rfl,(zh zaO K zap)⟩<|zjL (fun S T C P F e _ _ _ _=>⟨rfl,(zm 4 (P.sub F) (Q.up g4) zaZ K)⟩)<|zbq (.det (.bool ((zgA r.word && decide ((r.word)≠(((zie (((zdw b r.at_).getD [])) (r.at_.word).toNat)))))))) ?_ ?_
   ·intro S T C P F e _ _ _ _ _ _ _ _;have e1:=St.start F;refine X K ?_;refine zgh (fs:=[]) (cs:=[]) e1 rfl rfl rfl rfl Tryz.call293 rfl (zxy e1.sub _ (by first|assumption|decide|omega|(simp[big];done)|(simp[big];omega)) _ (by first|assumption|decide|omega|(simp[big];done)|(simp[big];omega))) ?_;intro F7 F8 F9 y3 m7 s4;subst s4;exact zl ⟨_,_,K,m7,(),K,trivial⟩
   refine zgp ⟨rfl,(zpH K)⟩<|zL (zoe (v:=(.bool _)) K K)<|zdy<|fun e2 G0 _ m8 e3 _ _ _ _ _ _ _ _ _ _ _ _ _ _ _ _ _ _ gv9_0x280 gf9_0x280 _ _ _ _ _ _ _ _ _ _ _ _ _ _ _ _ _ _ _ _ _ _ _ _ _ _ _ _ _ _=>zbT.fin K<|zF<|zaD K (fun c0=>?_) (fun c0=>?_)
   ·refine zw<|za K<|ze<|zN<|zaq<|zN<|zaq<|zf zhC<|⟨e2,_,K,e3.done,?_⟩;refine zP ?_
    first|exact zfI hr (by have q_:=c0;first|(simp at q_;simp[ziB,zkj,I,q_];done)|(simp at q_;cases hwb:zgA r.word <;> simp_all[ziB,zkj]))|exact (zfI hr (by have q_:=c0;first|(simp at q_;simp[ziB,zkj,I,q_];done)|(simp at q_;cases hwb:zgA r.word <;> simp_all[ziB,zkj]))).symm
   refine zgg<|⟨e2,trivial,?_,(m.t m8),e3.take 1,?_⟩
   ·exact zba
   have q1_:=g6;have q2_:=y;have q3_:=c0;have q4_:((zdw b r.at_).getD [])≠[]:=fun e_=>q1_ (by rw[e_];rfl);simp at q2_ q3_;simp[ziB,zkj,I,q2_,q3_,q4_];try rfl
  rintro g9 _ L0 ⟨a3,c1,hQ⟩;refine zav<|N K<|zgL K K K<|D<|zV K (fun s5=>?_) (fun s5=>?_)
  ·refine zmO<|zfu<|zls<|zF<|zah<|zo K zbj<|N K<|D<|have s6:=((((n.t a9).t H).t A).t B).t a3;⟨⟨i+1,g9⟩,⟨rfl,trivial⟩,?_,⟨s6,c1.take 0,?_,?_⟩,?_⟩
   ·exact zba
   ·first|omega|(simp;omega)
   ·intro j hj
    rcases zbK (zca hj) with h_|h_
    ·exact hA j h_
    ·rw[h_,zpG hr,hQ,zdQ]
     first|(rw[show i=0 by omega];rfl)|(rw[zjQ zW hq];simp only[zgd,zK,zX];omega)
   show c.readings.length-(i+1)<c.readings.length-i;omega
  refine zgg<|zw<|Z zcP K zfy<|have s7:=((((((a5.t a6).t n).t a9).t H).t A).t B).t a3;Y 1 c1.sub (g7.up s7) zgl K<|N K<|zja K K zbj K ?_;obtain ⟨q,hq⟩:∃ y_,(c.readings)[(i-1)]?=some y_:=zdl zW;have s8:=(((g5.t H).t A).t B).t a3;obtain ⟨G1,G2,_,m9,o0,hr_q⟩:=Sl.elem (c_f0.up s8) hq;obtain ⟨rfl,y4,o1⟩:=hr_q;simp only[big] at o1;refine zax rfl rfl (zcD m9 rfl rfl (hk:=(show _=(((i-1):Nat):Int) by omega)) (hu:=zco) (hz:=zdo)) ?_;refine E c1.sub o0 zjk zdo K<|zaf c1 ziU K K<|fun G3 G4 o2=>zq 1 o2 K zdo<|fun G5 o3=>?_;obtain ⟨G6,b4,o4,a2⟩:=o3.freeze (k:=1) rfl;have e4:=zaL.of o4;refine D<|zw<|Z zaO K zR<|zr 0 [iV q.at_.chapter,iV q.at_.line,iV q.at_.word] a2.sub e4 zaE zR K<|Z zaO K zR<|have s9:=(((H.t A).t B).t a3).t b4;zr 0 [iV r.at_.chapter,iV r.at_.line,iV r.at_.word] a2.sub (Q.up s9) zaE zR K<|zi a2 K Tryz.call144 (zzM a2.sub (a:=q.at_) (b:=r.at_))<|fun G7 G8 c2 b5 z t0=>?_;subst t0;refine U K<|D<|zw<|N K<|zhn K K K<|zp K<|zaK (d:=91) K (fun t1=>?_) (fun t1=>?_)
  ·refine zao 7 K<|zd K<|D<|zaD K (fun h8=>?_) (fun h8=>?_)
   ·refine zw<|za K<|ze<|zaq<|zN<|zaq<|zf zhC<|⟨c2,_,K,z.done,?_⟩;refine zP ?_
    first|exact zfI hr (by rw[zjQ zW hq,zcU (show ¬ zmi q.at_ r.at_<0 by omega),zcU (show ¬ zmi q.at_ r.at_=0 by omega)];simp)|exact (zfI hr (by rw[zjQ zW hq,zcU (show ¬ zmi q.at_ r.at_<0 by omega),zcU (show ¬ zmi q.at_ r.at_=0 by omega)];simp)).symm
   cases h8
  refine X K<|N K<|X K<|zgL K K K<|X K<|zp K<|zaK (d:=94) K (fun t2=>?_) (fun t2=>?_)
  ·refine X K<|Z zaO K zcg<|X K<|Y 3 z.sub (e4.up b5) zda K<|X K<|zar K<|X K<|zd K<|zb K<|D<|zV K (fun t3=>?_) (fun t3=>?_)
   ·refine zw<|za K<|ze<|zaq<|zN<|zaq<|zf zhC<|⟨c2,_,K,z.done,?_⟩;refine zP ?_
    first|exact zfI hr (by rw[zjQ zW hq,zcU (show ¬ zmi q.at_ r.at_<0 by omega),zcU (show ¬ q.kind=2 by omega)];simp)|exact (zfI hr (by rw[zjQ zW hq,zcU (show ¬ zmi q.at_ r.at_<0 by omega),zcU (show ¬ q.kind=2 by omega)];simp)).symm
   refine zbO<|zaF<|zo K zbj<|N K<|D<|have t4:=((((((n.t a9).t H).t A).t B).t a3).t b4).t b5;⟨⟨i+1,c2⟩,⟨rfl,trivial⟩,?_,⟨t4,z.take 0,?_,?_⟩,?_⟩
   ·exact zba
   ·first|omega|(simp;omega)
   ·intro j hj
    rcases zbK (zca hj) with h_|h_
    ·exact hA j h_
    ·rw[h_,zpG hr,hQ,zdQ]
     first|(rw[show i=0 by omega];rfl)|(rw[zjQ zW hq];simp only[zgd,zK,zX];omega)
   show c.readings.length-(i+1)<c.readings.length-i;omega
  refine zao 3 K<|X K<|zb K<|zb K<|D<|zaD K (fun h9=>?_) (fun h9=>?_)
  ·cases h9
  refine zbO<|zaF<|zo K zbj<|N K<|D<|have t5:=((((((n.t a9).t H).t A).t B).t a3).t b4).t b5;⟨⟨i+1,c2⟩,⟨rfl,trivial⟩,?_,⟨t5,z.take 0,?_,?_⟩,?_⟩
  ·exact zba
  ·first|omega|(simp;omega)
  ·intro j hj
   rcases zbK (zca hj) with h_|h_
   ·exact hA j h_
   ·rw[h_,zpG hr,hQ,zdQ]
    first|(rw[show i=0 by omega];rfl)|(rw[zjQ zW hq];simp only[zgd,zK,zX];omega)
  show c.readings.length-(i+1)<c.readings.length-i;omega
 refine zdx<|zF<|zav<|zno K K<|E a8.sub (g7.up ((a5.t a6).t n)) zjY zgw K ?_;have c3:=p5.t n;refine zau a8 rfl rfl rfl Tryz.call145 rfl (zvj a8.sub (b:=b) (b_f0.up c3) (b_c.up c3) (c:=c) (c_f0.up c3) (K0.up c3) (by exact ht) (by intro j_ hj_;exact hA j_ zW) zW) ?_;intro G9 H0 j0 y5 o5 t6;obtain ⟨t7,rfl,f324⟩:=t6;have v2:=f324.le;refine zU K (zEJ (v:=t7) K zaY K zcJ K)<|zG f324 zaJ K<|N K<|D<|zT ?_;refine zaI ([4,12]++zbP 106 8) (G:=Nat×Heap) (fun ⟨k,a4⟩=>[(106,iV (k:Int))]) (fun ⟨k,a4⟩ w'=>Le j0 a4∧St h w a4 w' []∧(k≤(zrh b c).chapters.length)∧(∀ (j:Nat) x,j<k→(zrh b c).chapters[j]?=some x→zqL x=true)) (fun ⟨k,a4⟩=>(zrh b c).chapters.length-k) ⟨0,j0⟩ ⟨rfl,trivial⟩ ⟨Le.refl _,o5,zbB,(by intro j x hj;omega)⟩ ?_;rintro ⟨k,a4⟩ _ H1 ⟨e5,b6,hk,hB⟩;refine zw<|zM K<|D<|zaM<|zV K (fun t8=>?_) (fun t8=>?_)
 ·refine zaS<|zT<|zw ?_;obtain ⟨x,hx⟩:∃ y_,((zrh b c).chapters)[k]?=some y_:=zdl zW;obtain ⟨H2,H3,_,o6,o7,hr_x⟩:=Sl.elem (f324.up e5) hx;obtain ⟨H4,rfl,f335⟩:=hr_x;have v3:=f335.le;refine zx o6 zaJ zbA K<|E b6.sub o7 zjl zbA K<|zaf b6 zgN K K<|fun H5 H6 o8=>zaU 0 o8 K (zbI K (zbI f335.one zgB)) zbA<|fun H7 o9=>?_;obtain ⟨H8,e6,p0,b7⟩:=o9.freeze (k:=0) rfl;have p1:=zaL.of p0;refine D<|zw<|Z zaP K zcj<|Y 1 b7.sub p1 zdd K ?_;refine zau b7 rfl rfl rfl Tryz.call146 rfl (zlI b7.sub (f335.up e6) (fun x_=>(!inB (x_).length 1 10)) Tryz.call147 (fun x_ h_ w_ vs_ le_ hs_ hx_ hr_ u_ hu_=>by cases hu_;obtain ⟨v_,hr1_,hr2_⟩:=hr_;cases hr1_;exact zsP hs_ hr2_)) ?_;intro H9 I0 j1 p2 e7 t9;subst t9;refine D<|zaD K (fun c4=>?_) (fun c4=>?_)
  ·refine zw<|za K<|ze<|zaq<|zN<|zaq<|zf zhC<|⟨j1,_,K,e7.done,?_⟩;refine zP ?_
   first|exact ztq hx (by have q_:=c4;rw[zwl] at q_;simpa [zqL] using q_)|exact (ztq hx (by have q_:=c4;rw[zwl] at q_;simpa [zqL] using q_)).symm
  refine zbO<|zaF<|zo K zbj<|N K<|D<|⟨⟨k+1,j1⟩,⟨rfl,trivial⟩,?_,⟨((e5.t e6).t p2),e7.take 0,?_,?_⟩,?_⟩
  ·exact zba
  ·first|omega|(simp;omega)
  ·intro j x_ hj hx_
   rcases zbK (zca hj) with h_|h_
   ·exact hB j x_ h_ hx_
   ·rw[h_] at hx_;rw[hx] at hx_;cases hx_;have q_:=c4;rw[zwl] at q_;simpa [zqL] using q_
  show (zrh b c).chapters.length-(k+1)<(zrh b c).chapters.length-k;omega
 refine zdx<|zF<|zw<|za K<|ze<|zf zhC<|⟨a4,_,K,b6.done,?_⟩;refine zP ?_
 first|exact zvf hid.1 hid.2 (fun j hj=>hA j zW) (fun j x hx=>hB j x (by have:=(k_List_getElem__eq_some_iff.1 hx).1;omega) hx)|exact (zvf hid.1 hid.2 (fun j hj=>hA j zW) (fun j x hx=>hB j x (by have:=(k_List_getElem__eq_some_iff.1 hx).1;omega) hx)).symm
theorem zqt (hs:Sub h w) (c_f0:Sl zgz h c_v0 c.readings):Calls Tryz.prog 37 #[.agg #[iV c.id,c_v0]] w (zbH h w (fun _ _ res_=>res_=.bool (zoA c))):=by
 refine zg 23 Tryz.func37 K<|have b:=zcu hs;have a:=c_f0.le;zw<|J [iV c.id,c_v0] b K<|fun n o d L F H=>za K<|D<|zav<|Z zcP K zfy<|Y 1 H.sub F zgl K<|zG (c_f0.up L) zco K<|zhn K K K<|D<|zV K (fun f=>?_) (fun f=>?_)
 ·refine zw<|za K<|ze<|zN<|zf Tryz.results37<|⟨d,_,K,H.done,?_⟩;refine zP ?_;exact (zDQ (by simpa using f)).symm
 refine zaS<|zw<|U K<|D<|zT ?_;refine zaI ([2,3]++zbP 8 15) (G:=Nat×Heap) (fun ⟨i,C⟩=>[(3,iV (i:Int))]) (fun ⟨i,C⟩ w'=>Le d C∧St h w C w' []∧(i≤c.readings.length)∧(((c.readings.take i).any fun r=>decide (40<(r.word.length:Int)))=false)) (fun ⟨i,C⟩=>c.readings.length-i) ⟨0,d⟩ ⟨rfl,trivial⟩ ⟨Le.refl _,H,zbB,(by rfl)⟩ ?_;rintro ⟨i,C⟩ _ j ⟨B,A,hi,hA⟩;refine zav<|N K<|Z zcP K zfy<|Y 1 A.sub (F.up B) zgl K<|have P:=L.t B;zG (c_f0.up P) zco K<|zM K<|D<|zV K (fun e=>?_) (fun e=>?_)
 ·refine zaS<|zT<|zw<|Z zcP K zfy<|Y 1 A.sub (F.up B) zgl K<|N K ?_;obtain ⟨r,hr⟩:∃ y_,(c.readings)[i]?=some y_:=zdl zW;obtain ⟨l,m,_,Q,S,hr_r⟩:=Sl.elem (c_f0.up P) hr;obtain ⟨rfl,g,T⟩:=hr_r;simp only[big] at T;refine zx Q zco zdo K<|Z zaO K zap<|Y 4 A.sub S zaZ K<|zfV K zcc K<|zhn K K K<|D<|zV K (fun I=>?_) (fun I=>?_)
  ·refine zw<|za K<|ze<|zaq<|zN<|zaq<|zf Tryz.results37<|⟨C,_,K,A.done,?_⟩;refine zP ?_;exact (zCh hr (by simpa using I)).symm
  refine zbO<|zaF<|N K<|zo K zbj<|U K<|D<|⟨⟨i+1,C⟩,⟨rfl,trivial⟩,?_,⟨B,A,?_,?_⟩,?_⟩
  ·exact zba
  ·first|omega|(simp;omega)
  ·rw[zkZ hr,hA];simpa using I
  show c.readings.length-(i+1)<c.readings.length-i;omega
 refine zdx<|zF<|zw<|za K<|ze<|zf Tryz.results37<|⟨C,_,K,A.done,?_⟩;refine zP ?_;rw[zDP (by assumption) (by rw[zS zW] at hA;exact hA)]
set_option maxHeartbeats 2000000 in
theorem zAX:KeyG Tryz.prog 142 (fun x:Found=>.agg [zae x.head.stem,.int .u8 x.head.mark,zae x.word,iV x.row.at_.chapter,iV x.row.at_.line,iV x.row.at_.word,iV x.row.ref.chapter,iV x.row.ref.line,iV x.row.ref.word,.int .u8 x.row.sure].toArray):=zHe zjj (fun x y w=>Tryz.eq_Found x y w) (fun k=>Chk.struct zjj (by
 intro f hf;simp only[zaV,zbD,zec] at hf
 rcases hf with rfl|rfl|rfl
 ·exact ⟨_,zuc zcm zaj,Chk.struct zeD (by
   intro f hf;simp only[zaV,zbD,zec] at hf
   rcases hf with rfl|rfl
   ·exact ⟨_,ziQ zaZ rfl,Chk.str zcc⟩
   ·exact ⟨_,ziQ zda rfl,Chk.int Tryz.underlying5⟩)⟩
 ·exact ⟨_,ziQ zaZ rfl,Chk.str zcc⟩
 ·exact ⟨_,zuc zil zdz,Chk.struct zfG (by
   intro f hf;simp only[zaV,zbD,zec] at hf
   rcases hf with rfl|rfl|rfl
   ·exact ⟨_,zuc zaE zR,Chk.struct zaC (by
     intro f hf;simp only[zaV,zbD,zec] at hf
     rcases hf with rfl|rfl|rfl
     ·exact ⟨_,ziQ zO rfl,Chk.int zcW⟩
     ·exact ⟨_,ziQ zO rfl,Chk.int zcW⟩
     ·exact ⟨_,ziQ zO rfl,Chk.int zcW⟩)⟩
   ·exact ⟨_,zuc zjm zeo,Chk.struct Tryz.underlying138 (by
     intro f hf;simp only[zaV,zbD,zec] at hf
     rcases hf with rfl|rfl|rfl
     ·exact ⟨_,ziQ zO rfl,Chk.int zcW⟩
     ·exact ⟨_,ziQ zO rfl,Chk.int zcW⟩
     ·exact ⟨_,ziQ zO rfl,Chk.int zcW⟩)⟩
   ·exact ⟨_,ziQ zda rfl,Chk.int Tryz.underlying5⟩)⟩)) (fun k=>by rw[show (10000:Nat)=9999+1 from rfl];simp[Instr.sameBits,zae,zEd])
theorem zpi:KeyG Tryz.prog 292 (fun x:Pair=>.agg [iV x.a,iV x.b].toArray):=zEO zcW zO zI Tryz.underlying292
def _root_.Go.Proofs.Tryz.glob3:List Value:=[.func (.func 299) #[] #[],.func (.func 300) #[] #[],.func (.func 301) #[] #[]]
theorem zvm (hs:Sub h w) {t:Text} (t_f0:Sl zaN h t_v0 t.chapters):Calls Tryz.prog 299 #[.agg #[t_v0],.agg #[iV s.chapter,iV s.from_,iV s.to,iV s.as_,iV s.first]] w (zbH h w (fun _ _ res_=>res_=.bool (zkY t s))):=by
 refine zg 13 Tryz.func299 K<|have P:=zcu hs;have I:=t_f0.le;zw<|J [t_v0] P K<|fun n o p Q S T=>J [iV s.chapter,iV s.from_,iV s.to,iV s.as_,iV s.first] T K<|fun q r f B F A=>za K<|D<|zw<|Z zaY K zbW<|Y 0 A.sub (S.up B) zcJ K<|have a:=Q.t B;zG (t_f0.up a) zaJ K<|zja K K zbj K<|Z zad K zI<|Y 0 A.sub F zO K<|zA zeg [s.chapter] [iV s.chapter] A (Enc.cons (L:=zeg) (vs:=[iV s.chapter]) (x:=(s.chapter)) (h:=f) K Enc.nil) K zbx Tryz.info3 zch<|fun g i j d f16 C=>zi C K Tryz.call179 (zpt C.sub _ _ f16)<|fun l m b e H c=>?_;subst c;refine za K<|ze<|zf Tryz.results299<|⟨b,_,K,H.done,?_⟩;refine zP ?_
 first|rfl|(simp[zkY,zey];done)
theorem zvl (hs:Sub h w) {t:Text} (t_f0:Sl zaN h t_v0 t.chapters) (ht:zcz t=true) (hb:zkY t s=true):Calls Tryz.prog 300 #[.agg #[t_v0],.agg #[iV s.chapter,iV s.from_,iV s.to,iV s.as_,iV s.first]] w (zbH h w (fun _ _ res_=>res_=.bool (ziP t s))):=by
 refine zg 30 Tryz.func300 K<|have g:=zcu hs;have f:=t_f0.le;zw<|J [t_v0] g K<|fun b1 w2 h3 i j l=>J [iV s.chapter,iV s.from_,iV s.to,iV s.as_,iV s.first] l K<|fun b7 w8 y F B A=>za K<|D<|zaM ?_;have z:0≤s.chapter∧s.chapter<(t.chapters.length:Int):=by simp only[zkY,inB,zK,zX] at hb;omega
 refine zah<|Z zaY K zbW<|Y 0 A.sub (j.up F) zcJ K<|Z zad K zI<|Y 0 A.sub B zO K ?_;obtain ⟨c,hc⟩:∃ y_,(t.chapters)[s.chapter.toNat]?=some y_:=zdl zW;have m:=i.t F;obtain ⟨a0,a1,_,S,T,hr_c⟩:=Sl.elem (t_f0.up m) hc;obtain ⟨a2,rfl,f19⟩:=hr_c;have n:=f19.le;refine zax rfl rfl (zcD S rfl rfl (hk:=(show _=((s.chapter.toNat:Nat):Int) by omega)) (hu:=zaJ) (hz:=zbA)) ?_;refine Z zaP K zcj<|Y 1 A.sub T zdd K<|zG f19 zaW K<|U K<|D<|zaM ?_;have hla:zdt t s.chapter.toNat=c.lines:=by rw[zdt,hc];rfl
 have r:=zlF ht hc;refine zah<|N K<|zja K K zbj K<|Z zad K zI<|Y 1 A.sub B zO K<|zA zeg [s.from_] [iV s.from_] A (Enc.cons (L:=zeg) (vs:=[iV s.from_]) (x:=(s.from_)) (h:=y) K Enc.nil) K zbx Tryz.info3 zch<|fun a3 a4 a5 H f22 I=>zi I K Tryz.call179 (zpt I.sub _ _ f22)<|fun a6 a7 a P C o=>?_;subst o;refine zp K<|zbX (d:=20) K (fun b=>?_) (fun b=>?_)
 ·refine X K<|Z zad K zI<|X K<|Y 1 C.sub (B.up (H.t P)) zO K<|X K ?_;have hfr:0≤s.from_∧s.from_≤10:=by have q_:=b;simp[zey,inB] at q_;omega
  refine zo K zbj<|X K<|N K<|X K<|Z zad K zI<|X K<|Y 2 C.sub (B.up (H.t P)) zO K<|X K<|zA zeg [s.to] [iV s.to] C (Enc.cons (L:=zeg) (vs:=[iV s.to]) (x:=(s.to)) (h:=a) K Enc.nil) K zbx Tryz.info3 zch<|fun a8 a9 b0 u f35 Q=>X K<|zi Q K Tryz.call179 (zpt Q.sub _ _ f35)<|fun b2 b3 p v e q=>?_;subst q;refine zd K<|za K<|ze<|zf Tryz.results300<|⟨p,_,K,e.done,?_⟩;refine zP ?_
  all_goals first|(simp_all[ziP,zey];done)|(simp[ziP,zey,hla];simp_all)
 refine zao 8 K<|zb K<|za K<|ze<|zf Tryz.results300<|⟨a,_,K,C.done,?_⟩;refine zP ?_
 all_goals first|(simp_all[ziP,zey];done)|(simp[ziP,zey,hla];simp_all)
theorem zvk (hs:Sub h w) {t:Text} (t_f0:Sl zaN h t_v0 t.chapters) (hk:0≤s.from_∧s.from_≤10∧0≤s.to∧s.to≤10):Calls Tryz.prog 301 #[.agg #[t_v0],.agg #[iV s.chapter,iV s.from_,iV s.to,iV s.as_,iV s.first]] w (zbH h w (fun _ _ res_=>res_=.bool (zln s))):=by
 refine zg 23 Tryz.func301 K<|have T:=zcu hs;have S:=t_f0.le;zw<|J [t_v0] T K<|fun o p q f g a=>J [iV s.chapter,iV s.from_,iV s.to,iV s.as_,iV s.first] a K<|fun r u c e A C=>za K<|D<|zw<|Z zad K zI<|Y 3 C.sub A zO K<|Z zad K zI<|Y 4 C.sub A zO K<|zA zeg [s.as_,s.first] [iV s.as_,iV s.first] C (Enc.cons (L:=zeg) (vs:=[iV s.as_]) (x:=(s.as_)) (h:=c) K (Enc.cons (L:=zeg) (vs:=[iV s.first]) (x:=(s.first)) (h:=c) K Enc.nil)) K zbx Tryz.info3 zch<|fun i j l F f15 I=>zi I K Tryz.call179 (zpt I.sub _ _ f15)<|fun m n P H B b=>?_;subst b;refine zp K<|zbX (d:=11) K (fun Q=>?_) (fun Q=>?_)
 ·refine X K<|Z zad K zI<|X K<|Y 4 B.sub (A.up (F.t H)) zO K<|X K<|Z zad K zI<|X K<|Y 2 B.sub (A.up (F.t H)) zO K<|X K ?_;have hfr:1≤s.first∧s.first≤999:=by have q_:=Q;simp[zey,inB] at q_;omega
  refine zo K zbj<|X K<|Z zad K zI<|X K<|Y 1 B.sub (A.up (F.t H)) zO K<|X K<|zja K K zbj K<|X K<|zja K K zbj K<|X K<|zU K (zpI K K)<|zd K<|za K<|ze<|zf Tryz.results301<|⟨P,_,K,B.done,?_⟩;refine zP ?_
  all_goals first|(simp_all[zln,zey];done)|(simp[zln,zey];simp_all)
 refine zao 10 K<|zb K<|za K<|ze<|zf Tryz.results301<|⟨P,_,K,B.done,?_⟩;refine zP ?_
 all_goals first|(simp_all[zln,zey];done)|(simp[zln,zey];simp_all)
theorem zyo (hs:Sub h w) {t:Text} (t_f0:Sl zaN h t_v0 t.chapters) (K3:zaL h 3 0 Tryz.glob3) (ht:zcz t=true):Calls Tryz.prog 178 #[.agg #[t_v0],.agg #[iV s.chapter,iV s.from_,iV s.to,iV s.as_,iV s.first]] w (zbH h w (fun _ _ res_=>res_=.bool (zdV t s))):=by
 refine zg 18 Tryz.func178 K<|have b2:=zcu hs;have a8:=t_f0.le;zw<|J [t_v0] b2 K<|fun b1 w2 h3 b3 m b4=>J [iV s.chapter,iV s.from_,iV s.to,iV s.as_,iV s.first] b4 K<|fun b7 w8 h9 I a f=>za K<|D<|zav<|have e:=b3.t I;E f.sub (K3.up e) Tryz.isAgg339 Tryz.sizeOf339 K<|N K<|D<|zT ?_;refine zaI ([4,6]++zbP 8 10) (G:=Nat×Heap) (fun ⟨k,T⟩=>[(8,iV (k:Int))]) (fun ⟨k,T⟩ w'=>Le h9 T∧St h w T w' []∧(k≤3)∧(∀ j,j<k→zup t s j=true)) (fun ⟨k,T⟩=>3-k) ⟨0,h9⟩ ⟨rfl,trivial⟩ ⟨Le.refl _,f,zbB,(by intro j hj;omega)⟩ ?_;rintro ⟨k,T⟩ _ c2 ⟨A,L,hk,hA⟩;refine zw<|zM K<|D<|zaM<|zV K (fun n=>?_) (fun n=>?_)
 ·refine zaS<|zT<|zaM ?_
  rcases (show (k:Int)=0∨(k:Int)=1∨(k:Int)=2 by omega) with B|B|B
  ·refine zah ?_;refine zax rfl rfl (zqJ (us:=[.func (.func 299) #[] #[]]) rfl rfl (show _=((0:Nat):Int) by rw[B];rfl) rfl Tryz.underlying339 Tryz.isAgg338 znc rfl) ?_;refine zaf L Tryz.zeroValue338 K K<|fun c3 c4 o=>zq 0 o K znc<|fun c5 p=>?_;obtain ⟨c6,P,r,C⟩:=p.freeze (k:=0) rfl;have u:=zaL.of r;refine D<|zw<|Z zjU K Tryz.sizeOf286<|Y 0 C.sub u Tryz.isAgg286 K<|E C.sub (m.up ((I.t A).t P)) zaX zac K<|E C.sub (a.up (A.t P)) zgJ zdn K<|have b5:=(e.t A).t P;zgh (fs:=[]) (cs:=[]) C K K K K Tryz.call299 K (zvm C.sub (t:=t) (t_f0.up b5) (s:=s))<|fun c7 c8 v x g b6=>?_;subst b6;refine zdJ K K<|D<|zaD K (fun b=>?_) (fun b=>?_)
   ·refine zw<|za K<|ze<|zaq<|zN<|zaq<|zf Tryz.results178<|⟨v,_,K,g.done,?_⟩;refine zP ?_
    first|(have q_:=b;simp_all[zdV];done)|(have q0:=hA 0 zW;have q1:=hA 1 zW;have q2:=hA 2 zW;simp_all[zdV,zup];done)
   refine zbO<|zaF<|zo K zbj<|N K<|D<|⟨⟨k+1,v⟩,⟨rfl,trivial⟩,?_,⟨((A.t P).t x),g.take 0,?_,?_⟩,?_⟩
   ·exact zba
   ·first|omega|(simp;omega)
   ·intro j hj
    rcases zbK (zca hj) with q|q
    ·exact hA j q
    ·subst q;first|(obtain rfl:j=0:=zW;simpa [zup] using b)|(obtain rfl:j=1:=zW;simpa [zup] using b)|(obtain rfl:j=2:=zW;simpa [zup] using b)
   show 3-(k+1)<3-k;omega
  ·refine zah ?_;refine zax rfl rfl (zqJ (us:=[.func (.func 300) #[] #[]]) rfl rfl (show _=((1:Nat):Int) by rw[B];rfl) rfl Tryz.underlying339 Tryz.isAgg338 znc rfl) ?_;refine zaf L Tryz.zeroValue338 K K<|fun c9 d0 y=>zq 0 y K znc<|fun d1 z=>?_;obtain ⟨d2,Q,a0,F⟩:=z.freeze (k:=0) rfl;have a1:=zaL.of a0;refine D<|zw<|Z zjU K Tryz.sizeOf286<|Y 0 F.sub a1 Tryz.isAgg286 K<|E F.sub (m.up ((I.t A).t Q)) zaX zac K<|E F.sub (a.up (A.t Q)) zgJ zdn K ?_;have b8:=(e.t A).t Q;refine zgh (fs:=[]) (cs:=[]) F rfl rfl rfl rfl Tryz.call300 rfl (zvl F.sub (t:=t) (t_f0.up b8) (s:=s) (by exact ht) (by exact hA 0 zW)) ?_;intro d3 d4 a9 a2 i b9;subst b9;refine zdJ K K<|D<|zaD K (fun c=>?_) (fun c=>?_)
   ·refine zw<|za K<|ze<|zaq<|zN<|zaq<|zf Tryz.results178<|⟨a9,_,K,i.done,?_⟩;refine zP ?_
    first|(have q_:=c;simp_all[zdV];done)|(have q0:=hA 0 zW;have q1:=hA 1 zW;have q2:=hA 2 zW;simp_all[zdV,zup];done)
   refine zbO<|zaF<|zo K zbj<|N K<|D<|⟨⟨k+1,a9⟩,⟨rfl,trivial⟩,?_,⟨((A.t Q).t a2),i.take 0,?_,?_⟩,?_⟩
   ·exact zba
   ·first|omega|(simp;omega)
   ·intro j hj
    rcases zbK (zca hj) with q|q
    ·exact hA j q
    ·subst q;first|(obtain rfl:j=0:=zW;simpa [zup] using c)|(obtain rfl:j=1:=zW;simpa [zup] using c)|(obtain rfl:j=2:=zW;simpa [zup] using c)
   show 3-(k+1)<3-k;omega
  refine zah ?_;refine zax rfl rfl (zqJ (us:=[.func (.func 301) #[] #[]]) rfl rfl (show _=((2:Nat):Int) by rw[B];rfl) rfl Tryz.underlying339 Tryz.isAgg338 znc rfl) ?_;refine zaf L Tryz.zeroValue338 K K<|fun d5 d6 a3=>zq 0 a3 K znc<|fun d7 a4=>?_;obtain ⟨d8,S,a5,H⟩:=a4.freeze (k:=0) rfl;have a6:=zaL.of a5;refine D<|zw<|Z zjU K Tryz.sizeOf286<|Y 0 H.sub a6 Tryz.isAgg286 K<|E H.sub (m.up ((I.t A).t S)) zaX zac K<|E H.sub (a.up (A.t S)) zgJ zdn K ?_;have c0:=(e.t A).t S;refine zgh (fs:=[]) (cs:=[]) H rfl rfl rfl rfl Tryz.call301 rfl (zvk H.sub (t:=t) (t_f0.up c0) (s:=s) (by exact zEA ht (hA 0 zW) (hA 1 zW))) ?_;intro d9 e0 b0 a7 l c1;subst c1;refine zdJ K K<|D<|zaD K (fun d=>?_) (fun d=>?_)
  ·refine zw<|za K<|ze<|zaq<|zN<|zaq<|zf Tryz.results178<|⟨b0,_,K,l.done,?_⟩;refine zP ?_
   first|(have q_:=d;simp_all[zdV];done)|(have q0:=hA 0 zW;have q1:=hA 1 zW;have q2:=hA 2 zW;simp_all[zdV,zup];done)
  refine zbO<|zaF<|zo K zbj<|N K<|D<|⟨⟨k+1,b0⟩,⟨rfl,trivial⟩,?_,⟨((A.t S).t a7),l.take 0,?_,?_⟩,?_⟩
  ·exact zba
  ·first|omega|(simp;omega)
  ·intro j hj
   rcases zbK (zca hj) with q|q
   ·exact hA j q
   ·subst q;first|(obtain rfl:j=0:=zW;simpa [zup] using d)|(obtain rfl:j=1:=zW;simpa [zup] using d)|(obtain rfl:j=2:=zW;simpa [zup] using d)
  show 3-(k+1)<3-k;omega
 refine zdx<|zF<|zw<|za K<|ze<|zf Tryz.results178<|⟨T,_,K,L.done,?_⟩;refine zP ?_
 first|(have q_:=n;simp_all[zdV];done)|(have q0:=hA 0 zW;have q1:=hA 1 zW;have q2:=hA 2 zW;simp_all[zdV,zup];done)
theorem zwf (hs:Sub h w) {t_b:Nat} {t:Text} (t_f0:Sl zaN h t_v0 t.chapters) (t_c:zaL h t_b 0 [t_v0]) (K3:zaL h 3 0 Tryz.glob3) (ht:zcz t=true):Calls Tryz.prog 177 #[.agg #[iV s.chapter,iV s.from_,iV s.to,iV s.as_,iV s.first],.pointer (some ⟨t_b,0,none⟩)] w (zbH h w (fun _ _ res_=>res_=.bool (!zdV t s))):=by
 refine zg 8 Tryz.func177 K<|have H:=zcu hs;have F:=t_f0.le;zw<|J [iV s.chapter,iV s.from_,iV s.to,iV s.as_,iV s.first] H K<|fun S T a B I A=>za K<|D<|zw<|E A.sub (t_c.up B) zaX zac K<|E A.sub I zgJ zdn K ?_;refine zau A rfl rfl rfl Tryz.call178 rfl (zyo A.sub (t:=t) (t_f0.up B) (s:=s) (K3.up B) zW) ?_;intro b c Q P C L;obtain rfl:=L;refine zdJ K K<|za K<|ze<|zf Tryz.results177<|⟨Q,_,K,C.done,?_⟩;refine zP ?_;rfl
theorem zps (hs:Sub h w) {l:(List Stretch)} (l_f:Sl zcp h l_v l) {g:FuncId} {caps:List Value} {q:Stretch→Bool} (eg:∀ a w,(callFunc g a).run Tryz.prog w=.ok (.enter g a) w) (hq:∀ x h' w' vs,Le h h'→Sub h' w'→x∈l→zcp.R h' vs x→∀ u,u=.agg vs.toArray→Calls Tryz.prog g (u::caps).toArray w' (zbH h' w' fun _ _ r=>r=.bool (q x))) (hl:l.length≤1000):Calls Tryz.prog 176 #[l_v,.func (.func g) #[] caps.toArray] w (zbH h w (fun h' _ res_=>∃ u0,res_=u0∧Sl zcp h' u0 (l.filter q))):=by
 refine zg 23 Tryz.func176 K<|have y:=zcu hs;have l_f_b:=l_f.le;zw<|zdD K K<|D<|zw<|zdD K K<|D<|zav<|zk l_v K<|zG l_f zcQ K<|N K<|D<|zT ?_;have z:=y.snoc;have f5:=OSl.nil zcp 211 h;refine zaI ([5,7]++zbP 10 12) (G:=Nat×Value×List (Nat×Obj)×Heap) (fun ⟨k,A,F,d⟩=>[(5,A),(10,iV (k:Int))]) (fun ⟨k,A,F,d⟩ w'=>Le h d∧St h w d w' [F]∧(OSl zcp 211 d A (((l.take k).filter q)) F)∧(k≤l.length)) (fun ⟨k,A,F,d⟩=>l.length-k) ⟨0,(.slice none 0 0),[],h⟩ ⟨rfl,rfl,trivial⟩ ⟨Le.refl _,z,(OSl.to f5 (by rfl)),zbB⟩ ?_;rintro ⟨k,A,F,d⟩ _ w6 ⟨Q,b,H,hk⟩;refine zw<|zM K<|D<|zaM<|zV K (fun c7=>?_) (fun c7=>?_)
 ·refine zaS<|zT<|zw ?_;obtain ⟨x,hx⟩:∃ y_,(l)[k]?=some y_:=zdl zW;obtain ⟨b8,o9,_,e,f,hr_x⟩:=Sl.elem (l_f.up Q) hx;subst hr_x;refine zx e zcQ zdn K<|E b.sub f zgJ zdn K<|zaf b Tryz.zeroValue211 K K<|fun a8 a9 i=>zq 1 i K zdn<|fun b0 j=>?_;obtain ⟨b1,B,m,I⟩:=j.freeze (k:=1) rfl;have S:=zaL.of m;refine D<|zw<|zrw K K<|E I.sub S zgJ zdn K<|zgh (fs:=[]) (cs:=caps) I K K K K eg K (hq x _ _ _ (Q.t B) I.sub (zD hx) K _ K)<|fun b2 b3 n C P a0=>?_;subst a0;refine D<|zaD K (fun c=>?_) (fun c=>?_)
  ·refine zah<|zk A K<|E P.sub (S.up C) zgJ zdn K<|zA zcp [x] [iV x.chapter,iV x.from_,iV x.to,iV x.as_,iV x.first] P (Enc.cons (L:=zcp) (vs:=[iV x.chapter,iV x.from_,iV x.to,iV x.as_,iV x.first]) (x:=x) (h:=n) K Enc.nil) K zcQ Tryz.info211 zch<|fun b4 b5 a1 T f31 o=>?_;refine zbe (k:=0) (nb:=40) o (H.up ((B.t C).t T)) rfl f31 rfl rfl rfl zcQ Tryz.info211 rfl rfl rfl (by decide) rfl (by have q_:=zak q (l.take k);rw[zt] at q_;first|omega|(simp only[zj,zy,zC];omega)) (by have q_:=zak q (l.take k);rw[zt] at q_;first|omega|(simp only[zj,zy,zC];omega)) ?_;intro p a2 b6 _ a3 f39 s;subst a3;refine zH p K<|zl<|zaF<|zo K zbj<|N K<|D<|have a4:=((Q.t B).t C).t T;⟨⟨k+1,p,a2,a1⟩,⟨rfl,K,trivial⟩,?_,⟨a4,s.take 1,?_,?_⟩,?_⟩
   ·exact zba
   ·refine OSl.to f39 ?_;rw[zbg hx,zbc,zbo,zab c];rfl
   ·first|omega|(simp;omega)
   show l.length-(k+1)<l.length-k;omega
  refine zbO<|zaF<|zo K zbj<|N K<|D<|have a5:=(Q.t B).t C;⟨⟨k+1,A,F,n⟩,⟨rfl,K,trivial⟩,?_,⟨a5,P.take 1,?_,?_⟩,?_⟩
  ·exact zba
  ·refine OSl.to (H.up (B.t C)) ?_;rw[zbg hx,zbc,zbo,zam (by rw[c];simp)];simp
  ·first|omega|(simp;omega)
  show l.length-(k+1)<l.length-k;omega
 refine zdx<|zF<|zw<|zk A K<|zH A K<|ze<|zf Tryz.results176 ?_;obtain ⟨a6,a7,f45,v⟩:=OSl.freeze (k:=0) b H rfl (by have q_:=zak q (l.take k);rw[zt] at q_;first|omega|(simp only[zj,zy,zC];omega));refine ⟨a6,_,K,v.done,?_⟩;refine ⟨_,K,Sl.to f45 ?_⟩;rw[zS zW]
theorem zsZ (hs:Sub h w) {t:Text} (t_f0:Sl zaN h t_v0 t.chapters) (e_f0:Sl zcp h e_v0 e.stretches) (K3:zaL h 3 0 Tryz.glob3) (hn20:e.stretches.length≤1000):Calls Tryz.prog 127 #[.agg #[t_v0],.agg #[iV e.id,e_v0]] w (zbH h w (fun _ _ res_=>res_=iV (zeM t e))):=by
 refine zg 32 Tryz.func127 K<|have p:=zcu hs;have n:=t_f0.le;have o:=e_f0.le;zw<|J [t_v0] p K<|fun b1 w2 h3 r i u=>J [iV e.id,e_v0] u K<|fun b7 w8 h9 F H I=>U K<|D<|zav<|E I.sub (i.up F) zaX zac K<|have P:=r.t F;zi I K Tryz.call97 (zrb I.sub (t:=t) (t_f0.up P))<|fun a9 b0 v A C y=>?_;subst y;refine U K<|D<|zw<|N K<|zar K<|D<|zV K (fun g=>?_) (fun g=>?_)
 ·refine zw<|N K<|U K<|ze<|zN<|zf Tryz.results127<|⟨v,_,K,C.done,?_⟩;refine zan ?_;have q_:=g;cases e_:zcz t <;> simp_all[zeM]
 refine zaS ?_;have Q:zcz t=true:=by have q_:=g;cases e_:zcz t <;> simp_all
 have hpk:=zDC e.stretches (zdV t);refine zah<|Z zdF K zgx<|Y 1 C.sub (H.up A) zhG K<|zgm K K K ?_;refine zau C rfl rfl rfl Tryz.call176 rfl (zps C.sub (e_f0.up (P.t A)) (q:=(fun x_=>(!zdV t x_))) Tryz.call177 (fun x_ h_ w_ vs_ le_ hs_ hx_ hr_ u_ hu_=>by obtain rfl:=hr_;cases hu_;exact zwf hs_ (s:=x_) (t:=t) ((t_f0.up (P.t A)).up le_) ((i.up (F.t A)).up le_) ((K3.up (P.t A)).up le_) (by exact Q)) (by exact hn20)) ?_;intro j b2 z S c a1;obtain ⟨b3,a2,f28⟩:=a1;rw[← a2] at f28;have a0:=f28.le;refine zH j K<|D<|zav<|Z zdF K zI<|Y 0 c.sub (H.up (A.t S)) zO K<|zA zeg [e.id] [iV e.id] c (Enc.cons (L:=zeg) (vs:=[iV e.id]) (x:=(e.id)) (h:=z) K Enc.nil) K zbx Tryz.info3 zch<|fun b4 b5 b6 T f32 f=>zi f K Tryz.call179 (zpt f.sub _ _ f32)<|fun b8 b9 b a B a3=>?_;subst a3;refine zdJ K K<|zp K<|zbX (d:=21) K (fun a4=>?_) (fun a4=>?_)
 ·refine zao 4 K<|zd K<|zp K<|zao 3 K<|zd K<|D<|zaD K (fun l=>?_) (fun l=>?_)
  ·refine zw<|U K<|ze<|zN<|zf Tryz.results127<|⟨b,_,K,B.done,?_⟩;refine zan ?_
   first|(simp_all[zeM,zgF,zey];done)|(simp[zeM,Q,zgF,zey] at *;simp_all;done)|(simp_all[zeM,zgF,zey];omega)
  cases l
 refine X K<|Z zdF K zgx<|X K<|have a5:=((A.t S).t T).t a;Y 1 B.sub (H.up a5) zhG K<|X K<|have a6:=(((P.t A).t S).t T).t a;zG (e_f0.up a6) zcQ K<|X K<|zhn K K K<|zb K<|zp K<|zaK (d:=27) K (fun a7=>?_) (fun a7=>?_)
 ·refine zao 3 K<|zd K<|D<|zaD K (fun m=>?_) (fun m=>?_)
  ·refine zw<|U K<|ze<|zN<|zf Tryz.results127<|⟨b,_,K,B.done,?_⟩;refine zan ?_
   first|(simp_all[zeM,zgF,zey];done)|(simp[zeM,Q,zgF,zey] at *;simp_all;done)|(simp_all[zeM,zgF,zey];omega)
  cases m
 refine X K<|zk j K<|X K<|zG (f28.up (T.t a)) zcQ K<|X K<|zhn K K K<|zb K<|D<|zV K (fun a8=>?_) (fun a8=>?_)
 ·refine zw<|U K<|ze<|zN<|zf Tryz.results127<|⟨b,_,K,B.done,?_⟩;refine zan ?_
  first|(simp_all[zeM,zgF,zey];done)|(simp[zeM,Q,zgF,zey] at *;simp_all;done)|(simp_all[zeM,zgF,zey];omega)
 refine zgg<|zw<|U K<|ze<|zf Tryz.results127<|⟨b,_,K,B.done,?_⟩;refine zan ?_
 first|(simp_all[zeM,zgF,zey];done)|(simp[zeM,Q,zgF,zey] at *;simp_all;done)|(simp_all[zeM,zgF,zey];omega)
theorem zyp (hs:Sub h w) {a:Stretch} {b:Stretch} (ha:OkS a) (hb:OkS b):Calls Tryz.prog 180 #[.agg #[iV a.chapter,iV a.from_,iV a.to,iV a.as_,iV a.first],.agg #[iV b.chapter,iV b.from_,iV b.to,iV b.as_,iV b.first]] w (zbH h w (fun _ _ res_=>res_=.bool (zhs a b))):=by
 refine zg 57 Tryz.func180 K ?_;have I:=zcu hs;obtain ⟨haa,hab,hac,had,hae,haf,hag,hah,hai⟩:=ha;obtain ⟨hba,hbb,hbc,hbd,hbe,hbf,hbg,hbh,hbi⟩:=hb;refine zw<|J [iV a.chapter,iV a.from_,iV a.to,iV a.as_,iV a.first] I K<|fun e f g c F L=>J [iV b.chapter,iV b.from_,iV b.to,iV b.as_,iV b.first] L K<|fun i j H B C A=>za K<|D<|zw<|Z zad K zI<|Y 0 A.sub (F.up B) zO K<|Z zad K zI<|Y 0 A.sub C zO K<|zgL K K K<|zp K<|zaK (d:=11) K (fun P=>?_) (fun P=>?_)
 ·refine X K<|Z zad K zI<|X K<|Y 1 A.sub (F.up B) zO K<|X K<|Z zad K zI<|X K<|Y 1 A.sub C zO K<|X K<|zU K (zEG K K)<|X K<|Z zad K zI<|X K<|Y 2 A.sub (F.up B) zO K<|X K<|Z zad K zI<|X K<|Y 2 A.sub C zO K<|X K<|zU K (zEF K K)<|X K<|zM K<|zd K<|za K<|D<|zw<|zp K<|zp K<|zaK (d:=25) K (fun Q=>?_) (fun Q=>?_)
  ·refine zao 30 K ?_;refine zd K<|za K<|ze<|zf Tryz.results180<|⟨H,_,K,A.done,?_⟩;refine zP ?_
   first|(simp_all[zhs];done)|(simp[zhs];simp_all;done)|(simp_all[zhs];intro q_;omega)|(simp_all[zhs];omega)
  refine X K<|Z zad K zI<|X K<|Y 3 A.sub (F.up B) zO K<|X K<|Z zad K zI<|X K<|Y 3 A.sub C zO K<|X K<|zgL K K K<|X K<|zp K<|zaK (d:=31) K (fun S=>?_) (fun S=>?_)
  ·refine X K<|Z zad K zI<|X K<|Y 4 A.sub (F.up B) zO K<|X K<|Z zad K zI<|X K<|Y 4 A.sub C zO K<|X K<|zU K (zEG K K)<|X K<|Z zad K zI<|X K<|Y 4 A.sub (F.up B) zO K<|X K<|Z zad K zI<|X K<|Y 2 A.sub (F.up B) zO K<|X K<|zo K zbj<|X K<|Z zad K zI<|X K<|Y 1 A.sub (F.up B) zO K<|X K<|zja K K zbj K<|X K<|Z zad K zI<|X K<|Y 4 A.sub C zO K ?_;refine X K<|Z zad K zI<|X K<|Y 2 A.sub C zO K<|X K<|zo K zbj<|X K<|Z zad K zI<|X K<|Y 1 A.sub C zO K<|X K<|zja K K zbj K<|X K<|zU K (zEF K K)<|X K<|zM K<|X K<|zd K<|zb K<|za K<|ze<|zf Tryz.results180<|⟨H,_,K,A.done,?_⟩;refine zP ?_
   first|(simp_all[zhs];done)|(simp[zhs];simp_all;done)|(simp_all[zhs];intro q_;omega)|(simp_all[zhs];omega)
  refine zao 23 K<|X K<|zb K<|zb K<|za K<|ze ?_;refine zf Tryz.results180<|⟨H,_,K,A.done,?_⟩;refine zP ?_
  first|(simp_all[zhs];done)|(simp[zhs];simp_all;done)|(simp_all[zhs];intro q_;omega)|(simp_all[zhs];omega)
 refine zao 11 K<|zb K<|za K<|D<|zw<|zp K<|zp K<|X K<|Z zad K zI<|X K<|Y 3 A.sub (F.up B) zO K<|X K<|Z zad K zI<|X K<|Y 3 A.sub C zO K<|X K<|zgL K K K<|X K ?_;refine zp K<|zaK (d:=31) K (fun T=>?_) (fun T=>?_)
 ·refine X K<|Z zad K zI<|X K<|Y 4 A.sub (F.up B) zO K<|X K<|Z zad K zI<|X K<|Y 4 A.sub C zO K<|X K<|zU K (zEG K K)<|X K<|Z zad K zI<|X K<|Y 4 A.sub (F.up B) zO K<|X K<|Z zad K zI<|X K<|Y 2 A.sub (F.up B) zO K<|X K<|zo K zbj<|X K<|Z zad K zI<|X K<|Y 1 A.sub (F.up B) zO K<|X K<|zja K K zbj K<|X K<|Z zad K zI<|X K<|Y 4 A.sub C zO K ?_;refine X K<|Z zad K zI<|X K<|Y 2 A.sub C zO K<|X K<|zo K zbj<|X K<|Z zad K zI<|X K<|Y 1 A.sub C zO K<|X K<|zja K K zbj K<|X K<|zU K (zEF K K)<|X K<|zM K<|X K<|zd K<|zb K<|za K<|ze<|zf Tryz.results180<|⟨H,_,K,A.done,?_⟩;refine zP ?_
  first|(simp_all[zhs];done)|(simp[zhs];simp_all;done)|(simp_all[zhs];intro q_;omega)|(simp_all[zhs];omega)
 refine zao 23 K<|X K<|zb K<|zb K<|za K<|ze ?_;refine zf Tryz.results180<|⟨H,_,K,A.done,?_⟩;refine zP ?_
 first|(simp_all[zhs];done)|(simp[zhs];simp_all;done)|(simp_all[zhs];intro q_;omega)|(simp_all[zhs];omega)
theorem zrZ (hs:Sub h w) {t:Text} (t_f0:Sl zaN h t_v0 t.chapters) (e_f0:Sl zcp h e_v0 e.stretches) (hl:∀ s∈e.stretches,OkS s) (hn:e.stretches.length≤12):Calls Tryz.prog 128 #[.agg #[t_v0],.agg #[iV e.id,e_v0]] w (zbH h w (fun h' _ res_=>∃ u0,res_=.tuple #[u0,iV ((clS e.stretches e.stretches.length).1),iV ((clS e.stretches e.stretches.length).2.1),.bool ((clS e.stretches e.stretches.length).2.2)]∧Box ztL h' true (zkL t e) u0)):=by
 refine zg 124 Tryz.func128 K<|have t2:=zcu hs;have r7:=t_f0.le;have r8:=e_f0.le;zw<|J [t_v0] t2 K<|fun b1 w2 h3 t3 t4 t5=>J [iV e.id,e_v0] t5 K<|fun b7 w8 h9 g5 c6 d7=>zfj K K<|U K<|U K<|za K<|D<|zzS<|zw<|E d7.sub c6 zft zdk K<|E d7.sub (t4.up g5) zaX zac K<|ziN (κ:=Pair) (υ:=Pair) (ek:=(fun x:Pair=>.agg [iV x.a,iV x.b].toArray)) (eu:=(fun x:Pair=>.agg [iV x.a,iV x.b].toArray)) d7 K<|fun y4 t6 y5 f16 m5=>?_;obtain ⟨b8,rfl⟩:=f16.form;have m6:(([]:List (Pair×Pair)).map (·.1)).Nodup:=by simp
 refine ziN (κ:=Pair) (υ:=Pair) (ek:=(fun x:Pair=>.agg [iV x.a,iV x.b].toArray)) (eu:=(fun x:Pair=>.agg [iV x.a,iV x.b].toArray)) m5 K<|fun y6 t7 y7 f23 m7=>?_;obtain ⟨b9,rfl⟩:=f23.form;have m8:(([]:List (Pair×Pair)).map (·.1)).Nodup:=by simp
 refine zax rfl rfl (zdT (cs:=[iV e.id,e_v0,t_v0,(.map (some b8)),(.map (some b9))]) (by obtain ⟨_,_,rfl⟩:=Sl.form e_f0;obtain ⟨_,_,rfl⟩:=Sl.form t_f0;kernel_rfl)) ?_;refine J [iV e.id,e_v0,t_v0,(.map (some b8)),(.map (some b9))] m7 K<|fun y8 y9 r9 c7 b2 d8=>zlx K K<|D<|zw<|Z zdF K zgx<|Y 1 d8.sub (c6.up c7) zhG K<|have g3:=(t3.t g5).t c7;zG (e_f0.up g3) zcQ K<|U K<|D<|zaM<|zzV<|zF<|zav<|Z zdF K zgx<|Y 1 d8.sub (c6.up c7) zhG K<|zG (e_f0.up g3) zcQ K<|N K<|D<|zT ?_;refine zaI (zbP 5 14++zbP 31 89) (G:=Nat×List (Nat×Obj)×List (Nat×Obj)×Heap) (fun ⟨k,A,B,g4⟩=>[(5,iV (clS e.stretches k).1),(6,iV (clS e.stretches k).2.1),(7,.bool (clS e.stretches k).2.2),(31,iV (k:Int))]) (fun ⟨k,A,B,g4⟩ w'=>Le r9 g4∧St h w g4 w' [A,B]∧(OM (fun x:Pair=>.agg [iV x.a,iV x.b].toArray) (fun x:Pair=>.agg [iV x.a,iV x.b].toArray) ((asM (e.stretches.take k))) A (.map (some b8)))∧((((asM (e.stretches.take k))).map (·.1)).Nodup)∧(OM (fun x:Pair=>.agg [iV x.a,iV x.b].toArray) (fun x:Pair=>.agg [iV x.a,iV x.b].toArray) ((zta (e.stretches.take k))) B (.map (some b9)))∧((((zta (e.stretches.take k))).map (·.1)).Nodup)∧(k≤e.stretches.length)) (fun ⟨k,A,B,g4⟩=>e.stretches.length-k) ⟨0,t6,t7,r9⟩ ⟨rfl,rfl,rfl,rfl,trivial⟩ ⟨Le.refl _,d8,(by have q:=f16;exact q),(by have q:=m6;exact q),(by have q:=f23;exact q),(by have q:=m8;exact q),zbB⟩ ?_;rintro ⟨k,A,B,g4⟩ _ z0 ⟨y,d9,L,f,F,c,hk⟩;refine zw<|zM K<|D<|zaM<|zV K (fun t8=>?_) (fun t8=>?_)
 ·refine zaS<|zT<|zw<|N K ?_;obtain ⟨sx,hsx⟩:∃ y_,(e.stretches)[k]?=some y_:=zdl zW;have s0:=g3.t y;obtain ⟨z1,z2,_,m9,o0,hr_sx⟩:=Sl.elem (e_f0.up s0) hsx;subst hr_sx;refine zx m9 zcQ zdn K<|E d9.sub o0 zgJ zdn K<|zaf d9 Tryz.zeroValue211 K K<|fun z3 z4 o1=>U K<|zq 2 o1 K zdn<|fun z5 o2=>?_;obtain ⟨s1,b4,o3,e0⟩:=o2.freeze (k:=2) rfl;have a5:=zaL.of o3;refine D<|zaM<|zaM ?_;have hso:=hl sx (zD hsx);obtain ⟨hsoa,hsob,hsoc,hsod,hsoe,hsof,hsog,hsoh,hsoi⟩:=hso;have hcb:=zza e.stretches k zW;refine zah<|Z zad K zI<|Y 2 e0.sub a5 zO K<|Z zad K zI<|Y 1 e0.sub a5 zO K<|zja K K zbj K<|N K<|D<|zT ?_;refine zaI (zbP 10 7++zbP 41 52) (G:=Nat×List (Nat×Obj)×List (Nat×Obj)×Heap) (fun ⟨i,A,B,d6⟩=>[(41,iV (i:Int))]) (fun ⟨i,A,B,d6⟩ w'=>Le s1 d6∧St h w d6 w' [A,B,[]]∧(OM (fun x:Pair=>.agg [iV x.a,iV x.b].toArray) (fun x:Pair=>.agg [iV x.a,iV x.b].toArray) (asN (asM (e.stretches.take k)) sx i) A (.map (some b8)))∧(((asN (asM (e.stretches.take k)) sx i).map (·.1)).Nodup)∧(OM (fun x:Pair=>.agg [iV x.a,iV x.b].toArray) (fun x:Pair=>.agg [iV x.a,iV x.b].toArray) (zqv (zta (e.stretches.take k)) sx i) B (.map (some b9)))∧(((zqv (zta (e.stretches.take k)) sx i).map (·.1)).Nodup)∧((i:Int)≤sx.to-sx.from_)) (fun ⟨i,A,B,d6⟩=>(sx.to-sx.from_).toNat-i) ⟨0,A,B,s1⟩ ⟨rfl,trivial⟩ ⟨Le.refl _,e0,(by have q:=L;exact q),(by have q:=f;exact q),(by have q:=F;exact q),(by have q:=c;exact q),zbB⟩ ?_;rintro ⟨i,A,B,d6⟩ _ z6 ⟨H,e1,L,f,F,c,hi⟩;refine zw<|zM K<|D<|zaM<|zV K (fun t9=>?_) (fun t9=>?_)
  ·refine zaS<|zT<|zw<|N K<|U K<|D<|zaM<|ziZ (dsts:=(zbP 44 14++[11,12])) e1 zbh<|zL (zh zad K zI)<|zas (fun hD wD P S T hO _ _=>(zm 0 (S.sub T) (a5.up H) zO K))<|zL (zh zad K zI)<|zas (fun hD wD P S T hO _ _=>(zm 1 (S.sub T) (a5.up H) zO K))<|zL (zho K)<|zL (zkU K K zbj)<|zL (zdT (cs:=[iV sx.chapter,iV ((sx.from_)+(i:Int))]) zch)<|zL (zh zad K zI)<|zas (fun hD wD P S T hO _ _=>(zm 3 (S.sub T) (a5.up H) zO K))<|zL (zh zad K zI)<|zas (fun hD wD P S T hO _ _=>(zm 4 (S.sub T) (a5.up H) zO K))<|zL (zho K)<|zL (zkU K K zbj)<|zL (zdT (cs:=[iV sx.as_,iV ((sx.first)+(i:Int))]) zch)<|zmn zhP K<|zmn zhP K<|zcf<|zcf ?_;refine zdy<|fun z7=>fun z8=>fun v0 z9 _ c0 o4 _ _ _ _ _ _ _ _ _ _ _ _ _ _=>zq 3 o4 K zhi<|fun A0 o5=>?_;obtain ⟨A1,b5,o6,o7⟩:=o5.freeze (k:=3) rfl;have c8:=zaL.of o6;refine zl ⟨undef,K,_,_,b5,o7,?_⟩;intro v1 A2 _ a6 o8 _ _ _ _ _ _ _ _ _ _ _ _ _ _ _ _ _ _ _ _ _ _ _ _ _ _ _ _;refine zq 4 o8 K zhi<|fun A3 o9=>?_;obtain ⟨A4,z,p0,p1⟩:=o9.freeze (k:=4) rfl;have c1:=zaL.of p0;refine zl ⟨undef,K,_,_,z,p1,?_⟩;intro v2 A5 _ m p2 _ _ _ _ _ _ _ _ _ _ _ _ _ _ _ _ _ _ _ _ _ _ _ _ _ _ _ _;refine zbT.fin K<|zF<|zaM<|zaM<|have m4:=((((((y.t b4).t H).t c0).t b5).t a6).t z).t m;zgR (er:=([5],[],[],[],0)) (dsts:=(zbP 59 6++[58,65,66,13,14])) p2 zbh<|zL (zks K)<|zL (zdH K)<|zL (zh zjf K zlL)<|zas (fun hD wD P S T hO _ _=>(zm 3 (S.sub T) (b2.up m4) zmL K))<|zas (fun hD wD P S T hO=>(zaQ (S.sub T) (c8.up ((a6.t z).t m)) K zkQ zhi K))<|zas (fun hD wD P S T hO _ _ _ _=>(zqH (k:=(Pair.mk sx.chapter (((sx.from_)+(i:Int))))) (zu:=zmo) (zpi).toKeyF zjg L ((hO K).ent (k:=0) K) zhP K K K))<|zL (ztY K)<|zL (zha (v:=(.agg (List.toArray _))) K K)<|zL (zha (v:=(.bool _)) K K)<|zmn zhP K<|zcf<|zL (zvG K)<|zdy<|fun A6=>fun v3 A7 _ n p3 _ _ _ _ _ _ _ _ _ _ _ _ _ _ _ _=>zq 5 p3 K zhi<|fun A8 p4=>?_;obtain ⟨A9,I,h7,h8⟩:=p4.freeze (k:=5) rfl;have s2:=zaL.of h7;refine zl ⟨undef,K,_,_,I,h8,?_⟩;intro s3 v4 _ Q c9 _ _ _ _ _ _ _ _ _ _ _ _ _ _ _ _ _ _ _ _;refine zbT.fin K<|zF<|zw<|zp K<|zdJ K K<|D<|zaD K (fun C=>?_) (fun C=>?_)
   ·have e2:=((m4.t n).t I).t Q;have g6:=((((a6.t z).t m).t n).t I).t Q;have e3:=((m.t n).t I).t Q;refine ziZ (dsts:=(zbP 69 6)) c9 zbh<|zL (zks K)<|zL (zdH K)<|zL (zh zjf K zlL)<|zas (fun hD wD P S T hO _ _=>(zm 3 (S.sub T) (b2.up e2) zmL K))<|zas (fun hD wD P S T hO=>(zaQ (S.sub T) (c8.up g6) K zkQ zhi K))<|zas (fun hD wD P S T hO=>(zaQ (S.sub T) (c1.up e3) K zkQ zhi K))<|zcf<|zdy<|fun s4 v5 _ p j0 _ _ _ _ _ _ _ _ _ _ _ _=>zka (i:=0) j0 L K f zpi zjg K (k:=(Pair.mk sx.chapter (((sx.from_)+(i:Int))))) K (u:=(Pair.mk sx.as_ (((sx.first)+(i:Int))))) K<|fun g7 v6 _ p5 f121 d0 j1=>?_;subst p5;refine zl ⟨undef,K,_,_,Le.refl _,j1,?_⟩;intro s5 v7 _ r j2 _ _ _ _ _ _ _ _ _ _ _ _;refine zbT.fin K<|zF<|zaM<|zgR (er:=([5],[],[],[],0)) (dsts:=(zbP 76 6++[75,82,83,15,16])) j2 zbh<|zL (zks K)<|zL (zdH K)<|zL (zh zjf K zlL)<|zas (fun hD wD P S T hO _ _=>(zm 4 (S.sub T) (b2.up ((e2.t p).t r)) zmL K))<|zas (fun hD wD P S T hO=>(zaQ (S.sub T) (c1.up ((e3.t p).t r)) K zkQ zhi K))<|zas (fun hD wD P S T hO _ _ _ _=>(zqH (k:=(Pair.mk sx.as_ (((sx.first)+(i:Int))))) (zu:=zmo) (zpi).toKeyF zjg F ((hO K).ent (k:=1) K) zhP K K K))<|zL (ztY K)<|zL (zha (v:=(.agg (List.toArray _))) K K)<|zL (zha (v:=(.bool _)) K K)<|zmn zhP K<|zcf<|zL (zvG K)<|zdy<|fun v8=>fun s6 v9 _ a7 j3 _ _ _ _ _ _ _ _ _ _ _ _ _ _ _ _=>zq 6 j3 K zhi<|fun w0 j4=>?_;obtain ⟨w1,a0,j5,j6⟩:=j4.freeze (k:=6) rfl;have s7:=zaL.of j5;refine zl ⟨undef,K,_,_,a0,j6,?_⟩;intro j7 w3 _ a8 d1 _ _ _ _ _ _ _ _ _ _ _ _ _ _ _ _ _ _ _ _;refine zbT.fin K<|zF<|zw<|zp K<|zdJ K K<|D<|zaD K (fun a3=>?_) (fun a3=>?_)
    ·have p6:=((((e2.t p).t r).t a7).t a0).t a8;have p7:=((((e3.t p).t r).t a7).t a0).t a8;have p8:=((((g6.t p).t r).t a7).t a0).t a8;refine ziZ (dsts:=(zbP 86 6)) d1 zbh<|zL (zks K)<|zL (zdH K)<|zL (zh zjf K zlL)<|zas (fun hD wD P S T hO _ _=>(zm 4 (S.sub T) (b2.up p6) zmL K))<|zas (fun hD wD P S T hO=>(zaQ (S.sub T) (c1.up p7) K zkQ zhi K))<|zas (fun hD wD P S T hO=>(zaQ (S.sub T) (c8.up p8) K zkQ zhi K))<|zcf<|zdy<|fun s8 w4 _ j8 j9 _ _ _ _ _ _ _ _ _ _ _ _=>zka (i:=1) j9 F K c zpi zjg K (k:=(Pair.mk sx.as_ (((sx.first)+(i:Int))))) K (u:=(Pair.mk sx.chapter (((sx.from_)+(i:Int))))) K<|fun p9 w5 _ q0 f159 k0 k1=>?_;subst q0;refine zl ⟨undef,K,_,_,Le.refl _,k1,?_⟩;intro k2 w6 _ k3 k4 _ _ _ _ _ _ _ _ _ _ _ _;refine zbT.fin K<|zaF<|zo K zbj<|N K<|D<|have q1:=((((((((((((((H.t c0).t b5).t a6).t z).t m).t n).t I).t Q).t p).t r).t a7).t a0).t a8).t j8).t k3;⟨⟨i+1,g7,p9,k2⟩,⟨rfl,trivial⟩,?_,⟨q1,k4.take 3,?_,?_,?_,?_,?_⟩,?_⟩
     ·exact zba
     ·have q:=f121
      first|(rw[zpP (by simpa using C)];exact q)|(rw[zpQ (by simpa using C)];exact q)
     ·have q:=d0
      first|(rw[zpP (by simpa using C)];exact q)|(rw[zpQ (by simpa using C)];exact q)
     ·have q:=f159
      first|(rw[zna (by simpa using a3)];exact q)|(rw[znb (by simpa using a3)];exact q)
     ·have q:=k0
      first|(rw[zna (by simpa using a3)];exact q)|(rw[znb (by simpa using a3)];exact q)
     ·first|omega|(simp;omega)
     show (sx.to-sx.from_).toNat-(i+1)<(sx.to-sx.from_).toNat-i;omega
    refine zbO<|zaF<|zo K zbj<|N K<|D<|have q2:=((((((((((((H.t c0).t b5).t a6).t z).t m).t n).t I).t Q).t p).t r).t a7).t a0).t a8;⟨⟨i+1,g7,B,j7⟩,⟨rfl,trivial⟩,?_,⟨q2,d1.take 3,?_,?_,?_,?_,?_⟩,?_⟩
    ·exact zba
    ·have q:=f121
     first|(rw[zpP (by simpa using C)];exact q)|(rw[zpQ (by simpa using C)];exact q)
    ·have q:=d0
     first|(rw[zpP (by simpa using C)];exact q)|(rw[zpQ (by simpa using C)];exact q)
    ·have q:=F
     first|(rw[zna (by simpa using a3)];exact q)|(rw[znb (by simpa using a3)];exact q)
    ·have q:=c
     first|(rw[zna (by simpa using a3)];exact q)|(rw[znb (by simpa using a3)];exact q)
    ·first|omega|(simp;omega)
    show (sx.to-sx.from_).toNat-(i+1)<(sx.to-sx.from_).toNat-i;omega
   refine zaS<|have g8:=((m4.t n).t I).t Q;have g9:=((m.t n).t I).t Q;zgR (er:=([5],[],[],[],0)) (dsts:=(zbP 76 6++[75,82,83,15,16])) c9 zbh<|zL (zks K)<|zL (zdH K)<|zL (zh zjf K zlL)<|zas (fun hD wD P S T hO _ _=>(zm 4 (S.sub T) (b2.up g8) zmL K))<|zas (fun hD wD P S T hO=>(zaQ (S.sub T) (c1.up g9) K zkQ zhi K))<|zas (fun hD wD P S T hO _ _ _ _=>(zqH (k:=(Pair.mk sx.as_ (((sx.first)+(i:Int))))) (zu:=zmo) (zpi).toKeyF zjg F ((hO K).ent (k:=1) K) zhP K K K))<|zL (ztY K)<|zL (zha (v:=(.agg (List.toArray _))) K K)<|zL (zha (v:=(.bool _)) K K)<|zmn zhP K<|zcf<|zL (zvG K)<|zdy<|fun w7=>fun s9 w9 _ a9 k5 _ _ _ _ _ _ _ _ _ _ _ _ _ _ _ _=>zq 6 k5 K zhi<|fun x0 k6=>?_;obtain ⟨x1,a1,k7,k8⟩:=k6.freeze (k:=6) rfl;have t0:=zaL.of k7;refine zl ⟨undef,K,_,_,a1,k8,?_⟩;intro k9 x2 _ b0 d2 _ _ _ _ _ _ _ _ _ _ _ _ _ _ _ _ _ _ _ _;refine zbT.fin K<|zF<|zw<|zp K<|zdJ K K<|D<|zaD K (fun a4=>?_) (fun a4=>?_)
   ·have q3:=((g8.t a9).t a1).t b0;have q4:=((g9.t a9).t a1).t b0;have q5:=(((((((a6.t z).t m).t n).t I).t Q).t a9).t a1).t b0;refine ziZ (dsts:=(zbP 86 6)) d2 zbh<|zL (zks K)<|zL (zdH K)<|zL (zh zjf K zlL)<|zas (fun hD wD P S T hO _ _=>(zm 4 (S.sub T) (b2.up q3) zmL K))<|zas (fun hD wD P S T hO=>(zaQ (S.sub T) (c1.up q4) K zkQ zhi K))<|zas (fun hD wD P S T hO=>(zaQ (S.sub T) (c8.up q5) K zkQ zhi K))<|zcf<|zdy<|fun t1 x3 _ l0 l1 _ _ _ _ _ _ _ _ _ _ _ _=>zka (i:=1) l1 F K c zpi zjg K (k:=(Pair.mk sx.as_ (((sx.first)+(i:Int))))) K (u:=(Pair.mk sx.chapter (((sx.from_)+(i:Int))))) K<|fun q6 x4 _ q7 f201 l2 l3=>?_;subst q7;refine zl ⟨undef,K,_,_,Le.refl _,l3,?_⟩;intro l4 x5 _ l5 l6 _ _ _ _ _ _ _ _ _ _ _ _;refine zbT.fin K<|zaF<|zo K zbj<|N K<|D<|have q8:=((((((((((((H.t c0).t b5).t a6).t z).t m).t n).t I).t Q).t a9).t a1).t b0).t l0).t l5;⟨⟨i+1,A,q6,l4⟩,⟨rfl,trivial⟩,?_,⟨q8,l6.take 3,?_,?_,?_,?_,?_⟩,?_⟩
    ·exact zba
    ·have q:=L
     first|(rw[zpP (by simpa using C)];exact q)|(rw[zpQ (by simpa using C)];exact q)
    ·have q:=f
     first|(rw[zpP (by simpa using C)];exact q)|(rw[zpQ (by simpa using C)];exact q)
    ·have q:=f201
     first|(rw[zna (by simpa using a4)];exact q)|(rw[znb (by simpa using a4)];exact q)
    ·have q:=l2
     first|(rw[zna (by simpa using a4)];exact q)|(rw[znb (by simpa using a4)];exact q)
    ·first|omega|(simp;omega)
    show (sx.to-sx.from_).toNat-(i+1)<(sx.to-sx.from_).toNat-i;omega
   refine zbO<|zaF<|zo K zbj<|N K<|D<|have q9:=((((((((((H.t c0).t b5).t a6).t z).t m).t n).t I).t Q).t a9).t a1).t b0;⟨⟨i+1,A,B,k9⟩,⟨rfl,trivial⟩,?_,⟨q9,d2.take 3,?_,?_,?_,?_,?_⟩,?_⟩
   ·exact zba
   ·have q:=L
    first|(rw[zpP (by simpa using C)];exact q)|(rw[zpQ (by simpa using C)];exact q)
   ·have q:=f
    first|(rw[zpP (by simpa using C)];exact q)|(rw[zpQ (by simpa using C)];exact q)
   ·have q:=F
    first|(rw[zna (by simpa using a4)];exact q)|(rw[znb (by simpa using a4)];exact q)
   ·have q:=c
    first|(rw[zna (by simpa using a4)];exact q)|(rw[znb (by simpa using a4)];exact q)
   ·first|omega|(simp;omega)
   show (sx.to-sx.from_).toNat-(i+1)<(sx.to-sx.from_).toNat-i;omega
  refine zdx<|zF<|zw<|Z zdF K zgx<|have r0:=((c7.t y).t b4).t H;Y 1 e1.sub (c6.up r0) zhG K<|N K ?_;have f212:=Sl.take e_f0 (k:=k) zW;have e4:=(s0.t b4).t H;refine zax rfl rfl (ziK (e_f0.up e4) rfl rfl (hk:=rfl) zW zcQ zdn) ?_;refine zG (f212.up e4) zcQ K<|N K<|D<|zT ?_;refine zaI ([5,6,7,17,18]++zbP 98 21) (G:=Nat×Heap) (fun ⟨j,b6⟩=>[(5,iV (clS e.stretches k).1),(6,iV (clS e.stretches k).2.1),(7,.bool (clS e.stretches k).2.2),(98,iV (j:Int))]) (fun ⟨j,b6⟩ w'=>Le d6 b6∧St h w b6 w' [A,B,[]]∧(j≤(e.stretches.take k).length)∧(∀ j',j'<j→(decide ((j':Int)<(clS e.stretches k).1) && zxa e.stretches j' sx)=false)) (fun ⟨j,b6⟩=>(e.stretches.take k).length-j) ⟨0,d6⟩ ⟨rfl,rfl,rfl,rfl,trivial⟩ ⟨Le.refl _,e1,zbB,(by intro j' hj';omega)⟩ ?_;rintro ⟨j,b6⟩ _ x6 ⟨g,c3,hj,hJ⟩;refine zw<|zM K<|D<|zaM<|zV K (fun e5=>?_) (fun e5=>?_)
  ·refine zaS<|zT<|zw<|N K ?_;obtain ⟨o,ho⟩:∃ y_,((e.stretches.take k))[j]?=some y_:=zdl zW;have r1:=e4.t g;obtain ⟨x7,x8,_,l7,l8,hr_o⟩:=Sl.elem (f212.up r1) ho;subst hr_o;refine zx l7 zcQ zdn K<|E c3.sub l8 zgJ zdn K<|zaf c3 Tryz.zeroValue211 K K<|fun x9 y0 l9=>U K<|zq 3 l9 K zdn<|fun y1 m0=>?_;obtain ⟨h0,a2,m1,l⟩:=m0.freeze (k:=3) rfl;have d3:=zaL.of m1;refine D<|zaM ?_;have c5:e.stretches[j]?=some o:=by have q_:=ho;rw[zaR] at q_;split at q_;exact q_;cases q_
   have hoo:=hl o (zD c5);have hjk:j<k:=by have q_:=(k_List_getElem__eq_some_iff.1 ho).1;rw[zt] at q_;omega
   refine zah<|N K<|N K<|zM K<|zp K<|zaK (d:=106) K (fun c2=>?_) (fun c2=>?_)
   ·refine X K<|E l.sub d3 zgJ zdn K<|X K<|E l.sub (a5.up ((H.t g).t a2)) zgJ zdn K<|X K<|zU K (zjb K K Tryz.eqGuardType211 (Tryz.eq_Stretch o sx))<|X K<|zp K<|zaK (d:=110) K (fun e6=>?_) (fun e6=>?_)
    ·refine zao 3 K<|X K<|zd K<|zd K<|D<|zaD K (fun h1=>?_) (fun h1=>?_)
     ·refine zw<|N K<|N K<|U K<|U K<|za K<|D<|zmO<|zlU K<|zfu<|zfu<|zlU K<|zls<|zF ?_
      first|have hcl:=zsn hsx c5 hjk c2 (by rw[zdi e6];rfl) hJ|have hcl:=zsn hsx c5 hjk c2 (by rw[e5];simp) hJ|have hcl:=zxo hsx (fun i_ hi_=>hJ i_ (by rw[zt] at *;omega))
      refine zah<|zo K zbj<|N K<|D<|have r2:=(((y.t b4).t H).t g).t a2;⟨⟨k+1,A,B,h0⟩,⟨?_,?_,?_,K,trivial⟩,?_,⟨r2,l.take 2,?_,?_,?_,?_,?_⟩,?_⟩
      ·exact zan (by rw[hcl])
      ·exact zan (by rw[hcl])
      ·exact zP (by rw[hcl])
      ·exact zba
      ·have q:=L;rw[zbg hsx,zpu,show zic sx=i by unfold zic;omega];exact q
      ·have q:=f;rw[zbg hsx,zpu,show zic sx=i by unfold zic;omega];exact q
      ·have q:=F;rw[zbg hsx,znZ,show zic sx=i by unfold zic;omega];exact q
      ·have q:=c;rw[zbg hsx,znZ,show zic sx=i by unfold zic;omega];exact q
      ·first|omega|(simp;omega)
      show e.stretches.length-(k+1)<e.stretches.length-k;omega
     cases h1
    refine X K<|E l.sub d3 zgJ zdn K<|X K<|E l.sub (a5.up ((H.t g).t a2)) zgJ zdn K<|X K ?_;refine zau l rfl rfl rfl Tryz.call180 rfl (zyp l.sub (a:=o) (b:=sx) (by exact hoo) (by exact hl sx (zD hsx))) ?_;intro y2 y3 h2 d4 d5 r3;subst r3;refine X K<|zb K<|zd K<|D<|zaD K (fun h4=>?_) (fun h4=>?_)
    ·refine zw<|N K<|N K<|U K<|U K<|za K<|D<|zmO<|zlU K<|zfu<|zfu<|zlU K<|zls<|zF ?_
     first|have hcl:=zsn hsx c5 hjk c2 (by rw[zdi e6];rfl) hJ|have hcl:=zsn hsx c5 hjk c2 (by rw[h4];simp) hJ|have hcl:=zxo hsx (fun i_ hi_=>hJ i_ (by rw[zt] at *;omega))
     refine zah<|zo K zbj<|N K<|D<|have r4:=((((y.t b4).t H).t g).t a2).t d4;⟨⟨k+1,A,B,h2⟩,⟨?_,?_,?_,K,trivial⟩,?_,⟨r4,d5.take 2,?_,?_,?_,?_,?_⟩,?_⟩
     ·exact zan (by rw[hcl])
     ·exact zan (by rw[hcl])
     ·exact zP (by rw[hcl])
     ·exact zba
     ·have q:=L;rw[zbg hsx,zpu,show zic sx=i by unfold zic;omega];exact q
     ·have q:=f;rw[zbg hsx,zpu,show zic sx=i by unfold zic;omega];exact q
     ·have q:=F;rw[zbg hsx,znZ,show zic sx=i by unfold zic;omega];exact q
     ·have q:=c;rw[zbg hsx,znZ,show zic sx=i by unfold zic;omega];exact q
     ·first|omega|(simp;omega)
     show e.stretches.length-(k+1)<e.stretches.length-k;omega
    refine zbO<|zaF<|zo K zbj<|N K<|D<|⟨⟨j+1,h2⟩,⟨rfl,K,K,K,trivial⟩,?_,⟨((g.t a2).t d4),d5.take 3,?_,?_⟩,?_⟩
    ·exact zba
    ·first|omega|(simp;omega)
    ·intro j' hj'
     rcases zbK (zca hj') with q_|q_
     ·exact hJ j' q_
     ·subst q_;simp only[zxa,c5];first|(rw[zcU (by assumption)];simp;done)|(simp_all;done)
    show (e.stretches.take k).length-(j+1)<(e.stretches.take k).length-j;omega
   refine zao 8 K<|zb K<|D<|zaD K (fun h5=>?_) (fun h5=>?_)
   ·cases h5
   refine zbO<|zaF<|zo K zbj<|N K<|D<|⟨⟨j+1,h0⟩,⟨rfl,K,K,K,trivial⟩,?_,⟨(g.t a2),l.take 3,?_,?_⟩,?_⟩
   ·exact zba
   ·first|omega|(simp;omega)
   ·intro j' hj'
    rcases zbK (zca hj') with q_|q_
    ·exact hJ j' q_
    ·subst q_;simp only[zxa,c5];first|(rw[zcU (by assumption)];simp;done)|(simp_all;done)
   show (e.stretches.take k).length-(j+1)<(e.stretches.take k).length-j;omega
  refine zdx<|zhQ<|zF ?_
  first|have hcl:=zsn hsx c5 hjk %g2 (by rw[zdi %g1];rfl) hJ|have hcl:=zsn hsx c5 hjk %g2 (by rw[e5];simp) hJ|have hcl:=zxo hsx (fun i_ hi_=>hJ i_ (by rw[zt] at *;omega))
  refine zah<|zo K zbj<|N K<|D<|have r5:=((y.t b4).t H).t g;⟨⟨k+1,A,B,b6⟩,⟨?_,?_,?_,K,trivial⟩,?_,⟨r5,c3.take 2,?_,?_,?_,?_,?_⟩,?_⟩
  ·exact zan (by rw[hcl])
  ·exact zan (by rw[hcl])
  ·exact zP (by rw[hcl])
  ·exact zba
  ·have q:=L;rw[zbg hsx,zpu,show zic sx=i by unfold zic;omega];exact q
  ·have q:=f;rw[zbg hsx,zpu,show zic sx=i by unfold zic;omega];exact q
  ·have q:=F;rw[zbg hsx,znZ,show zic sx=i by unfold zic;omega];exact q
  ·have q:=c;rw[zbg hsx,znZ,show zic sx=i by unfold zic;omega];exact q
  ·first|omega|(simp;omega)
  show e.stretches.length-(k+1)<e.stretches.length-k;omega
 refine zdx<|zF<|zw<|zno K K<|N K<|N K<|zp K<|zlx K K<|U K<|U K<|za K<|ze<|zlS<|zqx Tryz.results128 ?_;obtain ⟨r6,c4,f250,m2⟩:=OM.freeze (k:=0) d9 L rfl;have e7:=f250.to (show _=(asM e.stretches) by rw[zS zW]);have e8:FML (fun x:Pair=>.agg [iV x.a,iV x.b].toArray) (fun x:Pair=>[iV x.a,iV x.b]) zze r6 (asM e.stretches) (.map (some b8)):=⟨e7,by intro p_ hp_;rfl⟩;obtain ⟨h6,b3,f254,m3⟩:=OM.freeze (k:=1) m2 F rfl;have e9:=f254.to (show _=(zta e.stretches) by rw[zS zW]);have g0:FML (fun x:Pair=>.agg [iV x.a,iV x.b].toArray) (fun x:Pair=>[iV x.a,iV x.b]) zze h6 (zta e.stretches) (.map (some b9)):=⟨e9,by intro p_ hp_;rfl⟩;refine ⟨h6,_,K,m3.done,?_⟩;refine ⟨_,zxS K (zan ?_) (zan ?_) (zP ?_),Box.some ?_ (b2.up ((y.t c4).t b3)) ⟨_,_,_,_,K,(e_f0.up (((g3.t y).t c4).t b3)),(t_f0.up (((g3.t y).t c4).t b3)),(e8.up b3),g0⟩⟩
 all_goals first|rfl|(rw[zS zW];done)|(rw[show k=e.stretches.length by omega])
theorem zyr (hs:Sub h w) {t:Text} (t_f0:Sl zaN h t_v0 t.chapters) (e_f0:Sl zcp h e_v0 e.stretches) (K3:zaL h 3 0 Tryz.glob3) (hn20:e.stretches.length≤1000):Calls Tryz.prog 81 #[.agg #[t_v0],.agg #[iV e.id,e_v0]] w (zbH h w (fun _ _ res_=>res_=.tuple #[iV ((zoB t e).1),iV ((zoB t e).2.1),iV ((zoB t e).2.2)])):=by
 refine zg 30 Tryz.func81 K<|have f:=zcu hs;have c:=t_f0.le;have d:=e_f0.le;zw<|J [t_v0] f K<|fun b1 w2 h3 g P i=>J [iV e.id,e_v0] i K<|fun b7 w8 h9 C I B=>U K<|U K<|U K<|D<|zav<|E B.sub (P.up C) zaX zac K<|E B.sub I zft zdk K ?_;have H:=g.t C;refine zau B rfl rfl rfl Tryz.call127 rfl (zsZ B.sub (t:=t) (t_f0.up H) (e:=e) (e_f0.up H) (K3.up H) (by exact hn20)) ?_;intro y z j F A l;subst l;refine U K<|D<|zw<|N K<|zar K<|D<|zV K (fun Q=>?_) (fun Q=>?_)
 ·refine zw<|N K<|U K<|U K<|U K<|ze<|zN<|zlg Tryz.results81<|⟨j,_,K,A.done,?_⟩;refine zvV (zan ?_) (zan ?_) (zan ?_)
  all_goals simp_all[zoB]
 refine zaS ?_;have m:zeM t e=0:=by simpa using Q
 obtain ⟨a0,S,hst⟩:=ziG m;refine zah<|E A.sub (P.up (C.t F)) zaX zac K<|E A.sub (I.up F) zft zdk K ?_;have T:=H.t F;refine zau A rfl rfl rfl Tryz.call128 rfl (zrZ A.sub (t:=t) (t_f0.up T) (e:=e) (e_f0.up T) (by exact fun s_ hs_=>(hst s_ hs_).2) (by exact S)) ?_;intro a1 a2 a r L n;obtain ⟨a3,rfl,f29⟩:=n;obtain ⟨a4,s,rfl,u,b⟩:=f29;obtain ⟨a5,a6,a7,a8,rfl,f35,f37,v,x⟩:=b;have o:=f35.le;have p:=f37.le;refine zeZ K K<|zcv K<|zB K<|zB K<|zcV K<|zlx K K<|U K<|U K<|za K<|D<|zav<|zp K<|zdJ K K<|D<|zaD K (fun q=>?_) (fun q=>?_)
 ·refine zw<|U K<|U K<|U K<|ze<|zN<|zlg Tryz.results81<|⟨a,_,K,L.done,?_⟩;refine zvV (zan ?_) (zan ?_) (zan ?_)
  all_goals simp_all[zoB]
 refine zgg<|zw<|N K<|N K<|U K<|U K<|U K<|ze<|zlg Tryz.results81<|⟨a,_,K,L.done,?_⟩;refine zvV (zan ?_) (zan ?_) (zan ?_)
 all_goals simp_all[zoB]
theorem zzB (hs:Sub h w) {t:Text} (t_f0:Sl zaN h t_v0 t.chapters) (e_f0:Sl zcp h e_v0 e.stretches) (K3:zaL h 3 0 Tryz.glob3) (hn20:e.stretches.length≤1000):Calls Tryz.prog 44 #[.agg #[t_v0],.agg #[iV e.id,e_v0]] w (zbH h w (fun _ _ res_=>res_=iV (zeP t e))):=by
 refine zg 21 Tryz.func44 K<|have Q:=zcu hs;have L:=t_f0.le;have P:=e_f0.le;zw<|J [t_v0] Q K<|fun j l m S T a=>J [iV e.id,e_v0] a K<|fun n o p C I A=>U K<|D<|zw<|E A.sub (T.up C) zaX zac K<|E A.sub I zft zdk K ?_;have F:=S.t C;refine zau A rfl rfl rfl Tryz.call81 rfl (zyr A.sub (t:=t) (t_f0.up F) (e:=e) (e_f0.up F) (K3.up F) (by exact hn20)) ?_;intro g i H f B b;subst b;refine zeZ K K<|zB K<|zB K<|zB K<|U K<|U K<|U K<|D<|zaM<|zaM<|have hcs:=zBh t e;zah<|N K<|D<|zT<|zw<|zgL K K K<|za K<|D<|zV K (fun c=>?_) (fun c=>?_)
 ·refine zw<|U K<|ze<|zaq<|zf Tryz.results44<|⟨H,_,K,B.done,?_⟩;refine zan ?_
  first|(simp_all;done)|(split at hcs <;> simp_all)
 refine zw<|zgL K K K<|za K<|D<|zV K (fun d=>?_) (fun d=>?_)
 ·refine zw<|U K<|ze<|zaq<|zf Tryz.results44<|⟨H,_,K,B.done,?_⟩;refine zan ?_
  first|(simp_all;done)|(split at hcs <;> simp_all)
 refine zbO<|zhQ<|zF<|zw<|N K<|U K<|ze<|zf Tryz.results44<|⟨H,_,K,B.done,?_⟩;refine zan ?_
 first|(simp_all;done)|(split at hcs <;> simp_all)
theorem zyn (hs:Sub h w) {t:Text} (t_f0:Sl zaN h t_v0 t.chapters) {all__v:Value} {all_:(List Edition)} (all__f:Sl zqy h all__v all_) (K3:zaL h 3 0 Tryz.glob3) (hn:all_.length≤10) (hn20:∀ e∈all_,e.stretches.length≤1000):Calls Tryz.prog 234 #[.agg #[t_v0],all__v] w (zbH h w (fun h' _ res_=>∃ u0,res_=.tuple #[u0,iV (zpW t all_)]∧Sl (zFJ ztL) h' u0 (zvn t all_))):=by
 refine zg 50 Tryz.func234 K<|have d1:=zcu hs;have b9:=t_f0.le;have all__f_b:=all__f.le;zw<|J [t_v0] d1 K<|fun b1 w2 h3 l r d2=>zdD K K<|U K<|D<|zav<|zk all__v K<|zG (all__f.up l) zla K<|N K<|D<|zT ?_;refine zaI ([4,5,7,8]++zbP 18 11) (G:=Nat×Heap) (fun ⟨k,b⟩=>[(18,iV (k:Int))]) (fun ⟨k,b⟩ w'=>Le h3 b∧St h w b w' []∧(k≤all_.length)∧(∀ j x,j<k→all_[j]?=some x→zeM t x=0)) (fun ⟨k,b⟩=>all_.length-k) ⟨0,h3⟩ ⟨rfl,trivial⟩ ⟨Le.refl _,d2,zbB,(by intro j x hj;omega)⟩ ?_;rintro ⟨k,b⟩ _ e5 ⟨P,n,hk,hA⟩;refine zw<|zM K<|D<|zaM<|zV K (fun d3=>?_) (fun d3=>?_)
 ·refine zaS<|zT<|zw ?_;obtain ⟨e,he⟩:∃ y_,(all_)[k]?=some y_:=zdl zW;have s:=l.t P;obtain ⟨e6,e7,_,u,v,hr_e⟩:=Sl.elem (all__f.up s) he;obtain ⟨e8,rfl,f18⟩:=hr_e;have c7:=f18.le;refine zx u zla zdk K<|E n.sub v zft zdk K<|zaf n Tryz.zeroValue32 K K<|fun e9 g0 y=>zaU 0 y K (zbI K (zbI f18.one zgB)) zdk<|fun g1 z=>?_;obtain ⟨g2,C,a0,F⟩:=z.freeze (k:=0) rfl;have a1:=zaL.of a0;refine D<|zaM<|have a2:=hn20 e (zD he);zah<|E F.sub (r.up (P.t C)) zaX zac K<|E F.sub a1 zft zdk K ?_;have c0:=s.t C;refine zau F rfl rfl rfl Tryz.call127 rfl (zsZ F.sub (t:=t) (t_f0.up c0) (e:=e) (f18.up C) (K3.up c0) (by exact a2)) ?_;intro g3 g4 c1 a3 c d4;subst d4;refine U K<|D<|zw<|N K<|zar K<|D<|zV K (fun Q=>?_) (fun Q=>?_)
  ·refine zw<|N K<|zdD K K<|U K<|ze<|zaq<|zN<|zaq<|zbu Tryz.results234<|⟨c1,_,K,c.done,?_⟩;refine ⟨_,zfS K (zan ?_),Sl.to (Sl.nil _ _) ?_⟩
   ·exact (zww he hA (by simpa using Q)).symm
   rw[zvn,zam (by rw[zww he hA (by simpa using Q)];simpa using Q)]
  refine zbO<|zaF<|zo K zbj<|N K<|D<|⟨⟨k+1,c1⟩,⟨rfl,trivial⟩,?_,⟨((P.t C).t a3),c.take 0,?_,?_⟩,?_⟩
  ·exact zba
  ·first|omega|(simp;omega)
  ·intro j x hj hx
   rcases zbK (zca hj) with q|q
   ·exact hA j x q hx
   ·subst q;rw[he] at hx;cases hx;simpa using Q
  show all_.length-(k+1)<all_.length-k;omega
 refine zdx<|zF<|zw<|zdD K K<|D<|zaM<|zaM ?_;have hall:∀ e_∈all_,zeM t e_=0:=fun e_ he_=>by obtain ⟨j_,hj_⟩:=k_List_mem_iff_getElem_.1 he_;exact hA j_ e_ (by have q_:=(k_List_getElem__eq_some_iff.1 hj_).1;omega) hj_
 have hsc:=zzi hall;refine zah<|zk all__v K<|have c2:=l.t P;zG (all__f.up c2) zla K<|N K<|D<|zT ?_;have a4:=n.snoc;have f42:=OSl.nil (zFJ ztL) 230 b;refine zaI ([4,5,9,11,12,13,14,15]++zbP 31 18) (G:=Nat×Value×List (Nat×Obj)×Heap) (fun ⟨m,A,S,I⟩=>[(9,A),(31,iV (m:Int))]) (fun ⟨m,A,S,I⟩ w'=>Le b I∧St h w I w' [S]∧(OSl (zFJ ztL) 230 I A (((all_.take m).map (zkL t))) S)∧(m≤all_.length)∧(∀ j x,j<m→all_[j]?=some x→zkK x.stretches=false)) (fun ⟨m,A,S,I⟩=>all_.length-m) ⟨0,(.slice none 0 0),[],b⟩ ⟨rfl,rfl,trivial⟩ ⟨Le.refl _,a4,(OSl.to f42 (by rfl)),zbB,(by intro j x hj;omega)⟩ ?_;rintro ⟨m,A,S,I⟩ _ g5 ⟨T,a,d,hm,hC⟩;refine zw<|zM K<|D<|zaM<|zV K (fun d5=>?_) (fun d5=>?_)
 ·refine zaS<|zT<|zw ?_;obtain ⟨e,he⟩:∃ y_,(all_)[m]?=some y_:=zdl zW;have c3:=c2.t T;obtain ⟨g6,g7,_,a5,a6,hr_e⟩:=Sl.elem (all__f.up c3) he;obtain ⟨g8,rfl,f51⟩:=hr_e;have c8:=f51.le;refine zx a5 zla zdk K<|E a.sub a6 zft zdk K<|zaf a Tryz.zeroValue32 K K<|fun g9 h0 a7=>zaU 1 a7 K (zbI K (zbI f51.one zgB)) zdk<|fun h1 a8=>?_;obtain ⟨h2,B,a9,H⟩:=a8.freeze (k:=1) rfl;have b0:=zaL.of a9;refine D<|zaM ?_;obtain ⟨h4,b2,hst⟩:=ziG (hall e (zD he));have hcc:=zyZ (fun s_ hs_=>(hst s_ hs_).2);refine zah<|E H.sub (r.up ((P.t T).t B)) zaX zac K<|E H.sub b0 zft zdk K ?_;have d6:=c3.t B;refine zau H rfl rfl rfl Tryz.call128 rfl (zrZ H.sub (t:=t) (t_f0.up d6) (e:=e) (f51.up B) (by exact fun s_ hs_=>(hst s_ hs_).2) (by exact b2)) ?_;intro h5 h6 c4 f g d7;obtain ⟨h8,rfl,f70⟩:=d7;obtain ⟨c5,e3,rfl,b3,b4⟩:=f70;obtain ⟨h9,j0,j1,j2,rfl,f76,f78,b5,b6⟩:=b4;have c9:=f76.le;have d0:=f78.le;refine zeZ K K<|zcv K<|zB K<|zB K<|zcV K<|zlx K K<|U K<|U K<|za K<|D<|zav<|zp K<|D<|zaD K (fun o=>?_) (fun o=>?_)
  ·refine zw<|zdD K K<|U K<|ze<|zN<|zaq<|zN<|zaq<|zbu Tryz.results234<|⟨c4,_,K,g.done,?_⟩;refine ⟨_,zfS K (zan ?_),Sl.to (Sl.nil _ _) ?_⟩
   all_goals have hq:zpW t all_=8:=by rw[hsc,zab (zbM.2 ⟨e,zD he,by rw[← hcc];simpa using o⟩)]
   ·exact hq.symm
   rw[zvn,hq];rfl
  refine zgg<|zah<|zk A K<|zno K K<|zA (zFJ ztL) [(zkL t e)] [.pointer (some ⟨c5,0,none⟩)] g (Enc.cons (L:=(zFJ ztL)) (vs:=[.pointer (some ⟨c5,0,none⟩)]) (x:=(zkL t e)) (h:=c4) (⟨_,K,Box.some K b3 (⟨_,_,_,_,K,f76,f78,b5,b6⟩)⟩) Enc.nil) K Tryz.underlying346 Tryz.info230 zch<|fun j3 j4 d8 i f86 b7=>?_;refine zbe (k:=0) (nb:=8) b7 (d.up ((B.t f).t i)) rfl f86 rfl rfl rfl Tryz.underlying346 Tryz.info230 rfl rfl rfl (by decide) rfl (by simp only[zj,zaa,zt,zy,zC];omega) (by simp only[zj,zaa,zt,zy,zC];omega) ?_;intro c6 d9 j5 _ e0 f94 b8;subst e0;refine zH c6 K<|zl<|zaF<|zo K zbj<|N K<|D<|have e1:=((T.t B).t f).t i;⟨⟨m+1,c6,d9,d8⟩,⟨rfl,K,trivial⟩,?_,⟨e1,b8.take 1,?_,?_,?_⟩,?_⟩
  ·exact zba
  ·refine OSl.to f94 ?_;rw[zbg he,zaz];rfl
  ·first|omega|(simp;omega)
  ·intro j x hj hx
   rcases zbK (zca hj) with q|q
   ·exact hC j x q hx
   ·subst q;rw[he] at hx;cases hx;rw[← hcc];simpa using o
  show all_.length-(m+1)<all_.length-m;omega
 refine zdx<|zF<|zw<|zk A K<|zH A K<|U K<|ze<|zbu Tryz.results234 ?_;obtain ⟨e2,e4,f99,p⟩:=OSl.freeze (k:=0) a d rfl (by simp only[zj,zaa,zt,zy,zC];omega);refine ⟨e2,_,K,p.done,?_⟩;refine ⟨_,zfS K (zan ?_),Sl.to f99 ?_⟩
 all_goals have hq:zpW t all_=0:=by rw[hsc,zam (by rw[zbM];rintro ⟨e_,he_,q_⟩;obtain ⟨j_,hj_⟩:=k_List_mem_iff_getElem_.1 he_;rw[hC j_ e_ (by have q2_:=(k_List_getElem__eq_some_iff.1 hj_).1;omega) hj_] at q_;cases q_)]
 ·exact hq.symm
 rw[zvn,zab hq,zS zW]
theorem zxG (hs:Sub h w) {t:Text} (t_f0:Sl zaN h t_v0 t.chapters) (e_f0:Sl zcp h e_v0 e.stretches) (K3:zaL h 3 0 Tryz.glob3) (hn20:e.stretches.length≤1000):Calls Tryz.prog 185 #[.agg #[t_v0],.agg #[iV e.id,e_v0],.agg #[iV p.chapter,iV p.line,iV p.word]] w (zbH h w (fun h' _ res_=>∃ u0,res_=.tuple #[u0,iV (zjt t e p)]∧Box ztL h' (decide (zjt t e p=0)) (zkL t e) u0)):=by
 refine zg 34 Tryz.func185 K<|have v:=zcu hs;have s:=t_f0.le;have u:=e_f0.le;zw<|J [t_v0] v K<|fun b1 w2 h3 y b z=>J [iV e.id,e_v0] z K<|fun b7 w8 h9 C c d=>J [iV p.chapter,iV p.line,iV p.word] d K<|fun b4 b5 a4 B f F=>zfj K K<|U K<|D<|zw<|E F.sub (b.up (C.t B)) zaX zac K<|E F.sub (c.up B) zft zdk K<|have g:=(y.t C).t B;zA zqy [e] [iV e.id,e_v0] F (Enc.cons (L:=zqy) (vs:=[iV e.id,e_v0]) (x:=e) (h:=a4) (⟨_,K,(e_f0.up g)⟩) Enc.nil) K zla Tryz.info32 zch<|fun b6 b8 b9 H f22 Q=>?_;have S:=g.t H;have con:=(zyn Q.sub (t:=t) (t_f0.up S) f22 (K3.up S) (by simp) (by intro e_ he_;rw[zgc] at he_;rw[he_];exact hn20));rw[zwv,zCk] at con;refine zi Q K Tryz.call234 con<|fun c0 c1 a5 I A a6=>?_;obtain ⟨T,rfl,f34⟩:=a6;have a0:=f34.le;clear con;refine zeZ K K<|zbl T K<|zB K<|zH T K<|U K<|D<|zav<|N K<|zar K<|D<|zV K (fun a=>?_) (fun a=>?_)
 ·refine zw<|N K<|zfj K K<|U K<|ze<|zN<|zbu Tryz.results185<|⟨a5,_,K,A.done,?_⟩;refine ⟨_,zfS K (zan ?_),Box.nil ?_⟩
  all_goals first|(simp_all[zjt];done)|(cases e1_:zcz t <;> cases e2_:zeb t p <;> simp_all[zjt];done)
 refine zaS<|zaM ?_;have hs0_:zeP t e=0:=by simpa using a
 have c2:zcz t=true:=(ziG (ztR hs0_).1).1;refine zah<|have a7:=((C.t B).t H).t I;E A.sub (b.up a7) zaX zac K<|E A.sub (f.up (H.t I)) zaE zR K<|have a8:=S.t I;zi A K Tryz.call66 (znX A.sub (t:=t) (t_f0.up a8) (p:=p))<|fun c3 c4 i j P a9=>?_;subst a9;refine zeZ K K<|zbl (zae _) K<|zB K<|zhW K K<|U K<|D<|zw<|N K<|zar K<|D<|zV K (fun b0=>?_) (fun b0=>?_)
 ·refine zw<|N K<|zfj K K<|U K<|ze<|zN<|zbu Tryz.results185<|⟨i,_,K,P.done,?_⟩;refine ⟨_,zfS K (zan ?_),Box.nil ?_⟩
  all_goals first|(simp_all[zjt];done)|(cases e1_:zcz t <;> cases e2_:zeb t p <;> simp_all[zjt];done)
 refine zaS ?_;have b2:zeP t e=0:=by simpa using a
 have f45:=Sl.to (f34.up j) (show _=[zkL t e] from zab b2);have a1:=f45.le;refine zah<|zk T K ?_;obtain ⟨ch,hch⟩:∃ y_,([zkL t e])[0]?=some y_:=zdl (by simp);obtain ⟨c5,c6,_,l,m,hr_ch⟩:=Sl.elem f45 hch;obtain ⟨c7,rfl,f51⟩:=hr_ch;obtain ⟨c8,b3,rfl,n,o⟩:=f51;obtain ⟨c9,d0,d1,d2,rfl,f57,f59,q,r⟩:=o;have a2:=f57.le;have a3:=f59.le;refine zx l Tryz.underlying346 Tryz.sizeOf230 K ?_;obtain rfl:ch=zkL t e:=(zeO hch).symm;refine Y 0 P.sub m Tryz.isAgg230 K<|zlx K K<|U K<|ze<|zbu Tryz.results185<|⟨i,_,K,P.done,?_⟩;refine ⟨_,zfS K (zan ?_),Box.some ?_ n ⟨_,_,_,_,K,f57,f59,q,r⟩⟩
 all_goals first|(simp_all[zjt];done)|(cases e1_:zcz t <;> cases e2_:zeb t p <;> simp_all[zjt];done)
theorem ztK (hs:Sub h w) {b:Chart} (b_f0:Sl zcp h b_v0 b.edition.stretches) {b_v1:Value} (b_f1:Sl zaN h b_v1 b.text.chapters) {b_v2:Value} (b_f2:FML (fun x:Pair=>.agg [iV x.a,iV x.b].toArray) (fun x:Pair=>[iV x.a,iV x.b]) zze h b.as_ b_v2) {b_v3:Value} (b_f3:FML (fun x:Pair=>.agg [iV x.a,iV x.b].toArray) (fun x:Pair=>[iV x.a,iV x.b]) zze h b.back b_v3) (b_c:zaL h b_b 0 [iV b.edition.id,b_v0,b_v1,b_v2,b_v3]) (hw:0≤p.word∧p.word≤1000):Calls Tryz.prog 186 #[.pointer (some ⟨b_b,0,none⟩),.agg #[iV p.chapter,iV p.line,iV p.word]] w (zbH h w (fun _ _ res_=>res_=.tuple #[.agg #[iV (zzl b p).chapter,iV (zzl b p).line,iV (zzl b p).word],.bool (okC b p)])):=by
 refine zg 32 Tryz.func186 K<|have m:=zcu hs;have j:=b_f0.le;have l:=b_f1.le;zw<|J [iV p.chapter,iV p.line,iV p.word] m K<|fun b1 w2 h3 c P n=>zaf n Tryz.zeroValue138 K K<|fun b7 w8 o=>za K<|D<|zaM<|ziZ (dsts:=(zbP 9 10++[8,19,20,6,7])) o zbh<|zL (zks K)<|zL (zdH K)<|zL (zh zjf K zlL)<|zas (fun q r Q S T s _ _=>(zm 3 (S.sub T) (b_c.up c) zmL K))<|zL (zh zaC K zI)<|zas (fun q r Q S T s _ _=>(zm 0 (S.sub T) P zO K))<|zL (zh zaC K zI)<|zas (fun q r Q S T s _ _=>(zm 1 (S.sub T) P zO K))<|zL (zdT (cs:=[iV p.chapter,iV p.line]) zch)<|zas (fun q r Q S T s _ _ _ _=>(zya (k:=(Pair.mk p.chapter p.line)) (zu:=zmo) (zpi).toKeyF zjg (b_f2.up c).1 (S.sub T) zhP K K K))<|zL (ztY K)<|zL (zha (v:=(.agg (List.toArray _))) K K)<|zL (zha (v:=(.bool _)) K K)<|zmn zhP K<|zcf ?_;refine zL (zvG K)<|zdy<|fun z=>fun y a0 _ d e _ _ _ _ _ _ _ _ _ _ _ _ _ _ _ _ _ _ _ _ _ _ _ _=>zq 1 e K zhi<|fun a1 f=>?_;obtain ⟨a2,C,g,i⟩:=f.freeze (k:=1) rfl;have F:=zaL.of g;refine zl ⟨undef,K,_,_,C,i,?_⟩;intro H a3 _ B A _ _ _ _ _ _ _ _ _ _ _ _ _ _ _ _ _ _ _ _ _ _ _ _ _ _ _ _;refine zbT.fin K<|zF<|zav<|zp K<|zdJ K K<|D<|zaD K (fun u=>?_) (fun u=>?_)
 ·refine zw<|zU K (zdT (cs:=[iV 0,iV 0,iV 0]) zch)<|zq 0 A K zeo<|fun a4 I=>za K<|ze<|zN<|zhm Tryz.results186 K zjm zeo K (I.get (k:=0) K)<|⟨H,_,K,I.done,?_⟩;refine zfS ?_ (zP ?_)
  all_goals first|(cases hq_:zcI b.as_ ⟨p.chapter,p.line⟩ <;> simp_all[zzl,okC,zvU];done)|(cases hq_:zcI b.as_ ⟨p.chapter,p.line⟩ <;> simp_all[zzl,okC,zvU] <;> rfl)
 refine zgg<|zw<|zU K (zex K K K K Tryz.underlying292 zI)<|Y 0 A.sub (F.up B) zO K<|zU K (zex K K K K Tryz.underlying292 zI)<|Y 1 A.sub (F.up B) zO K<|Z zaC K zI<|Y 2 A.sub (P.up ((d.t C).t B)) zO K<|zo K zbj<|zU K (zdT (cs:=[iV (((zcI b.as_ (Pair.mk p.chapter p.line)).getD zmo).a),iV (((zcI b.as_ (Pair.mk p.chapter p.line)).getD zmo).b),iV ((p.word)+1)]) zch)<|zq 0 A K zeo<|fun a5 L=>za K<|ze<|zhm Tryz.results186 K zjm zeo K (L.get (k:=0) K)<|⟨H,_,K,L.done,?_⟩;refine zfS ?_ (zP ?_)
 all_goals first|(cases hq_:zcI b.as_ ⟨p.chapter,p.line⟩ <;> simp_all[zzl,okC,zvU];done)|(cases hq_:zcI b.as_ ⟨p.chapter,p.line⟩ <;> simp_all[zzl,okC,zvU] <;> rfl)
theorem zyq (hs:Sub h w) {t:Text} (t_f0:Sl zaN h t_v0 t.chapters) (e_f0:Sl zcp h e_v0 e.stretches) (K3:zaL h 3 0 Tryz.glob3) (hn20:e.stretches.length≤1000):Calls Tryz.prog 136 #[.agg #[t_v0],.agg #[iV e.id,e_v0],.agg #[iV p.chapter,iV p.line,iV p.word]] w (zbH h w (fun _ _ res_=>res_=.tuple #[.agg #[iV (zih t e p).chapter,iV (zih t e p).line,iV (zih t e p).word],iV (zmA t e p)])):=by
 refine zg 33 Tryz.func136 K<|have a5:=zcu hs;have a0:=t_f0.le;have a1:=e_f0.le;zw<|J [t_v0] a5 K<|fun b1 w2 h3 a6 a7 a8=>J [iV e.id,e_v0] a8 K<|fun b7 w8 h9 L f g=>J [iV p.chapter,iV p.line,iV p.word] g K<|fun b4 b5 b6 F P i=>zaf i Tryz.zeroValue138 K K<|fun b8 b9 A=>U K<|D<|zw<|E A.sub (a7.up (L.t F)) zaX zac K<|E A.sub (f.up F) zft zdk K<|E A.sub P zaE zR K ?_;have c:=(a6.t L).t F;refine zau A rfl rfl rfl Tryz.call185 rfl (zxG A.sub (t:=t) (t_f0.up c) (e:=e) (e_f0.up c) (p:=p) (K3.up c) (by exact hn20)) ?_;intro c0 c1 j l B I
 rcases zbN (decide (zjt (t) (e) (p)=0)) with C|C
 ·simp only[C,if_true,if_false,zbd,reduceIte] at I;obtain ⟨c2,rfl,f31⟩:=I;obtain ⟨c3,b0,rfl,m,n⟩:=f31;obtain ⟨c4,c5,c6,c7,rfl,f37,f39,o,q⟩:=n;have a3:=f37.le;have a4:=f39.le;refine zeZ K K<|zcv K<|zB K<|zlx K K<|U K<|D<|zav<|N K<|zar K<|D<|zV K (fun r=>?_) (fun r=>?_)
  ·refine zw<|zU K (zdT (cs:=[iV 0,iV 0,iV 0]) zch)<|N K<|zq 0 B K zeo<|fun c8 Q=>U K<|ze<|zN<|zhm Tryz.results136 K zjm zeo K (Q.get (k:=0) K)<|⟨j,_,K,Q.done,?_⟩;refine zfS ?_ (zan ?_)
   all_goals (obtain ⟨q1_,q2_⟩:=zyD (t:=t) (e:=e) (p:=p) (by simpa using r);first|(rw[q1_];done)|(rw[q1_];rfl)|(rw[q2_];done)|(simp_all;done))
  refine zaS ?_;have hpz:zjt t e p=0:=by simpa using C
  have hpw:=zvH hpz;refine zah<|zno K K<|E B.sub (P.up l) zaE zR K ?_;have con:=(ztK B.sub (b:=(zkL t e)) f37 f39 o q m (p:=p) (by exact hpw));rw[zFX,zHn] at con;refine zi B K Tryz.call186 con<|fun c9 d0 d1 b2 s a9=>?_;subst a9;clear con;refine zeZ K K<|zbl (.agg (List.toArray _)) K<|zcV K<|zaf s Tryz.zeroValue138 K K<|fun d2 d3 u=>zq 1 u K zeo<|fun d4 v=>?_;obtain ⟨x,b3,y,H⟩:=v.freeze (k:=1) rfl;have z:=zaL.of y;refine za K<|D<|zav<|zp K<|zdJ K K<|D<|zaD K (fun d=>?_) (fun d=>?_)
  ·refine zw<|zU K (zdT (cs:=[iV 0,iV 0,iV 0]) zch)<|zq 0 H K zeo<|fun d5 S=>U K<|ze<|zN<|zhm Tryz.results136 K zjm zeo K (S.get (k:=0) K)<|⟨x,_,K,S.done,?_⟩;refine zfS ?_ (zan ?_)
   all_goals (obtain ⟨q1_,q2_⟩:=zBP hpz (by simpa using d);first|(rw[q1_];done)|(rw[q1_];rfl)|(rw[q2_];done)|(simp_all;done))
  refine zgg<|zw<|E H.sub z zjm zeo K<|zq 0 H K zeo<|fun d6 T=>U K<|ze<|zhm Tryz.results136 K zjm zeo K (T.get (k:=0) K)<|⟨x,_,K,T.done,?_⟩;refine zfS ?_ (zan ?_)
  all_goals (obtain ⟨q1_,q2_⟩:=zBO hpz (by simpa using d);first|(rw[q1_];done)|(rw[q1_];rfl)|(rw[q2_];done)|(simp_all;done))
 simp only[C,if_true,if_false,zbd,reduceIte] at I;obtain ⟨d7,rfl,f69⟩:=I;subst f69;refine zeZ K K<|zdm K<|zB K<|zfj K K<|U K<|D<|zav<|N K<|zar K<|D<|zV K (fun a2=>?_) (fun a2=>?_)
 ·refine zw<|zU K (zdT (cs:=[iV 0,iV 0,iV 0]) zch)<|N K<|zq 0 B K zeo<|fun d8 a=>U K<|ze<|zN<|zhm Tryz.results136 K zjm zeo K (a.get (k:=0) K)<|⟨j,_,K,a.done,?_⟩;refine zfS ?_ (zan ?_)
  all_goals (obtain ⟨q1_,q2_⟩:=zyD (t:=t) (e:=e) (p:=p) (by simpa using a2);first|(rw[q1_];done)|(rw[q1_];rfl)|(rw[q2_];done)|(simp_all;done))
 exfalso;simp_all
theorem ztI (hs:Sub h w) (b_f0:Sl zaN h b_v0 b.chapters) (b_c:zaL h b_b 0 [b_v0]) (c_f0:Sl zgz h c_v0 c.readings) (ht:zcz b=true) (hp:zeb b p=true):Calls Tryz.prog 96 #[.pointer (some ⟨b_b,0,none⟩),.agg #[iV c.id,c_v0],.agg #[iV p.chapter,iV p.line,iV p.word]] w (zbH h w (fun _ _ res_=>res_=zae (zod b c p))):=by
 refine zg 35 Tryz.func96 K<|have b4:=zcu hs;have a9:=b_f0.le;have b0:=c_f0.le;zw<|J [iV c.id,c_v0] b4 K<|fun b1 w2 h3 b5 b6 b8=>J [iV p.chapter,iV p.line,iV p.word] b8 K<|fun b7 w8 h9 a C g=>zhW K K<|D<|zav<|Z zcP K zfy<|Y 1 g.sub (b6.up a) zgl K<|have S:=b5.t a;zG (c_f0.up S) zco K<|N K<|D<|zT ?_;refine zaI ([6,8]++zbP 12 16) (G:=Nat×Heap) (fun ⟨k,F⟩=>[(12,iV (k:Int))]) (fun ⟨k,F⟩ w'=>Le h9 F∧St h w F w' []∧(k≤c.readings.length)∧(∀ j x,j<k→c.readings[j]?=some x→(decide (x.at_=p) && decide (x.kind≠2))=false)) (fun ⟨k,F⟩=>c.readings.length-k) ⟨0,h9⟩ ⟨rfl,trivial⟩ ⟨Le.refl _,g,zbB,(by intro j x hj;omega)⟩ ?_;rintro ⟨k,F⟩ _ c7 ⟨A,H,hk,hA⟩;refine zw<|zM K<|D<|zaM<|zV K (fun s=>?_) (fun s=>?_)
 ·refine zaS<|zT<|zw ?_;obtain ⟨r,hr⟩:∃ y_,(c.readings)[k]?=some y_:=zdl zW;have b9:=S.t A;obtain ⟨c8,c9,_,u,v,hr_r⟩:=Sl.elem (c_f0.up b9) hr;obtain ⟨rfl,c4,y⟩:=hr_r;simp only[big] at y;refine zx u zco zdo K<|E H.sub v zjk zdo K<|zaf H ziU K K<|fun d0 d1 z=>zq 0 z K zdo<|fun d2 a1=>?_;obtain ⟨m,I,a2,B⟩:=a1.freeze (k:=0) rfl;have L:=zaL.of a2;refine D<|zw<|Z zaO K zR<|zr 0 [iV r.at_.chapter,iV r.at_.line,iV r.at_.word] B.sub L zaE zR K<|E B.sub (C.up (A.t I)) zaE zR K<|zU K (zjb K K zgr (Tryz.eq_Place r.at_ p))<|zp K<|zaK (d:=20) K (fun c0=>?_) (fun c0=>?_)
  ·refine X K<|Z zaO K zcg<|X K<|Y 3 B.sub L zda K<|X K<|zar K<|zd K<|D<|zV K (fun n=>?_) (fun n=>?_)
   ·refine zw<|Z zaO K zap<|Y 4 B.sub L zaZ K<|zhW K K<|ze<|zaq<|zN<|zaq<|zf Tryz.results96<|⟨m,_,K,B.done,?_⟩;refine ziE ?_;exact (zyC hr hA (by first|(simpa using n)|(simp_all;done))).symm
   refine zbO<|zaF<|zo K zbj<|N K<|D<|⟨⟨k+1,m⟩,⟨rfl,trivial⟩,?_,⟨(A.t I),B.take 0,?_,?_⟩,?_⟩
   ·exact zba
   ·first|omega|(simp;omega)
   ·intro j x hj hx
    rcases zbK (zca hj) with q|q
    ·exact hA j x q hx
    ·subst q;rw[hr] at hx;cases hx;first|(simpa using n)|(simp_all;done)
   show c.readings.length-(k+1)<c.readings.length-k;omega
  refine zao 3 K<|zb K<|D<|zaD K (fun b2=>?_) (fun b2=>?_)
  ·cases b2
  refine zbO<|zaF<|zo K zbj<|N K<|D<|⟨⟨k+1,m⟩,⟨rfl,trivial⟩,?_,⟨(A.t I),B.take 0,?_,?_⟩,?_⟩
  ·exact zba
  ·first|omega|(simp;omega)
  ·intro j x hj hx
   rcases zbK (zca hj) with q|q
   ·exact hA j x q hx
   ·subst q;rw[hr] at hx;cases hx;first|(simpa using s)|(simp_all;done)
  show c.readings.length-(k+1)<c.readings.length-k;omega
 refine zdx<|zF<|zaM ?_;have q2:=zrF b p;have q3:0≤p.word∧p.word<(((zdw b p).getD []).length:Int):=by rw[hp] at q2;simp[inB] at q2;omega
 have hno:=zvy (t:=b) (p:=p) (fun j x hj=>hA j x (by have q_:=(k_List_getElem__eq_some_iff.1 hj).1;omega) hj);obtain ⟨wd,hwd⟩:∃ y_,((((zdw b p).getD [])))[p.word.toNat]?=some y_:=zdl zW;refine ziZ (dsts:=(zbP 28 7++[6])) H zbh<|zL (zks K)<|zas (fun hD wD T i Q hO=>(zaQ (i.sub Q) (C.up A) K zaE zR K))<|zbq (.res (fun h' res_=>Sl zea h' res_ (((zdw b p).getD []))) (fun _ _ _ hl f=>f.up hl)) ?_ ?_
 ·intro hD wD T i Q hO _ _ _ _;have l:=St.start Q;refine zi l K Tryz.call115 (zmc l.sub (t:=b) (b_f0.up ((S.t A).trans i)) (b_c.up ((S.t A).trans i)) (p:=p))<|fun d3 d4 d5 c5 a3 c1=>?_;obtain ⟨d6,c2,f47⟩:=c1;rw[← c2] at f47;have b3:=f47.le;exact zl ⟨_,_,K,a3,_,K,f47⟩
 refine zL (zh zaC K zI)<|zas (fun hD wD T i Q hO _ _=>(zm 2 (i.sub Q) (C.up A) zO K)) ?_;refine zbq (.res (fun h' res_=>∃ b o,res_=.pointer (some ⟨b,o,none⟩)∧zaL h' b o [zae wd]) (by rintro _ _ _ hl ⟨b,o,e,c⟩;exact ⟨b,o,e,c.up hl⟩)) ?_ ?_
 ·intro hD wD T i Q hO gv2_0 gf2_0 _ _;have a4:=St.start Q;obtain ⟨b_,o_,_,he_,hc_,hr_⟩:=Sl.elem gf2_0 hwd;obtain ⟨rfl,a5⟩:=hr_;simp only[big] at a5;refine zax rfl rfl (zcD he_ rfl rfl (hk:=(show _=((p.word.toNat:Nat):Int) by omega)) (hu:=zJ) (hz:=zap)) ?_;exact zl ⟨_,_,K,a4,_,K,_,_,K,hc_⟩
 refine zbq (.det (zae wd)) ?_ ?_
 ·intro hD wD T i Q hO gv5_ gf5_;obtain ⟨d7,d8,rfl,c3⟩:=gf5_;have a6:=St.start Q;exact Y 0 Q c3 zaZ K<|zl ⟨_,_,K,a6,(),K,trivial⟩
 refine zL (zCz K)<|zdy<|fun a7 d9 _ c6 a8 _ _ _ _ gv2_0x56 gf2_0x56 _ _ _ _ a0 P _ _ _ _=>?_;obtain ⟨gb5x56,go5x56,rfl,gc5x56⟩:=P;refine zbT.fin K<|zF<|zky<|zf Tryz.results96<|⟨a7,_,K,a8.done,?_⟩;refine ziE ?_;rw[hno,zbY,zyy hp hwd];rfl
theorem zxE (hs:Sub h w) (c_f0:Sl zgz h c_v0 c.readings) (b_f0:Sl zaN h b_v0 b.chapters) (b_c:zaL h b_b 0 [b_v0]) (b_cc:zaL h b_bb 0 [.pointer (some ⟨b_b,0,none⟩)]) (K0:zaL h 0 0 Tryz.glob0) (ht:zcz b=true):Calls Tryz.prog 92 #[.agg #[iV c.id,c_v0],.pointer (some ⟨b_bb,0,none⟩)] w (zbH h w (fun _ _ res_=>res_=.bool (!zmY b c))):=by
 refine zg 8 Tryz.func92 K<|have I:=zcu hs;have F:=c_f0.le;have H:=b_f0.le;zw<|J [iV c.id,c_v0] I K<|fun T a d A L B=>za K<|D<|zw<|Y 0 B.sub (b_cc.up A) Tryz.isAgg187 K<|E B.sub L zjY zgw K ?_;refine zau B rfl rfl rfl Tryz.call93 rfl (zuy B.sub (b:=b) (b_f0.up A) (b_c.up A) (c:=c) (c_f0.up A) (K0.up A) zW) ?_;intro e f S Q C P;obtain rfl:=P;refine zdJ K K<|za K<|ze<|zf Tryz.results92<|⟨S,_,K,C.done,?_⟩;refine zP ?_;rfl
theorem zxD (hs:Sub h w) (c_f0:Sl zgz h c_v0 c.readings) (b_f0:Sl zaN h b_v0 b.chapters) (b_c:zaL h b_b 0 [b_v0]) (b_cc:zaL h b_bb 0 [.pointer (some ⟨b_b,0,none⟩)]) {p_b:Nat} (p_c:zaL h p_b 0 [iV p.chapter,iV p.line,iV p.word]) {sw_b:Nat} {sw:Str} (sw_le:sw.length≤281474976710656) (sw_c:zaL h sw_b 0 [zae sw]) (ht:zcz b=true) (hp:zeb b p=true):Calls Tryz.prog 95 #[.agg #[iV c.id,c_v0],.pointer (some ⟨b_bb,0,none⟩),.pointer (some ⟨p_b,0,none⟩),.pointer (some ⟨sw_b,0,none⟩)] w (zbH h w (fun _ _ res_=>res_=.bool ((decide (zod b c p≠sw))))):=by
 refine zg 12 Tryz.func95 K<|have I:=zcu hs;have F:=c_f0.le;have H:=b_f0.le;zw<|J [iV c.id,c_v0] I K<|fun T a P A L B=>za K<|D<|zaM<|zcY zbh zch (Cls P _) (Cls.drew B)<|zaT 0 (b_cc.up A) Tryz.isAgg187 K<|zdp L zjY zgw K<|zdp (p_c.up A) zaE zR K ?_;refine zeI rfl rfl (fun _=>zcT rfl Tryz.call96 rfl) (fun _ hC=>zbH.quiet hC (ztI hC.sub (b:=b) (b_f0.up A) (b_c.up A) (c:=c) (c_f0.up A) (p:=p) zW zW)) ?_;refine zaT 0 (sw_c.up A) zaZ K<|zbf K K (fun _ _=>(zpg K K))<|ztP K K<|zci ?_;rintro d ⟨Q,S⟩;have C:=B.call0 S;refine zF<|zky<|zf Tryz.results95<|⟨Q,_,K,C.done,?_⟩;refine zP ?_
 first|rfl|(simp_all;done)
theorem zuA (hs:Sub h w) {t:Text} (t_f0:Sl zaN h t_v0 t.chapters) {l:(List Copy)} (l_f:Sl zhl h l_v l) (K0:zaL h 0 0 Tryz.glob0):Calls Tryz.prog 50 #[.agg #[t_v0],l_v] w (zbH h w (fun h' _ res_=>∃ u0,res_=.tuple #[u0,iV (zgZ t l)]∧Sl zdO h' u0 (zpl t l))):=by
 refine zrd (n:=37) Tryz.func50 K K K<|have g4:=zcu hs;have e3:=t_f0.le;have l_f_b:=l_f.le;zdA<|zby K<|J [t_v0] g4 K<|fun b1 w2 h3 e5 g5 g6=>zoV g6 (v:=l_v) (cs:=[l_v]) K (l_f.up e5).box1 K<|fun b7 w8 h9 a0 m o=>zdD K K<|U K<|zl<|zay<|zdA<|zby K<|E o.sub (g5.up a0) zaX zac K<|have e6:=e5.t a0;zi o K Tryz.call90 (zvO o.sub (t:=t) (t_f0.up e6))<|fun k3 k4 k5 a a1 c1=>?_
 rcases zbN (zcz (t)) with d|d
 ·simp only[d,if_true,if_false,zbd,reduceIte] at c1;obtain ⟨k6,rfl,f22⟩:=c1;obtain ⟨k7,h8,rfl,e,c6⟩:=f22;obtain ⟨k8,rfl,f28⟩:=c6;have e9:=f28.le;refine zeZ K K<|zcv K<|zB K<|zaf a1 Tryz.zeroValue187 K K<|fun k9 l0 c7=>zaw 0 c7 K Tryz.sizeOf187<|fun l1 c8=>?_;obtain ⟨g7,A,c9,P⟩:=c8.freeze (k:=0) rfl;have q:=zaL.of c9;refine U K<|zl<|zay<|zdA<|zdA<|zby K<|N K<|zar K<|zl<|zay ?_;refine zjP K (fun e7=>?_) (fun e7=>?_)
  ·exact absurd e7 (by decide)
  refine zmP<|zay<|zdA<|zdA ?_;have T:zcz t=true:=d;have hpl:=zgi T;refine zby K<|Y 0 P.sub (m.up (a.t A)) zhI K<|have c2:=(e6.t a).t A;zG (l_f.up c2) zed K<|zhn K K K<|zl<|zay ?_;refine zjP K (fun Q=>?_) (fun Q=>?_)
  ·replace Q:=znP Q;refine zdA<|zby K<|zdD K K<|U K<|zl<|zay<|zlR<|zjd<|zim<|zbu Tryz.results50<|⟨g7,_,K,P.done,?_⟩;refine ⟨_,zfS K (zan ?_),Sl.to (Sl.nil _ _) ?_⟩
   all_goals (have hd:zgZ t l=4:=by rw[zgZ,zab T,zam (by have q_:=Q;omega)])
   all_goals first|(rw[zpl,zam (by rw[hd];decide)];done)|(simp_all;done)
  replace Q:=znh Q;refine zmP<|zay<|zdA<|zdA<|zby K<|Y 0 P.sub (m.up (a.t A)) zhI K<|zgm K K K ?_;refine zau P rfl rfl rfl Tryz.call91 rfl (ziC P.sub (l_f.up c2) (fun x_=>(!zmY t x_)) Tryz.call92 (fun x_ h_ w_ vs_ le_ hs_ hx_ hr_ u_ hu_=>by obtain ⟨v0_,rfl,f0_⟩:=hr_;cases hu_;exact zxE hs_ (c:=x_) f0_ (b:=(t)) ((f28.up A).up le_) ((e.up A).up le_) (q.up le_) ((K0.up c2).up le_) (by exact T))) ?_;intro l2 l3 g8 B a2 g9;subst g9;refine zl<|zay ?_;refine zjP K (fun c3=>?_) (fun c3=>?_)
  ·refine zdA<|zby K<|zdD K K<|U K<|zl<|zay<|zlR<|zjd<|zim<|zbu Tryz.results50<|⟨g8,_,K,a2.done,?_⟩;refine ⟨_,zfS K (zan ?_),Sl.to (Sl.nil _ _) ?_⟩
   all_goals (have hd:zgZ t l=11:=by rw[zgZ,zab T,zab (by have q_:=Q;omega),zam (by have q_:=c3;simpa [zbM] using q_)])
   all_goals first|(rw[zpl,zam (by rw[hd];decide)];done)|(simp_all;done)
  refine zmP<|zay<|zdA<|zby K<|zaf a2 Tryz.zeroValue79 K K<|fun j l4 r=>zl<|zay<|zdA<|zdA<|zby K<|Y 0 r.sub (q.up B) Tryz.isAgg187 K<|zcG K K (zcT K Tryz.call94 K) ((zwe r.sub (b:=(t)) (f28.up (A.t B)) (e.up (A.t B))).mono ?_);rintro _ h0 ⟨c4,d0,rfl,H,h1,d1⟩;refine ⟨_,K,?_⟩;have a3:=r.call h1;have d2:St h w c4 h0 [[],[(j,.cells (List.toArray [(.slice none 0 0)]) 79)]]:=by rw[zbL] at a3;exact a3
  refine zl<|zay<|zkh ?_;have d3:=d2.snoc;have f61:=OSl.nil zdO 68 c4;have a7:zrf Tryz.prog 148 [.pointer (some ⟨d0,0,none⟩)] (fun pre_ h_ us_ x_=>∃ u_ v_,us_=[u_,v_]∧(fun (pre_:List Place) (h_:Heap) u_ v_ (x_:Place)=>(u_=.agg #[iV x_.chapter,iV x_.line,iV x_.word]∧v_=zae (zbY t x_))∧(zbJ t)[pre_.length]?=some x_) pre_ h_ u_ v_ x_) (fun xs_=>xs_=zbJ t) h w c4:=by
   intro l_ J_ Jx_ hm_ hxm_ hY_ h1_ w1_ rest_ le_ hJ_ st_;exact zuz (b:=(t)) ((f28.up ((A.t B).t H)).up le_) ((e.up ((A.t B).t H)).up le_) (d1.up le_) hm_ hxm_ hJ_ (fun _ _ _ _ _ _ _ l2_ a_ b_ c_=>hY_ _ _ _ _ _ _ _ (le_.trans l2_) a_ b_ c_)  st_
  refine zkR (I:=fun xs h_ own_=>∃ (v_:Value) (o_:List (Nat×Obj)),own_=[[],[(j,.cells (List.toArray [v_]) 79)],o_]∧OSl zdO 68 h_ v_ (xs.filter (zmD t l)) o_∧xs=(zbJ t).take xs.length) (Ix:=fun _ _ _ _=>False) d3 rfl Tryz.call148 rfl rfl a7 (by rintro xs_ h1_ h2_ o1_ ⟨v_,o_,rfl,q1_,q2_⟩ l_;exact ⟨v_,o_,rfl,q1_.up l_,q2_⟩) (by intro _ _ _ _ _ h_ _;exact h_) ⟨.slice none 0 0,[],rfl,by exact ⟨OSl.nil zdO 68 _,rfl⟩⟩ ?_ ?_ ?_
  ·rintro l_ pre x l5 l6 _ tail u65 u70 f ⟨v_,o_,rfl,g⟩ d4 d5;obtain ⟨⟨rfl,rfl⟩,hxp⟩:=d5;have hlt:=(k_List_getElem__eq_some_iff.1 hxp).1;have hxm:=zD hxp;have j0:=zqh T (zlC hxm);have j1:(zbY t x).length≤281474976710656:=by omega
   refine zdA<|zby K<|zhy d4 zjx K K K (us:=[iV x.chapter,iV x.line,iV x.word]) (fun _=>K) K zR K<|fun l7 l8 l9 F a4 d6=>zl<|zay<|zby K<|zyx d6 Tryz.zeroValue9 K K K (v:=zae (zbY t x)) (fun _=>K) K zap<|fun m0 m1 m2 C d7 d8=>zl ?_;refine zow (own2:=[[],[(j,.cells (List.toArray [v_]) 79)],o_]) (F.t C) d8 ?_;intro e4 m3 s;refine zkh<|zdA<|zby K<|have h2:=(((((a.t A).t B).t H).t f).t F).t C;Y 0 s.sub (m.up h2) zhI K<|zgm K K K ?_;have e8:=((((A.t B).t H).t f).t F).t C;have h4:=(((B.t H).t f).t F).t C;have h5:=((((c2.t B).t H).t f).t F).t C;refine zau s rfl rfl rfl Tryz.call91 rfl (ziC s.sub (l_f.up h5) (fun x_=>(decide (zod t x_ (x)≠(zbY t x)))) Tryz.call95 (fun x_ h_ w_ vs_ le_ hs_ hx_ hr_ u_ hu_=>by obtain ⟨v0_,rfl,f0_⟩:=hr_;cases hu_;exact zxD hs_ (c:=x_) f0_ (b:=(t)) ((f28.up e8).up le_) ((e.up e8).up le_) ((q.up h4).up le_) (p:=x) ((a4.up C).up le_) (sw:=(zbY t x)) (by assumption) (d7.up le_) (by exact T) (by exact zlC hxm))) ?_;intro m4 m5 h6 S i h7;subst h7;refine zl<|zay ?_;refine zjP K (fun c5=>?_) (fun c5=>?_)
   ·refine zby K<|zgs (i.get (k:=1) K) K K Tryz.isAgg79 K<|E i.sub (a4.up (C.t S)) zaE zR K<|zA zdO [x] [iV x.chapter,iV x.line,iV x.word] i (Enc.cons (L:=zdO) (vs:=[iV x.chapter,iV x.line,iV x.word]) (x:=x) (h:=h6) K Enc.nil) K zbp Tryz.info68 zch<|fun m6 m7 j2 u f99 a8=>?_;have d9:=((F.t C).t S).t u;refine zbe (k:=2) (nb:=24) a8 (g.1.up d9) rfl f99 rfl rfl rfl zbp Tryz.info68 rfl rfl rfl (by decide) rfl (by have q_:=zak (zmD t l) pre;simp only[zj,zy,zC];omega) (by have q_:=zak (zmD t l) pre;simp only[zj,zy,zC];omega) ?_;intro y a5 j3 _ e0 f107 a9;subst e0;refine zeH a9 (k:=1) K K (v:=y) K f107.one Tryz.sizeOf79 K K K<|fun j4 b0=>zl<|zfY ?_;refine zgV (own3:=[[],[(j,.cells (List.toArray [y]) 79)],a5]) (S.t u) b0 ⟨y,a5,?_,?_⟩
    ·rfl
    ·exact ⟨OSl.to f107 (by rw[zbc,zbo,zab (by simpa [zmD] using c5)];rfl),zjF g.2 hxp⟩
   ·refine zmP<|zfY ?_;refine zgV (own3:=[[],[(j,.cells (List.toArray [v_]) 79)],o_]) S i ⟨v_,o_,?_,?_⟩
    ·rfl
    ·exact ⟨OSl.to (g.1.up ((F.t C).t S)) (by rw[zbc,zbo,zam (by simpa [zmD] using c5)];simp),zjF g.2 hxp⟩
  ·rintro j5 xs j6 j7 _ g0 b2 ⟨v_,o_,rfl,b3⟩ z;have hxe:=b2;refine zfY<|zay<|zdA<|zby K<|zgs (z.get (k:=1) K) K K Tryz.isAgg79 K<|zH v_ K<|U K<|zl<|zay<|zlR<|zne (own:=[[],[(j,.cells (List.toArray [v_]) 79)],o_]) z<|fun j8 b4=>zbu Tryz.results50 ?_;obtain ⟨e1,g1,f123,b5⟩:=OSl.freeze (k:=2) b4 b3.1 rfl (by have q_:=zak (zmD t l) xs;rw[hxe] at q_;rw[hxe];omega);refine ⟨e1,_,K,b5.done,?_⟩;refine ⟨_,zfS K (zan ?_),Sl.to f123 ?_⟩
   all_goals (have hd:zgZ t l=0:=by rw[zgZ,zab T,zab (by have q_:=Q;omega),zab (by have q_:=c3;rw[zal];simpa using q_)])
   all_goals first|(rw[zpl,zab hd,zgv,hxe];done)|exact hd.symm|(simp_all;done)
  intro _ _ _ _ _ _ _ hf_;exact hf_.elim
 simp only[d,if_true,if_false,zbd,reduceIte] at c1;obtain ⟨j9,rfl,f126⟩:=c1;subst f126;refine zeZ K K<|zdm K<|zB K<|zaf a1 Tryz.zeroValue187 K K<|fun k0 k1 b6=>zaw 0 b6 K Tryz.sizeOf187<|fun k2 b8=>?_;obtain ⟨e2,g2,b9,c0⟩:=b8.freeze (k:=0) rfl;have g3:=zaL.of b9;refine U K<|zl<|zay<|zdA<|zdA<|zby K<|N K<|zar K<|zl<|zay ?_;refine zjP K (fun a6=>?_) (fun a6=>?_)
 ·refine zdA<|zby K<|N K<|zdD K K<|U K<|zl<|zay<|zlR<|zjd<|zim<|zbu Tryz.results50<|⟨e2,_,K,c0.done,?_⟩;refine ⟨_,zfS K (zan ?_),Sl.to (Sl.nil _ _) ?_⟩
  all_goals (have hd:zgZ t l=10:=by rw[zgZ,zam (by simp_all)])
  all_goals first|(rw[zpl,zam (by rw[hd];decide)];done)|(simp_all;done)
 exact absurd a6 (by decide)
end Go.Pk
