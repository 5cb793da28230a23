/- A PART OF THE PROOF: contracts of functions. -/
import Derived.Test.YtjkkoclmagdpoaaGreatDoorT12
set_option linter.all false
set_option maxRecDepth 4000
set_option maxHeartbeats 4000000
namespace Go.Pk
open Go Go.RowKit Go.Proofs
variable {h:Heap} {w:World} {c:Copy} {r:Records} {r_v0 r_v1 r_v2 r_v3 r_v4 d_v0 d_v1 d_v2 d_v3 d_v4 d_v5 l_v t_v0 e_v0 a_v0 b_v0 c_v0:Value} {d_b:Nat} {d:Desk} {p:Place} {e:Edition}
theorem zzL (hs:Sub h w) {c:Cut} (c_l2:0≤c.side∧c.side≤255):Calls Tryz.prog 52 #[.agg #[iV c.width,.int .u8 c.side]] w (zbH h w (fun _ _ res_=>res_=iV (znH c))):=by
 refine zg 16 Tryz.func52 K<|have b:=zcu hs;zw<|J [iV c.width,.int .u8 c.side] b K<|fun z w2 m n H I=>U K<|D<|zav<|Z Tryz.underlying34 K zI<|Y 0 I.sub H zO K<|zA zeg [c.width] [iV c.width] I (Enc.cons (L:=zeg) (vs:=[iV c.width]) (x:=(c.width)) (h:=m) K Enc.nil) K zbx Tryz.info3 zch<|fun v7 w8 o P f9 B=>zi B K Tryz.call105 (zzc B.sub _ _ f9)<|fun p q Q S A e=>?_;subst e;refine zdJ K K<|zp K<|zbX (d:=8) K (fun f=>?_) (fun f=>?_)
 ·refine zao 6 K<|zd K<|D<|zaD K (fun T=>?_) (fun T=>?_)
  ·refine zw<|U K<|ze<|zN<|zf Tryz.results52<|⟨Q,_,K,A.done,?_⟩;refine zan ?_
   all_goals first|(simp_all[znH,ztp,zey];done)|(simp[znH,ztp,zey] at *;simp_all;done)
  cases T
 refine X K<|Z Tryz.underlying34 K zcg<|X K<|Y 1 A.sub (H.up (P.t S)) zda K<|X K ?_;refine zax rfl rfl (zkH rfl rfl zcW (IntWalk.i64_in _ zW)) ?_;refine X K<|zA zeg [c.side] [iV c.side] A (Enc.cons (L:=zeg) (vs:=[iV c.side]) (x:=(c.side)) (h:=Q) K Enc.nil) K zbx Tryz.info3 zch<|fun r s u j f23 C=>X K<|zi C K Tryz.call105 (zzc C.sub _ _ f23)<|fun v y a l F g=>?_;subst g;refine X K<|zdJ K K<|zb K<|D<|zaD K (fun i=>?_) (fun i=>?_)
 ·refine zw<|U K<|ze<|zN<|zf Tryz.results52<|⟨a,_,K,F.done,?_⟩;refine zan ?_
  all_goals first|(simp_all[znH,ztp,zey];done)|(simp[znH,ztp,zey] at *;simp_all;done)
 refine zgg<|zw<|U K<|ze<|zf Tryz.results52<|⟨a,_,K,F.done,?_⟩;refine zan ?_
 all_goals first|(simp_all[znH,ztp,zey];done)|(simp[znH,ztp,zey] at *;simp_all;done)
theorem zzG (hs:Sub h w) (r_f0:Sl zaN h r_v0 r.text.chapters) (r_f1:Sl zhl h r_v1 r.copies) (r_f2:Sl zeE h r_v2 r.lexicon.rules) (r_f3:Sl zaG h r_v3 r.lexicon.decisions) (r_f4:Sl zcp h r_v4 r.edition.stretches) (r_l8:0≤r.cut.side∧r.cut.side≤255) (K3:zaL h 3 0 Tryz.glob3) (K1:zaL h 1 0 Tryz.glob1) (K0:zaL h 0 0 Tryz.glob0) (hn20:r.edition.stretches.length≤1000):Calls Tryz.prog 15 #[.agg #[r_v0,r_v1,r_v2,r_v3,iV r.edition.id,r_v4,iV r.cut.width,.int .u8 r.cut.side]] w (zbH h w (fun _ _ res_=>res_=iV (zpd r))):=by
 refine zg 39 Tryz.func15 K<|have a9:=zcu hs;have a3:=r_f0.le;have a4:=r_f1.le;have a5:=r_f2.le;have a6:=r_f3.le;have a7:=r_f4.le;zw<|J [r_v0,r_v1,r_v2,r_v3,iV r.edition.id,r_v4,iV r.cut.width,.int .u8 r.cut.side] a9 K<|fun b1 w2 h3 B P T=>U K<|D<|zw<|Z zaA K zac<|zr 0 [r_v0] T.sub P zaX zac K<|Z zaA K zhj<|Y 1 T.sub P zhI K<|zi T K Tryz.call50 (zuA T.sub (t:=r.text) (r_f0.up B) (r_f1.up B) (K0.up B))<|fun r7 w8 h9 A o b0=>?_;obtain ⟨p,rfl,f14⟩:=b0;have a8:=f14.le;refine zeZ K K<|zbl p K<|zB K<|zH p K<|U K<|D<|zaM<|zaM<|ziZ (dsts:=(zbP 15 17)) o zbh<|zL (zh zaA K zac)<|zas (fun S b F C H d _ _=>(zbv 0 [r_v0] (C.sub H) (P.up A) zaX zac K))<|zL (zh zaA K zcL)<|zas (fun S b F C H d _ _=>(zbv 2 [r_v2,r_v3] (C.sub H) (P.up A) zeK zcL K))<|zbq (.det (iV (zcZ r.text r.lexicon))) ?_ ?_
 ·intro S b F C H d _ _ _ _;have g:=St.start H;refine zi g K Tryz.call51 (zuu g.sub (t:=r.text) (r_f0.up ((B.t A).trans C)) (x:=r.lexicon) (r_f2.up ((B.t A).trans C)) (r_f3.up ((B.t A).trans C)) (K1.up ((B.t A).trans C)))<|fun c1 c2 c3 b6 q b2=>?_;subst b2;exact zl ⟨_,_,K,q,(),K,trivial⟩
 refine zL (zh zaA K zac)<|zas (fun S b F C H d _ _=>(zbv 0 [r_v0] (C.sub H) (P.up A) zaX zac K))<|zL (zh zaA K zdk)<|zas (fun S b F C H d _ _=>(zbv 4 [iV r.edition.id,r_v4] (C.sub H) (P.up A) zft zdk K))<|zbq (.det (iV ((zeP r.text r.edition)))) ?_ ?_
 ·intro S b F C H d _ _ _ _ _ _;have i:=St.start H;refine zau i rfl rfl rfl Tryz.call44 rfl (zzB i.sub (t:=r.text) (r_f0.up ((B.t A).trans C)) (e:=r.edition) (r_f4.up ((B.t A).trans C)) (K3.up ((B.t A).trans C)) (by exact hn20)) ?_;intro c4 c5 c6 b7 s b3;subst b3;exact zl ⟨_,_,K,s,(),K,trivial⟩
 refine zL (zh zaA K zjI)<|zas (fun S b F C H d _ _=>(zbv 6 [iV r.cut.width,.int .u8 r.cut.side] (C.sub H) (P.up A) Tryz.isAgg34 zjI K))<|zbq (.det (iV ((znH r.cut)))) ?_ ?_
 ·intro S b F C H d _ _ _ _;have j:=St.start H;refine zi j K Tryz.call52 (zzL j.sub (c:=r.cut) zfb)<|fun c7 c8 c9 b8 u b4=>?_;subst b4;exact zl ⟨_,_,K,u,(),K,trivial⟩
 refine zL (zho K)<|zbq (.res (fun h' res_=>Sl zeg h' res_ ([(zcZ r.text r.lexicon),((zeP r.text r.edition)),((znH r.cut)),((zgZ r.text r.copies))])) (fun _ _ _ hl f=>f.up hl)) ?_ ?_
 ·intro S b F C H d _ _ _ _ _ _ _ _;have v:=St.start H;exact zA zeg [(zcZ r.text r.lexicon),((zeP r.text r.edition)),((znH r.cut)),((zgZ r.text r.copies))] [iV (zcZ r.text r.lexicon),iV ((zeP r.text r.edition)),iV ((znH r.cut)),iV ((zgZ r.text r.copies))] v (Enc.cons (L:=zeg) (vs:=[iV (zcZ r.text r.lexicon)]) (x:=(zcZ r.text r.lexicon)) (h:=S) K (Enc.cons (L:=zeg) (vs:=[iV ((zeP r.text r.edition))]) (x:=((zeP r.text r.edition))) (h:=S) K (Enc.cons (L:=zeg) (vs:=[iV ((znH r.cut))]) (x:=((znH r.cut))) (h:=S) K (Enc.cons (L:=zeg) (vs:=[iV ((zgZ r.text r.copies))]) (x:=((zgZ r.text r.copies))) (h:=S) K Enc.nil)))) K Tryz.underlying119 Tryz.info46 zch<|fun d0 d1 d2 b9 f39 y=>zl ⟨_,_,K,y,_,K,f39⟩
 refine zbq (.det (iV (([(zcZ r.text r.lexicon),((zeP r.text r.edition)),((znH r.cut)),((zgZ r.text r.copies))]).length:Int))) ?_ ?_
 ·intro S b F C H d gv14_0 gf14_0;have z:=St.start H;exact zG gf14_0 Tryz.underlying119 K<|zl ⟨_,_,K,z,(),K,trivial⟩
 refine zL (zho K)<|zdy<|fun l d3 _ c0 a0 _ _ _ _ _ _ _ _ _ _ _ _ _ _ _ _ _ _ _ _ _ _ _ _ _ _ _ _ gv14_0x48 gf14_0x48 _ _ _ _=>zbT.fin K<|zF<|zT ?_;refine zaI ([2,6]++zbP 31 8) (G:=Nat×Heap) (fun ⟨k,I⟩=>[(31,iV (k:Int))]) (fun ⟨k,I⟩ w'=>Le l I∧St h w I w' []∧(k≤[zcZ r.text r.lexicon,zeP r.text r.edition,znH r.cut,zgZ r.text r.copies].length)∧(zpd r=orL ([zcZ r.text r.lexicon,zeP r.text r.edition,znH r.cut,zgZ r.text r.copies].drop k))) (fun ⟨k,I⟩=>[zcZ r.text r.lexicon,zeP r.text r.edition,znH r.cut,zgZ r.text r.copies].length-k) ⟨0,l⟩ ⟨rfl,trivial⟩ ⟨Le.refl _,a0,zbB,(by rfl)⟩ ?_;rintro ⟨k,I⟩ _ d4 ⟨m,Q,hk,he⟩;refine zw<|zM K<|D<|zaM<|zV K (fun b5=>?_) (fun b5=>?_)
 ·refine zaS<|zT<|zw ?_;obtain ⟨a,ha⟩:∃ y_,(([(zcZ r.text r.lexicon),((zeP r.text r.edition)),((znH r.cut)),((zgZ r.text r.copies))]))[k]?=some y_:=zdl zW;obtain ⟨d5,d6,_,a1,a2,hr_a⟩:=Sl.elem (gf14_0x48.up m) ha;subst hr_a;refine zx a1 Tryz.underlying119 Tryz.sizeOf46 K<|Y 0 Q.sub a2 Tryz.isAgg46 K<|U K<|D<|zaM ?_;have d7:k≤4:=hk;refine zah<|N K<|zar K<|D<|zV K (fun n=>?_) (fun n=>?_)
  ·refine zw<|N K<|U K<|ze<|zaq<|zN<|zaq<|zf Tryz.results15<|⟨I,_,K,Q.done,?_⟩;refine zan ?_;rw[he,zud ha,zab (by simpa using n)]
  refine zbO<|zaF<|zo K zbj<|N K<|D<|⟨⟨k+1,I⟩,⟨rfl,trivial⟩,?_,⟨m,Q,?_,?_⟩,?_⟩
  ·exact zba
  ·first|omega|(simp;omega)
  ·rw[he,zud ha,zam (by simpa using n)]
  show [zcZ r.text r.lexicon,zeP r.text r.edition,znH r.cut,zgZ r.text r.copies].length-(k+1) < [zcZ r.text r.lexicon,zeP r.text r.edition,znH r.cut,zgZ r.text r.copies].length-k;omega
 refine zdx<|zF<|zw<|U K<|ze<|zf Tryz.results15<|⟨I,_,K,Q.done,?_⟩;refine zan ?_;rw[he,zeV zW];rfl
theorem zBj (hs:Sub h w) (r_f0:Sl zaN h r_v0 r.text.chapters) (r_f1:Sl zhl h r_v1 r.copies) (r_f2:Sl zeE h r_v2 r.lexicon.rules) (r_f3:Sl zaG h r_v3 r.lexicon.decisions) (r_f4:Sl zcp h r_v4 r.edition.stretches) (r_l8:0≤r.cut.side∧r.cut.side≤255) (K3:zaL h 3 0 Tryz.glob3) (K1:zaL h 1 0 Tryz.glob1) (K0:zaL h 0 0 Tryz.glob0) (hn20:r.edition.stretches.length≤1000):Calls Tryz.prog 41 #[.agg #[r_v0,r_v1,r_v2,r_v3,iV r.edition.id,r_v4,iV r.cut.width,.int .u8 r.cut.side]] w (zbH h w (fun h' _ res_=>∃ u0,res_=.tuple #[u0,iV (zpd r)]∧Box zGY h' (decide (zpd r=0)) (zmE r) u0)):=by
 refine zg 40 Tryz.func41 K<|have c5:=zcu hs;have b7:=r_f0.le;have b8:=r_f1.le;have b9:=r_f2.le;have c0:=r_f3.le;have c1:=r_f4.le;zw<|J [r_v0,r_v1,r_v2,r_v3,iV r.edition.id,r_v4,iV r.cut.width,.int .u8 r.cut.side] c5 K<|fun b1 w2 h3 F e j=>zfj K K<|U K<|D<|zav<|E j.sub e zeX zdc K ?_;refine zau j rfl rfl rfl Tryz.call15 rfl (zzG j.sub (r:=r) (r_f0.up F) (r_f1.up F) (r_f2.up F) (r_f3.up F) (r_f4.up F) zfb (K3.up F) (K1.up F) (K0.up F) (by exact hn20)) ?_;intro r7 w8 h9 L S c6;subst c6;refine U K<|D<|zw<|N K<|zar K<|D<|zV K (fun v=>?_) (fun v=>?_)
 ·refine zw<|N K<|zfj K K<|U K<|ze<|zN<|zbu Tryz.results41<|⟨h9,_,K,S.done,?_⟩;refine ⟨_,zfS K (zan ?_),Box.nil ?_⟩
  all_goals first|rfl|(simp_all;done)
 refine zgg<|zw<|E S.sub (e.up L) zeX zdc K<|ziN (κ:=Place) (υ:=Bool) (ek:=zix) (eu:=(fun b:Bool=>.bool b)) S K<|fun d7 c7 d8 f17 x=>?_;obtain ⟨P,rfl⟩:=f17.form;have y:(([]:List (Place×Bool)).map (·.1)).Nodup:=by simp
 refine zax rfl rfl (zdT (cs:=[r_v0,r_v1,r_v2,r_v3,iV r.edition.id,r_v4,iV r.cut.width,.int .u8 r.cut.side,(.map (some P))]) (by obtain ⟨_,_,rfl⟩:=Sl.form r_f0;obtain ⟨_,_,rfl⟩:=Sl.form r_f1;obtain ⟨_,_,rfl⟩:=Sl.form r_f2;obtain ⟨_,_,rfl⟩:=Sl.form r_f3;obtain ⟨_,_,rfl⟩:=Sl.form r_f4;kernel_rfl)) ?_;refine J [r_v0,r_v1,r_v2,r_v3,iV r.edition.id,r_v4,iV r.cut.width,.int .u8 r.cut.side,(.map (some P))] x K<|fun d9 e0 e1 T f Q=>zlx K K<|D<|zaM ?_;have c8:zpd r=0:=by simpa using v
 obtain ⟨c9,e2,e3,z⟩:=zlA c8;have hpl:=zgi (zei c9);have hdl:=zDX (t:=r.text) (l:=r.copies);refine zah<|Z zaA K zac<|zr 0 [r_v0] Q.sub (e.up (L.t T)) zaX zac K<|Z zaA K zhj<|Y 1 Q.sub (e.up (L.t T)) zhI K ?_;have H:=(F.t L).t T;have con:=(zuA Q.sub (t:=r.text) (r_f0.up H) (r_f1.up H) (K0.up H));rw[zBd z,z] at con;refine zi Q K Tryz.call50 con<|fun e4 e5 c2 B a0 d0=>?_;obtain ⟨m,rfl,f35⟩:=d0;have c4:=f35.le;clear con;refine zeZ K K<|zbl m K<|zB K<|zH m K<|U K<|D<|zav<|zk m K<|zG f35 zbp K<|N K<|D<|zT ?_;refine zaI ([9]++zbP 29 10) (G:=Nat×List (Nat×Obj)×Heap) (fun ⟨k,I,a⟩=>[(29,iV (k:Int))]) (fun ⟨k,I,a⟩ w'=>Le c2 a∧St h w a w' [I]∧(OM zix (fun b:Bool=>.bool b) (zrl ((zgv r.text r.copies).take k)) I (.map (some P)))∧(((zrl ((zgv r.text r.copies).take k)).map (·.1)).Nodup)∧(k≤(zgv r.text r.copies).length)) (fun ⟨k,I,a⟩=>(zgv r.text r.copies).length-k) ⟨0,c7,c2⟩ ⟨rfl,trivial⟩ ⟨Le.refl _,a0,(by have q:=f17;exact q),(by have q:=y;exact q),zbB⟩ ?_;rintro ⟨k,I,a⟩ _ e6 ⟨A,c,d,n,hk⟩;refine zw<|zM K<|D<|zaM<|zV K (fun d1=>?_) (fun d1=>?_)
 ·refine zaS<|zT<|zw ?_;obtain ⟨p,hp⟩:∃ y_,(zgv r.text r.copies)[k]?=some y_:=zdl zW;obtain ⟨e7,e8,_,a1,a2,hr_p⟩:=Sl.elem (f35.up A) hp;subst hr_p;refine zx a1 zbp zR K<|E c.sub a2 zaE zR K<|zaf c zjx K K<|fun e9 g0 a3=>zq 1 a3 K zR<|fun g1 a4=>?_;obtain ⟨g2,g,a5,a6⟩:=a4.freeze (k:=1) rfl;have a7:=zaL.of a5;refine D<|ziZ (dsts:=[33,34,35,36,37]) a6 zbh<|zL (zks K)<|zL (zdH K)<|zL (zh zgO K Tryz.sizeOf107)<|zas (fun hD wD d2 hL hS hO _ _=>(zm 8 (hL.sub hS) (f.up ((B.t A).t g)) Tryz.isAgg107 K))<|zas (fun hD wD d2 hL hS hO=>(zaQ (hL.sub hS) a7 K zaE zR K))<|zcf<|zdy<|fun d6 g3 _ a8 a9 _ _ _ _ _ _ _ _ _ _=>zka (i:=0) a9 d K n zhB zlc K (k:=p) K (u:=true) K<|fun d3 g4 _ d4 f63 b0 b2=>?_;subst d4;refine zl ⟨undef,K,_,_,Le.refl _,b2,?_⟩;intro b3 g5 _ b4 b5 _ _ _ _ _ _ _ _ _ _;refine zbT.fin K<|zaF<|zo K zbj<|N K<|D<|have d5:=((A.t g).t a8).t b4;⟨⟨k+1,d3,b3⟩,⟨rfl,trivial⟩,?_,⟨d5,b5.take 1,?_,?_,?_⟩,?_⟩
  ·exact zba
  ·have q:=f63;rw[← zoT] at q;rw[zbg hp];exact q
  ·have q:=b0;rw[← zoT] at q;rw[zbg hp];exact q
  ·first|omega|(simp;omega)
  show (zgv r.text r.copies).length-(k+1)<(zgv r.text r.copies).length-k;omega
 refine zdx<|zF<|zw<|zno K K<|zlx K K<|U K<|ze<|zbu Tryz.results41 ?_;obtain ⟨c3,C,f74,b6⟩:=OM.freeze (k:=0) c d rfl;have o:=f74.to (show _=(zrl (zgv r.text r.copies)) by rw[zS zW]);have s:FM zix (fun b:Bool=>.bool b) c3 (zrl (zgv r.text r.copies)) (.map (some P)):=o;refine ⟨c3,_,K,b6.done,?_⟩;refine ⟨_,zfS K (zan ?_),Box.some ?_ (f.up ((B.t A).t C)) ⟨_,_,_,_,_,_,K,(r_f0.up (((H.t B).t A).t C)),(r_f1.up (((H.t B).t A).t C)),(r_f2.up (((H.t B).t A).t C)),(r_f3.up (((H.t B).t A).t C)),(r_f4.up (((H.t B).t A).t C)),zfb,s⟩⟩
 all_goals first|rfl|(simp_all;done)
theorem zwb (hs:Sub h w) (d_f0:Sl zaN h d_v0 d.recs.text.chapters) (d_f1:Sl zhl h d_v1 d.recs.copies) (d_f2:Sl zeE h d_v2 d.recs.lexicon.rules) (d_f3:Sl zaG h d_v3 d.recs.lexicon.decisions) (d_f4:Sl zcp h d_v4 d.recs.edition.stretches) (d_l8:0≤d.recs.cut.side∧d.recs.cut.side≤255) (d_f5:FM zix (fun b:Bool=>.bool b) h d.doubt d_v5) (d_c:zaL h d_b 0 [d_v0,d_v1,d_v2,d_v3,iV d.recs.edition.id,d_v4,iV d.recs.cut.width,.int .u8 d.recs.cut.side,d_v5]) (K3:zaL h 3 0 Tryz.glob3) (hn20:d.recs.edition.stretches.length≤1000):Calls Tryz.prog 86 #[.pointer (some ⟨d_b,0,none⟩),.agg #[iV p.chapter,iV p.line,iV p.word]] w (zbH h w (fun _ _ res_=>res_=.agg #[iV (zkc d p).at_.chapter,iV (zkc d p).at_.line,iV (zkc d p).at_.word,iV (zkc d p).ref.chapter,iV (zkc d p).ref.line,iV (zkc d p).ref.word,.int .u8 (zkc d p).sure])):=by
 refine zg 32 Tryz.func86 K<|have a7:=zcu hs;have a2:=d_f0.le;have a3:=d_f1.le;have a4:=d_f2.le;have a5:=d_f3.le;have a6:=d_f4.le;zw<|J [iV p.chapter,iV p.line,iV p.word] a7 K<|fun b1 w2 h3 B a a8=>zaf a8 Tryz.zeroValue140 K K<|fun b7 w8 j=>D<|zw<|E j.sub a zaE zR K<|zU K (zdT (cs:=[iV p.chapter,iV p.line,iV p.word,iV 0,iV 0,iV 0,.int .u8 2]) zch)<|zaf j Tryz.zeroValue140 K K<|fun c1 c2 l=>zq 1 l K zdz<|fun c3 m=>D<|zaM<|ziZ (dsts:=(zbP 9 12++[8,21,22,23])) m zbh<|zL (zks K)<|zL (zdH K)<|zL (zh zgO K zdc) ?_;refine zL (zh zaA K zac)<|zas (fun f g C A F i _ _=>(zbv 0 [d_v0] (A.sub F) (d_c.up B) zaX zac K))<|zL (zks K)<|zL (zdH K)<|zL (zh zgO K zdc)<|zL (zh zaA K zdk)<|zas (fun f g C A F i _ _=>(zbv 4 [iV d.recs.edition.id,d_v4] (A.sub F) (d_c.up B) zft zdk K))<|zas (fun f g C A F i=>(zaQ (A.sub F) a K zaE zR K))<|zbq (.det (.tuple #[.agg (List.toArray [iV ((zih d.recs.text d.recs.edition p).chapter),iV ((zih d.recs.text d.recs.edition p).line),iV ((zih d.recs.text d.recs.edition p).word)]),iV ((zmA d.recs.text d.recs.edition p))])) ?_ ?_
 ·intro f g C A F i _ _ _ _ _ _;have I:=St.start F;refine zau I rfl rfl rfl Tryz.call136 rfl (zyq I.sub (t:=d.recs.text) (d_f0.up (B.trans A)) (e:=d.recs.edition) (d_f4.up (B.trans A)) (p:=p) (K3.up (B.trans A)) (by exact hn20)) ?_;intro c4 c5 c6 b3 n a9;subst a9;exact zl ⟨_,_,K,n,(),K,trivial⟩
 refine zL (ztY K)<|zL (zha (v:=(.agg (List.toArray _))) K K)<|zL (zha (v:=(.int _ _)) K K)<|zL (zh zfG K zeo)<|zcf<|zdy<|fun b4 c7 _ L o _ _ _ _ _ _ _ _ _ _ _ _ _ _ _ _ _ _ _ _ _ _ _ _ _ _ _ _ _ _=>zq 1 o K zeo<|fun c8 q=>zl ⟨undef,K,_,_,Le.refl _,q,?_⟩;intro b5 c9 _ P r _ _ _ _ _ _ _ _ _ _ _ _ _ _ _ _ _ _ _ _ _ _ _ _ _ _ _ _ _ _ _ _;refine zbT.fin K<|zF<|zaM<|zaM<|have s:=(B.t L).t P;ziZ (dsts:=(zbP 24 6)) r zbh<|zL (zks K)<|zL (zdH K)<|zL (zh zgO K Tryz.sizeOf107)<|zas (fun f g C A F i _ _=>(zm 8 (A.sub F) (d_c.up s) Tryz.isAgg107 K))<|zas (fun f g C A F i=>(zaQ (A.sub F) (a.up (L.t P)) K zaE zR K))<|zas (fun f g C A F i _ _ _ _=>(zqI (k:=p) (zu:=false) (zhB).toKeyF zlc (d_f5.up s) (A.sub F) Tryz.zeroValue4 K K K))<|zdy<|fun b6 d0 _ b8 H _ _ _ _ _ _ _ _ _ _ _ _=>zbT.fin K<|zF<|zaD K (fun c=>?_) (fun c=>?_)
 ·refine zah<|Z zfG K zcg<|zaw 1 H K zcg<|fun d1 Q=>D<|zw<|zem (Q.get (k:=1) K) K zil zdz K K<|zq 0 Q K zdz<|fun d2 u=>?_;obtain ⟨b0,b9,x,S⟩:=u.freeze (k:=0) rfl;have y:=zaL.of x;refine ze<|zgj Tryz.results86 K zil zdz K S.sub y<|⟨b0,_,K,S.done,?_⟩;refine ?_;have hq:zkc d p=⟨p,zih d.recs.text d.recs.edition p,1⟩:=by have q_:=c;simp_all[zkc,zyB]
  simp only[hq];rfl
 refine zgg<|zw<|zem (H.get (k:=1) K) K zil zdz K K<|zq 0 H K zdz<|fun d3 z=>?_;obtain ⟨b2,c0,a0,T⟩:=z.freeze (k:=0) rfl;have a1:=zaL.of a0;refine ze<|zgj Tryz.results86 K zil zdz K T.sub a1<|⟨b2,_,K,T.done,?_⟩;refine ?_;have hq:zkc d p=⟨p,zih d.recs.text d.recs.edition p,2⟩:=by have q_:=c;simp_all[zkc,zyB]
 simp only[hq];rfl
theorem zkt (hs:Sub h w) {l:(List Place)} (l_f:Sl zdO h l_v l) {g:FuncId} {caps:List Value} {q:Place→Bool} (eg:∀ a w,(callFunc g a).run Tryz.prog w=.ok (.enter g a) w) (hq:∀ x h' w' vs,Le h h'→Sub h' w'→x∈l→zdO.R h' vs x→∀ u,u=.agg vs.toArray→Calls Tryz.prog g (u::caps).toArray w' (zbH h' w' fun _ _ r=>r=.bool (q x))) (hl:l.length≤1000):Calls Tryz.prog 71 #[l_v,.func (.func g) #[] caps.toArray] w (zbH h w (fun h' _ res_=>∃ u0,res_=u0∧Sl zdO h' u0 (l.filter q))):=by
 refine zg 23 Tryz.func71 K<|have y:=zcu hs;have l_f_b:=l_f.le;zw<|zdD K K<|D<|zw<|zdD K K<|D<|zav<|zk l_v K<|zG l_f zbp K<|N K<|D<|zT ?_;have z:=y.snoc;have f5:=OSl.nil zdO 68 h;refine zaI ([5,7]++zbP 10 12) (G:=Nat×Value×List (Nat×Obj)×Heap) (fun ⟨k,A,F,d⟩=>[(5,A),(10,iV (k:Int))]) (fun ⟨k,A,F,d⟩ w'=>Le h d∧St h w d w' [F]∧(OSl zdO 68 d A (((l.take k).filter q)) F)∧(k≤l.length)) (fun ⟨k,A,F,d⟩=>l.length-k) ⟨0,(.slice none 0 0),[],h⟩ ⟨rfl,rfl,trivial⟩ ⟨Le.refl _,z,(OSl.to f5 (by rfl)),zbB⟩ ?_;rintro ⟨k,A,F,d⟩ _ w6 ⟨Q,b,H,hk⟩;refine zw<|zM K<|D<|zaM<|zV K (fun c7=>?_) (fun c7=>?_)
 ·refine zaS<|zT<|zw ?_;obtain ⟨x,hx⟩:∃ y_,(l)[k]?=some y_:=zdl zW;obtain ⟨b8,o9,_,e,f,hr_x⟩:=Sl.elem (l_f.up Q) hx;subst hr_x;refine zx e zbp zR K<|E b.sub f zaE zR K<|zaf b zjx K K<|fun a8 a9 i=>zq 1 i K zR<|fun b0 j=>?_;obtain ⟨b1,B,m,I⟩:=j.freeze (k:=1) rfl;have S:=zaL.of m;refine D<|zw<|zrw K K<|E I.sub S zaE zR K<|zgh (fs:=[]) (cs:=caps) I K K K K eg K (hq x _ _ _ (Q.t B) I.sub (zD hx) K _ K)<|fun b2 b3 n C P a0=>?_;subst a0;refine D<|zaD K (fun c=>?_) (fun c=>?_)
  ·refine zah<|zk A K<|E P.sub (S.up C) zaE zR K<|zA zdO [x] [iV x.chapter,iV x.line,iV x.word] P (Enc.cons (L:=zdO) (vs:=[iV x.chapter,iV x.line,iV x.word]) (x:=x) (h:=n) K Enc.nil) K zbp Tryz.info68 zch<|fun b4 b5 a1 T f31 o=>?_;refine zbe (k:=0) (nb:=24) o (H.up ((B.t C).t T)) rfl f31 rfl rfl rfl zbp Tryz.info68 rfl rfl rfl (by decide) rfl (by have q_:=zak q (l.take k);rw[zt] at q_;first|omega|(simp only[zj,zy,zC];omega)) (by have q_:=zak q (l.take k);rw[zt] at q_;first|omega|(simp only[zj,zy,zC];omega)) ?_;intro p a2 b6 _ a3 f39 s;subst a3;refine zH p K<|zl<|zaF<|zo K zbj<|N K<|D<|have a4:=((Q.t B).t C).t T;⟨⟨k+1,p,a2,a1⟩,⟨rfl,K,trivial⟩,?_,⟨a4,s.take 1,?_,?_⟩,?_⟩
   ·exact zba
   ·refine OSl.to f39 ?_;rw[zbg hx,zbc,zbo,zab c];rfl
   ·first|omega|(simp;omega)
   show l.length-(k+1)<l.length-k;omega
  refine zbO<|zaF<|zo K zbj<|N K<|D<|have a5:=(Q.t B).t C;⟨⟨k+1,A,F,n⟩,⟨rfl,K,trivial⟩,?_,⟨a5,P.take 1,?_,?_⟩,?_⟩
  ·exact zba
  ·refine OSl.to (H.up (B.t C)) ?_;rw[zbg hx,zbc,zbo,zam (by rw[c];simp)];simp
  ·first|omega|(simp;omega)
  show l.length-(k+1)<l.length-k;omega
 refine zdx<|zF<|zw<|zk A K<|zH A K<|ze<|zf Tryz.results71 ?_;obtain ⟨a6,a7,f45,v⟩:=OSl.freeze (k:=0) b H rfl (by have q_:=zak q (l.take k);rw[zt] at q_;first|omega|(simp only[zj,zy,zC];omega));refine ⟨a6,_,K,v.done,?_⟩;refine ⟨_,K,Sl.to f45 ?_⟩;rw[zS zW]
theorem zsq (hs:Sub h w) (d_f0:Sl zaN h d_v0 d.recs.text.chapters) (d_f1:Sl zhl h d_v1 d.recs.copies) (d_f2:Sl zeE h d_v2 d.recs.lexicon.rules) (d_f3:Sl zaG h d_v3 d.recs.lexicon.decisions) (d_f4:Sl zcp h d_v4 d.recs.edition.stretches) (d_l8:0≤d.recs.cut.side∧d.recs.cut.side≤255) (d_f5:FM zix (fun b:Bool=>.bool b) h d.doubt d_v5) (d_c:zaL h d_b 0 [d_v0,d_v1,d_v2,d_v3,iV d.recs.edition.id,d_v4,iV d.recs.cut.width,.int .u8 d.recs.cut.side,d_v5]) {d_bb:Nat} (d_cc:zaL h d_bb 0 [.pointer (some ⟨d_b,0,none⟩)]) {wd_b:Nat} {wd:Str} (wd_le:wd.length≤281474976710656) (wd_c:zaL h wd_b 0 [zae wd]) (ht:zcz d.recs.text=true):Calls Tryz.prog 85 #[.agg #[iV p.chapter,iV p.line,iV p.word],.pointer (some ⟨d_bb,0,none⟩),.pointer (some ⟨wd_b,0,none⟩)] w (zbH h w (fun _ _ res_=>res_=.bool ((decide (zbY d.recs.text p=wd))))):=by
 refine zg 20 Tryz.func85 K<|have Q:=zcu hs;have F:=d_f0.le;have H:=d_f1.le;have I:=d_f2.le;have L:=d_f3.le;have P:=d_f4.le;zw<|J [iV p.chapter,iV p.line,iV p.word] Q K<|fun f g c A S C=>za K<|D<|zaM<|zcY zbh zch (Cls c _) (Cls.drew C)<|zaT 0 (d_cc.up A) Tryz.isAgg101 K<|zbf K K (fun _ _=>(zdH K))<|zz zgO K zdc<|zz zaA K zac<|zbf K K (fun _ hC=>(zhK (j:=0) hC.sub (d_c.up A) (us:=[d_v0]) K K zaX zac K K))<|zdp S zaE zR K ?_;refine zeI rfl rfl (fun _=>zcT rfl Tryz.call66 rfl) (fun _ hC=>zbH.quiet hC (by have con:=(znX hC.sub (t:=d.recs.text) (d_f0.up A) (p:=p));rw[zab ht] at con;exact con)) ?_;refine zGI K K<|zsf (v:=(zae _)) K K K<|zsf (v:=(.int _ _)) K K K<|zAk K K<|zyz K K<|zci ?_;rintro i ⟨e,a⟩;have B:=C.call0 a;refine zF<|zw<|zfv K K<|have T:=A.trans a.le;Y 0 B.sub (wd_c.up T) zaZ K<|zmw K K K<|za K<|ze<|zf Tryz.results85<|⟨e,_,K,B.done,?_⟩;refine zP ?_
 all_goals first|rfl|(simp_all;done)
theorem zuq (hs:Sub h w) (d_f0:Sl zaN h d_v0 d.recs.text.chapters) (d_f1:Sl zhl h d_v1 d.recs.copies) (d_f2:Sl zeE h d_v2 d.recs.lexicon.rules) (d_f3:Sl zaG h d_v3 d.recs.lexicon.decisions) (d_f4:Sl zcp h d_v4 d.recs.edition.stretches) (d_l8:0≤d.recs.cut.side∧d.recs.cut.side≤255) (d_f5:FM zix (fun b:Bool=>.bool b) h d.doubt d_v5) (d_c:zaL h d_b 0 [d_v0,d_v1,d_v2,d_v3,iV d.recs.edition.id,d_v4,iV d.recs.cut.width,.int .u8 d.recs.cut.side,d_v5]) {hd:Head} (hd_l1:hd.stem.length≤281474976710656) (hd_l2:0≤hd.mark∧hd.mark≤255) (K3:zaL h 3 0 Tryz.glob3) (K1:zaL h 1 0 Tryz.glob1) (K0:zaL h 0 0 Tryz.glob0) (hn20:d.recs.edition.stretches.length≤1000) (hx0:zcZ d.recs.text d.recs.lexicon=0) (hu:ziD d.recs.text d.recs.lexicon hd=0):Calls Tryz.prog 47 #[.pointer (some ⟨d_b,0,none⟩),.agg #[zae hd.stem,.int .u8 hd.mark]] w (zbH h w (fun h' _ res_=>∃ u0,res_=.agg #[zae (zli d hd).head.stem,.int .u8 (zli d hd).head.mark,u0]∧Sl zlT h' u0 (zli d hd).forms)):=by
 refine zg 82 Tryz.func47 K ?_;have m9:=zcu hs;have l1:=d_f0.le;have l2:=d_f1.le;have l3:=d_f2.le;have l4:=d_f3.le;have l5:=d_f4.le;have l6:=zei hx0;have hpl:=zgi l6;have hwl:=zBA d hd;have hul:(zds d.recs.text d.recs.lexicon hd).length≤(zbJ d.recs.text).length:=zak _ _;refine zw<|J [.pointer (some ⟨d_b,0,none⟩)] m9 K<|fun b1 w2 h3 o0 r o1=>J [zae hd.stem,.int .u8 hd.mark] o1 K<|fun b7 w8 h9 g a7 g1=>zaf g1 ziM K K<|fun l7 r5 b2=>D<|zw<|E b2.sub a7 zcm zaj K<|zU K (zdT (cs:=[zae hd.stem,.int .u8 hd.mark,(.slice none 0 0)]) zch)<|zaf b2 ziM K K<|fun l8 r6 g2=>zq 1 g2 K zcR<|fun r7 g3=>D<|zaM<|have n:=o0.t g;ziZ (dsts:=(zbP 19 12++[18,31,32,6,7])) g3 zbh<|zas (fun a e H F I c=>(zm 0 (F.sub I) (r.up g) Tryz.isAgg101 K))<|zL (zdH K)<|zL (zh zgO K zdc)<|zL (zh zaA K zac)<|zas (fun a e H F I c _ _=>(zbv 0 [d_v0] (F.sub I) (d_c.up n) zaX zac K))<|zas (fun a e H F I c=>(zm 0 (F.sub I) (r.up g) Tryz.isAgg101 K))<|zL (zdH K) ?_;refine zL (zh zgO K zdc)<|zL (zh zaA K zcL)<|zas (fun a e H F I c _ _=>(zbv 2 [d_v2,d_v3] (F.sub I) (d_c.up n) zeK zcL K))<|zas (fun a e H F I c=>(zaQ (F.sub I) a7 K zcm zaj K)) ?_;refine zbq (.res (fun h' res_=>∃ gv11_0,res_=.tuple #[gv11_0,iV 0]∧Sl zea h' gv11_0 (znm d hd)) (by rintro _ _ _ hl ⟨gv11_0,e_,gf11_0⟩;exact ⟨gv11_0,e_,gf11_0.up hl⟩)) ?_ ?_
 ·intro a e H F I c _ _ _ _ _ _;have b3:=St.start I;have con:=(zzK b3.sub (t:=d.recs.text) (d_f0.up (n.trans F)) (x:=d.recs.lexicon) (d_f2.up (n.trans F)) (d_f3.up (n.trans F)) (hd:=hd) zcn zfb (K1.up (n.trans F)));rw[show zrL d.recs.text d.recs.lexicon hd=znm d hd from zab hu,hu] at con;refine zi b3 K Tryz.call84 con<|fun r8 r9 s0 o8 g4 o2=>?_;obtain ⟨s1,rfl,f30⟩:=o2;have m0:=f30.le;clear con;exact zl ⟨_,_,K,g4,_,K,⟨_,K,f30⟩⟩
 refine zbq (.res (fun h' res_=>∃ gv12_0,res_=.tuple #[gv12_0,iV 0]∧Sl zea h' gv12_0 ((znm d hd))) (by rintro _ _ _ hl ⟨gv12_0,e_,gf12_0⟩;exact ⟨gv12_0,e_,gf12_0.up hl⟩)) ?_ ?_
 ·intro a e H F I c gv11_ gf11_;obtain ⟨gv11_0,rfl,gf11_0⟩:=gf11_;have g5:=St.start I;exact zeZ K K<|zl ⟨_,_,K,g5,_,K,⟨_,K,gf11_0⟩⟩
 refine zbq (.res (fun h' res_=>Sl zea h' res_ (((znm d hd)))) (fun _ _ _ hl f=>f.up hl)) ?_ ?_
 ·intro a e H F I c gv12_ gf12_;obtain ⟨gv12_0,rfl,gf12_0⟩:=gf12_;have g6:=St.start I;exact zbl gv12_0 K<|zl ⟨_,_,K,g6,_,K,gf12_0⟩
 refine zbq (.det (iV 0)) ?_ ?_
 ·intro a e H F I c gv12_ gf12_;obtain ⟨gv12_0,rfl,gf12_0⟩:=gf12_;have g7:=St.start I;exact zB K<|zl ⟨_,_,K,g7,(),K,trivial⟩
 refine zbq (.res (fun h' res_=>Sl zea h' res_ ((((znm d hd))))) (fun _ _ _ hl f=>f.up hl)) ?_ ?_
 ·intro a e H F I c _ _ _ _ _ _ _ _ _ _ _ _ _ _ _ _ _ _ _ _ _ _ gv11_ gf11_ gv12_ gf12_ gv13_0 gf13_0;obtain ⟨gv11_0,rfl,gf11_0⟩:=gf11_;obtain ⟨gv12_0,rfl,gf12_0⟩:=gf12_;have g8:=St.start I;exact zH gv13_0 K<|zl ⟨_,_,K,g8,_,K,gf13_0⟩
 refine zL (zqj K)<|zdy<|fun o9 s2 _ l g9 _ _ _ _ _ _ _ _ _ _ _ _ _ _ _ _ _ _ _ _ _ _ e6 s e7 u gv13_0x39 gf13_0x39 _ _ gv15_0x39 gf15_0x39 _ _=>?_;obtain ⟨gv11_0x39,rfl,gf11_0x39⟩:=s;obtain ⟨gv12_0x39,rfl,gf12_0x39⟩:=u;refine zbT.fin K<|zF<|zaM<|have Q:=n.t l;ziZ (dsts:=(zbP 34 12++[33,46,47,8,9])) g9 zbh<|zas (fun a e H F I c=>(zm 0 (F.sub I) (r.up (g.t l)) Tryz.isAgg101 K))<|zL (zdH K)<|zL (zh zgO K zdc)<|zL (zh zaA K zac)<|zas (fun a e H F I c _ _=>(zbv 0 [d_v0] (F.sub I) (d_c.up Q) zaX zac K))<|zas (fun a e H F I c=>(zm 0 (F.sub I) (r.up (g.t l)) Tryz.isAgg101 K))<|zL (zdH K)<|zL (zh zgO K zdc)<|zL (zh zaA K zcL)<|zas (fun a e H F I c _ _=>(zbv 2 [d_v2,d_v3] (F.sub I) (d_c.up Q) zeK zcL K))<|zas (fun a e H F I c=>(zaQ (F.sub I) (a7.up l) K zcm zaj K)) ?_;refine zbq (.res (fun h' res_=>∃ gv11_0,res_=.tuple #[gv11_0,iV 0]∧Sl zdO h' gv11_0 (zds d.recs.text d.recs.lexicon hd)) (by rintro _ _ _ hl ⟨gv11_0,e_,gf11_0⟩;exact ⟨gv11_0,e_,gf11_0.up hl⟩)) ?_ ?_
 ·intro a e H F I c _ _ _ _ _ _;have b4:=St.start I;have con:=(zzI b4.sub (t:=d.recs.text) (d_f0.up (Q.trans F)) (x:=d.recs.lexicon) (d_f2.up (Q.trans F)) (d_f3.up (Q.trans F)) (hd:=hd) zcn zfb (K1.up (Q.trans F)));rw[show zki d.recs.text d.recs.lexicon hd=(zds d.recs.text d.recs.lexicon hd) from zab hu,hu] at con;refine zi b4 K Tryz.call46 con<|fun s3 s4 s5 p0 h0 o3=>?_;obtain ⟨s6,rfl,f49⟩:=o3;have m1:=f49.le;clear con;exact zl ⟨_,_,K,h0,_,K,⟨_,K,f49⟩⟩
 refine zbq (.res (fun h' res_=>∃ gv12_0,res_=.tuple #[gv12_0,iV 0]∧Sl zdO h' gv12_0 ((zds d.recs.text d.recs.lexicon hd))) (by rintro _ _ _ hl ⟨gv12_0,e_,gf12_0⟩;exact ⟨gv12_0,e_,gf12_0.up hl⟩)) ?_ ?_
 ·intro a e H F I c gv11_ gf11_;obtain ⟨gv11_0,rfl,gf11_0⟩:=gf11_;have h1:=St.start I;exact zeZ K K<|zl ⟨_,_,K,h1,_,K,⟨_,K,gf11_0⟩⟩
 refine zbq (.res (fun h' res_=>Sl zdO h' res_ (((zds d.recs.text d.recs.lexicon hd)))) (fun _ _ _ hl f=>f.up hl)) ?_ ?_
 ·intro a e H F I c gv12_ gf12_;obtain ⟨gv12_0,rfl,gf12_0⟩:=gf12_;have h2:=St.start I;exact zbl gv12_0 K<|zl ⟨_,_,K,h2,_,K,gf12_0⟩
 refine zbq (.det (iV 0)) ?_ ?_
 ·intro a e H F I c gv12_ gf12_;obtain ⟨gv12_0,rfl,gf12_0⟩:=gf12_;have h4:=St.start I;exact zB K<|zl ⟨_,_,K,h4,(),K,trivial⟩
 refine zbq (.res (fun h' res_=>Sl zdO h' res_ ((((zds d.recs.text d.recs.lexicon hd))))) (fun _ _ _ hl f=>f.up hl)) ?_ ?_
 ·intro a e H F I c _ _ _ _ _ _ _ _ _ _ _ _ _ _ _ _ _ _ _ _ _ _ gv11_ gf11_ gv12_ gf12_ gv13_0 gf13_0;obtain ⟨gv11_0,rfl,gf11_0⟩:=gf11_;obtain ⟨gv12_0,rfl,gf12_0⟩:=gf12_;have h5:=St.start I;exact zH gv13_0 K<|zl ⟨_,_,K,h5,_,K,gf13_0⟩
 refine zL (zqj K)<|zdy<|fun a8 s7 _ C h6 _ _ _ _ _ _ _ _ _ _ _ _ _ _ _ _ _ _ _ _ _ _ e8 y e9 z gv13_0x58 gf13_0x58 _ _ gv15_0x58 gf15_0x58 _ _=>?_;obtain ⟨gv11_0x58,rfl,gf11_0x58⟩:=y;obtain ⟨gv12_0x58,rfl,gf12_0x58⟩:=z;refine zbT.fin K<|zF<|zav<|zk gv15_0x39 K<|zG (gf15_0x39.up C) zJ K<|N K<|D<|zT ?_;have h7:=h6.snoc;have f63:=OSl.nil zlT 125 a8;refine zaI ([11,12,13,15]++zbP 50 31) (G:=Nat×Value×List (Nat×Obj)×Heap) (fun ⟨i,v_c1_2,o_c1_2,a9⟩=>[(50,iV (i:Int))]) (fun ⟨i,v_c1_2,o_c1_2,a9⟩ w'=>Le a8 a9∧St h w a9 w' [[(l7,.cells (List.toArray [zae [],.int .u8 0,(.slice none 0 0)]) 55)],[(l8,.cells (List.toArray [zae hd.stem,.int .u8 hd.mark,v_c1_2]) 55)],o_c1_2]∧(OSl zlT 125 a9 v_c1_2 ((((znm d hd).take i).map (zCK d hd))) o_c1_2)∧(i≤(znm d hd).length)) (fun ⟨i,v_c1_2,o_c1_2,a9⟩=>(znm d hd).length-i) ⟨0,(.slice none 0 0),[],a8⟩ ⟨rfl,trivial⟩ ⟨Le.refl _,h7,(OSl.to f63 (by rfl)),zbB⟩ ?_;rintro ⟨i,v_c1_2,o_c1_2,a9⟩ _ s8 ⟨A,o,hO_c1_2,hi⟩;refine zw<|zM K<|D<|zaM<|zV K (fun o4=>?_) (fun o4=>?_)
 ·refine zaS<|zT<|zw ?_;obtain ⟨wd,hwd⟩:∃ y_,(((((znm d hd)))))[i]?=some y_:=zdl zW;obtain ⟨s9,t0,_,h8,j0,hr_wd⟩:=Sl.elem (gf15_0x39.up (C.t A)) hwd;obtain ⟨rfl,j1⟩:=hr_wd;simp only[big] at j1;refine zx h8 zJ zap K<|Y 0 o.sub j0 zaZ K<|zaf o Tryz.zeroValue9 K K<|fun t1 t2 j2=>zaw 3 j2 K zap<|fun t3 j3=>?_;obtain ⟨t4,B,j4,b5⟩:=j3.freeze (k:=3) rfl;have b6:=zaL.of j4;refine D<|zw<|Y 0 b5.sub b6 zaZ K<|zU K (zdT (cs:=[zae wd,(.slice none 0 0)]) zch)<|zaf b5 zkw K K<|fun o5 t5 j5=>zq 4 j5 K zdN<|fun t6 b8=>D<|zw<|zk gv15_0x58 K<|zgm K K K ?_;refine zau b8 rfl rfl rfl Tryz.call71 rfl (zkt b8.sub (gf15_0x58.up (A.t B)) (q:=(fun x_=>(decide (zbY (d).recs.text x_=wd)))) Tryz.call85 (fun x_ h_ w_ vs_ le_ hs_ hx_ hr_ u_ hu_=>by obtain rfl:=hr_;cases hu_;exact zsq hs_ (p:=x_) (d:=d) ((d_f0.up (((Q.t C).t A).t B)).up le_) ((d_f1.up (((Q.t C).t A).t B)).up le_) ((d_f2.up (((Q.t C).t A).t B)).up le_) ((d_f3.up (((Q.t C).t A).t B)).up le_) ((d_f4.up (((Q.t C).t A).t B)).up le_) (by assumption) ((d_f5.up (((Q.t C).t A).t B)).up le_) ((d_c.up (((Q.t C).t A).t B)).up le_) ((r.up ((((g.t l).t C).t A).t B)).up le_) (wd:=wd) (by assumption) (b6.up le_) (by exact l6)) zW) ?_;intro l9 t7 g0 T j6 o6;obtain ⟨t8,o7,f93⟩:=o6;rw[← o7] at f93;have m2:=f93.le;have f95:=Sl.to f93 (show _=(zuS d hd wd) from rfl);have m3:=f95.le;refine zH l9 K<|D<|zaM<|zaM<|have hol:=zEP d hd wd;zah<|zk l9 K<|zG f95 zbp K<|N K<|D<|zT ?_;have j7:=j6.snoc;have f100:=OSl.nil zqf 140 g0;refine zaI ([15]++zbP 61 13) (G:=Nat×Value×List (Nat×Obj)×Heap) (fun ⟨j,v_c4_1,o_c4_1,b0⟩=>[(61,iV (j:Int))]) (fun ⟨j,v_c4_1,o_c4_1,b0⟩ w'=>Le g0 b0∧St h w b0 w' [[(l7,.cells (List.toArray [zae [],.int .u8 0,(.slice none 0 0)]) 55)],[(l8,.cells (List.toArray [zae hd.stem,.int .u8 hd.mark,v_c1_2]) 55)],o_c1_2,[],[(o5,.cells (List.toArray [zae wd,v_c4_1]) 125)],o_c4_1]∧(OSl zqf 140 b0 v_c4_1 ((((zuS d hd wd).take j).map (zkc d))) o_c4_1)∧(j≤(zuS d hd wd).length)) (fun ⟨j,v_c4_1,o_c4_1,b0⟩=>(zuS d hd wd).length-j) ⟨0,(.slice none 0 0),[],g0⟩ ⟨rfl,trivial⟩ ⟨Le.refl _,j7,(OSl.to f100 (by rfl)),zbB⟩ ?_;rintro ⟨j,v_c4_1,o_c4_1,b0⟩ _ p1 ⟨S,m,hO_c4_1,hj⟩;refine zw<|zM K<|D<|zaM<|zV K (fun j8=>?_) (fun j8=>?_)
  ·refine zaS<|zT<|zw ?_;obtain ⟨p,hp⟩:∃ y_,(zuS d hd wd)[j]?=some y_:=zdl zW;obtain ⟨p2,p3,_,c1,c2,hr_p⟩:=Sl.elem (f95.up S) hp;subst hr_p;refine zx c1 zbp zR K<|E m.sub c2 zaE zR K<|zaf m zjx K K<|fun p4 p5 c3=>zq 6 c3 K zR<|fun p6 c4=>?_;obtain ⟨p7,P,c5,c6⟩:=c4.freeze (k:=6) rfl;have c7:=zaL.of c5;refine D ?_;have hsd:0≤(zkc d p).sure∧(zkc d p).sure≤255:=by simp only[zkc,zyB];split <;> omega
   have j9:=((((((g.t l).t C).t A).t B).t T).t S).t P;refine zgR (er:=([1],[],[],[],0)) (dsts:=(zbP 65 8)) c6 zbh<|zL (zh zcS K zfE)<|zas (fun a e H F I c _ _=>(zlX ((c K).get (k:=4) K) K K zhk))<|zas (fun a e H F I c=>(zm 0 (F.sub I) (r.up j9) Tryz.isAgg101 K))<|zas (fun a e H F I c=>(zaQ (F.sub I) c7 K zaE zR K))<|zbq (.det (.agg (List.toArray [iV ((zkc d p).at_.chapter),iV ((zkc d p).at_.line),iV ((zkc d p).at_.word),iV ((zkc d p).ref.chapter),iV ((zkc d p).ref.line),iV ((zkc d p).ref.word),.int .u8 ((zkc d p).sure)]))) ?_ ?_
   ·intro a e H F I c _ _ _ _;have a0:=St.start I;refine zau a0 rfl rfl rfl Tryz.call86 rfl (zwb a0.sub (d:=d) (d_f0.up (((((((Q.t C).t A).t B).t T).t S).t P).trans F)) (d_f1.up (((((((Q.t C).t A).t B).t T).t S).t P).trans F)) (d_f2.up (((((((Q.t C).t A).t B).t T).t S).t P).trans F)) (d_f3.up (((((((Q.t C).t A).t B).t T).t S).t P).trans F)) (d_f4.up (((((((Q.t C).t A).t B).t T).t S).t P).trans F)) (by assumption) (d_f5.up (((((((Q.t C).t A).t B).t T).t S).t P).trans F)) (d_c.up (((((((Q.t C).t A).t B).t T).t S).t P).trans F)) (p:=p) (K3.up (((((((Q.t C).t A).t B).t T).t S).t P).trans F)) (by exact hn20)) ?_;intro p8 p9 q0 m4 c8 k0;subst k0;exact zl ⟨_,_,K,c8,(),K,trivial⟩
   refine zbq (.res (fun h' res_=>Sl zqf h' res_ ([(zkc d p)])) (fun _ _ _ hl f=>f.up hl)) ?_ ?_
   ·intro a e H F I c _ _;have c9:=St.start I;exact zA zqf [(zkc d p)] [iV ((zkc d p).at_.chapter),iV ((zkc d p).at_.line),iV ((zkc d p).at_.word),iV ((zkc d p).ref.chapter),iV ((zkc d p).ref.line),iV ((zkc d p).ref.word),.int .u8 ((zkc d p).sure)] c9 (Enc.cons (L:=zqf) (vs:=[iV ((zkc d p).at_.chapter),iV ((zkc d p).at_.line),iV ((zkc d p).at_.word),iV ((zkc d p).ref.chapter),iV ((zkc d p).ref.line),iV ((zkc d p).ref.word),.int .u8 ((zkc d p).sure)]) (x:=(zkc d p)) (h:=a) (⟨rfl,zfb⟩) Enc.nil) K zdh Tryz.info140 zch<|fun q1 q2 q3 m5 f128 d0=>zl ⟨_,_,K,d0,_,K,f128⟩
   refine zcf<|zL (zh zcS K zfE)<|zcf<|zdy<|fun m6 q4 _ a1 d1 _ _ gv5_0x132 gf5_0x132 _ _=>?_;refine zbe (k:=5) (nb:=56) d1 (hO_c4_1.up (P.t a1)) rfl gf5_0x132 rfl rfl rfl zdh Tryz.info140 rfl rfl rfl (by decide) rfl (by simp only[zj,zaa,zt,zy,zC];omega) (by simp only[zj,zaa,zt,zy,zC];omega) ?_;intro b9 k1 q5 _ k2 f141 d2;subst k2;refine zl ⟨_,K,_,_,Le.refl _,d2,?_⟩;intro m7 q6 _ a2 d3 _ _ _ _ _ _ _ _ _ _ _ _ gv5_0x143 gf5_0x143;refine zeH d3 (k:=4) K K (v:=b9) K f141.one zfE K K K<|fun q7 d4=>zl ⟨undef,K,_,_,Le.refl _,d4,?_⟩;intro d5 q8 _ a3 d6 _ _ _ _ _ _ _ _ _ _ gv5_0x154 gf5_0x154 _ _;refine zbT.fin K<|zaF<|zo K zbj<|N K<|D<|have k3:=(((S.t P).t a1).t a2).t a3;⟨⟨j+1,b9,k1,d5⟩,⟨rfl,trivial⟩,?_,⟨k3,d6.take 6,?_,?_⟩,?_⟩
   ·exact zba
   ·refine OSl.to (f141.up (a2.t a3)) ?_;rw[zbg hp,zaz];rfl
   ·first|omega|(simp;omega)
   show (zuS d hd wd).length-(j+1)<(zuS d hd wd).length-j;omega
  refine zdx<|zF<|zah<|Z zbs K zdj<|zgs (m.get (k:=1) K) K K zep K<|zem (m.get (k:=4) K) K Tryz.isAgg125 zdN K K ?_;obtain ⟨k4,a4,f158,d7⟩:=OSl.freeze (k:=5) m hO_c4_1 rfl (by simp only[zj,zaa,zt,zy,zC];omega);refine zA zlT [(Form.mk wd (((zuS d hd wd).take j).map (zkc d)))] [zae wd,v_c4_1] d7 (Enc.cons (L:=zlT) (vs:=[zae wd,v_c4_1]) (x:=(Form.mk wd (((zuS d hd wd).take j).map (zkc d)))) (h:=k4) (⟨_,K,zcn,f158⟩) Enc.nil) K zbG Tryz.info125 zch<|fun q9 r0 k5 a5 f162 d8=>?_;have k6:=(((B.t T).t S).t a4).t a5;refine zbe (k:=2) (nb:=40) d8 (hO_c1_2.up k6) rfl f162 rfl rfl rfl zbG Tryz.info125 rfl rfl rfl (by decide) rfl (by simp only[zj,zaa,zt,zy,zC];omega) (by simp only[zj,zaa,zt,zy,zC];omega) ?_;intro c0 k7 r1 _ k8 f170 d9;subst k8;refine Z zbs K zdj<|zeH d9 (k:=1) K K (v:=c0) K f170.one zdj K K K<|fun r2 e0=>zl<|zaF<|zo K zbj<|N K<|D<|have k9:=((((A.t B).t T).t S).t a4).t a5;⟨⟨i+1,c0,k7,k5⟩,⟨rfl,trivial⟩,?_,⟨k9,e0.take 3,?_,?_⟩,?_⟩
  ·exact zba
  ·refine OSl.to f170 ?_;rw[zbg hwd,zaz,show (zuS d hd wd).take j=zuS d hd wd from zS zW];rfl
  ·first|omega|(simp;omega)
  show (znm d hd).length-(i+1)<(znm d hd).length-i;omega
 refine zdx<|zF<|zw<|zem (o.get (k:=1) K) K zjZ zcR K K<|zaU 0 o K (zbI K (zbI K (zbI hO_c1_2.one zgB))) zcR<|fun r3 e1=>?_;obtain ⟨r4,e2,e3,a6⟩:=e1.freeze (k:=0) rfl;have e4:=zaL.of e3;refine ze<|zgj Tryz.results47 K zjZ zcR K a6.sub e4 ?_;obtain ⟨l0,m8,f185,e5⟩:=OSl.freeze (k:=2) a6 (hO_c1_2.up e2) rfl (by simp only[zj,zaa,zt,zy,zC];omega);refine ⟨l0,_,K,e5.done,?_⟩;refine ⟨_,?_,Sl.to f185 ?_⟩
 all_goals first|rfl|(rw[zS zW];rfl)
theorem ztr (hs:Sub h w) (d_f0:Sl zaN h d_v0 d.recs.text.chapters) (d_f1:Sl zhl h d_v1 d.recs.copies) (d_f2:Sl zeE h d_v2 d.recs.lexicon.rules) (d_f3:Sl zaG h d_v3 d.recs.lexicon.decisions) (d_f4:Sl zcp h d_v4 d.recs.edition.stretches) (d_l8:0≤d.recs.cut.side∧d.recs.cut.side≤255) (d_f5:FM zix (fun b:Bool=>.bool b) h d.doubt d_v5) (d_c:zaL h d_b 0 [d_v0,d_v1,d_v2,d_v3,iV d.recs.edition.id,d_v4,iV d.recs.cut.width,.int .u8 d.recs.cut.side,d_v5]) (K3:zaL h 3 0 Tryz.glob3) (K1:zaL h 1 0 Tryz.glob1) (K0:zaL h 0 0 Tryz.glob0) (hn20:d.recs.edition.stretches.length≤1000) (hx0:zcZ d.recs.text d.recs.lexicon=0):Calls Tryz.prog 42 #[.pointer (some ⟨d_b,0,none⟩)] w (zbH h w (fun h' _ res_=>∃ u0,res_=.agg #[u0]∧Sl zev h' u0 ((Volume.mk (zAh d))).entries)):=by
 refine zg 38 Tryz.func42 K<|have e1:=zcu hs;have d3:=d_f0.le;have d4:=d_f1.le;have d5:=d_f2.le;have d6:=d_f3.le;have d7:=d_f4.le;have e2:=zei hx0;have hpl:=zgi e2;have hhl:=zCf d;zw<|zaf e1 zjy K K<|fun b1 w2 e3=>D<|zw<|zaf e3 zjy K K<|fun b4 w5 e4=>D<|zaM<|ziZ (dsts:=(zbP 9 11++[8,20,21,4,5])) e4 zbh<|zL (zks K)<|zL (zdH K)<|zL (zh zgO K zdc)<|zL (zh zaA K zac)<|zas (fun a m H F I c _ _=>(zbv 0 [d_v0] (F.sub I) d_c zaX zac K))<|zL (zks K) ?_;refine zL (zdH K)<|zL (zh zgO K zdc)<|zL (zh zaA K zcL)<|zas (fun a m H F I c _ _=>(zbv 2 [d_v2,d_v3] (F.sub I) d_c zeK zcL K)) ?_;refine zbq (.res (fun h' res_=>∃ gv10_0,res_=.tuple #[gv10_0,iV 0]∧Sl zhb h' gv10_0 (znT d)) (by rintro _ _ _ hl ⟨gv10_0,e_,gf10_0⟩;exact ⟨gv10_0,e_,gf10_0.up hl⟩)) ?_ ?_
 ·intro a m H F I c _ _ _ _;have y:=St.start I;have con:=(zzJ y.sub (t:=d.recs.text) (d_f0.up F) (x:=d.recs.lexicon) (d_f2.up F) (d_f3.up F) (K1.up F));rw[show zqN d.recs.text d.recs.lexicon=znT d from zab hx0,hx0] at con;refine zi y K Tryz.call76 con<|fun r8 w9 h0 g3 z e5=>?_;obtain ⟨h1,rfl,f15⟩:=e5;have d9:=f15.le;clear con;exact zl ⟨_,_,K,z,_,K,⟨_,K,f15⟩⟩
 refine zbq (.res (fun h' res_=>∃ gv11_0,res_=.tuple #[gv11_0,iV 0]∧Sl zhb h' gv11_0 ((znT d))) (by rintro _ _ _ hl ⟨gv11_0,e_,gf11_0⟩;exact ⟨gv11_0,e_,gf11_0.up hl⟩)) ?_ ?_
 ·intro a m H F I c gv10_ gf10_;obtain ⟨gv10_0,rfl,gf10_0⟩:=gf10_;have a3:=St.start I;exact zeZ K K<|zl ⟨_,_,K,a3,_,K,⟨_,K,gf10_0⟩⟩
 refine zbq (.res (fun h' res_=>Sl zhb h' res_ (((znT d)))) (fun _ _ _ hl f=>f.up hl)) ?_ ?_
 ·intro a m H F I c gv11_ gf11_;obtain ⟨gv11_0,rfl,gf11_0⟩:=gf11_;have a4:=St.start I;exact zbl gv11_0 K<|zl ⟨_,_,K,a4,_,K,gf11_0⟩
 refine zbq (.det (iV 0)) ?_ ?_
 ·intro a m H F I c gv11_ gf11_;obtain ⟨gv11_0,rfl,gf11_0⟩:=gf11_;have a5:=St.start I;exact zB K<|zl ⟨_,_,K,a5,(),K,trivial⟩
 refine zbq (.res (fun h' res_=>Sl zhb h' res_ ((((znT d))))) (fun _ _ _ hl f=>f.up hl)) ?_ ?_
 ·intro a m H F I c _ _ _ _ _ _ _ _ _ _ _ _ _ _ _ _ _ _ _ _ gv10_ gf10_ gv11_ gf11_ gv12_0 gf12_0;obtain ⟨gv10_0,rfl,gf10_0⟩:=gf10_;obtain ⟨gv11_0,rfl,gf11_0⟩:=gf11_;have a6:=St.start I;exact zH gv12_0 K<|zl ⟨_,_,K,a6,_,K,gf12_0⟩
 refine zL (zqj K)<|zdy<|fun e h2 _ C a7 _ _ _ _ _ _ _ _ _ _ _ _ _ _ _ _ _ _ _ _ s Q u S gv12_0x24 gf12_0x24 _ _ gv14_0x24 gf14_0x24 _ _=>?_;obtain ⟨gv10_0x24,rfl,gf10_0x24⟩:=Q;obtain ⟨gv11_0x24,rfl,gf11_0x24⟩:=S;refine zbT.fin K<|zF<|zav<|zk gv14_0x24 K<|zG gf14_0x24 zat K<|N K<|D<|zT ?_;have a8:=a7.snoc;have f29:=OSl.nil zev 55 e;refine zaI ([7]++zbP 24 13) (G:=Nat×Value×List (Nat×Obj)×Heap) (fun ⟨i,v_c1_0,o_c1_0,T⟩=>[(24,iV (i:Int))]) (fun ⟨i,v_c1_0,o_c1_0,T⟩ w'=>Le e T∧St h w T w' [[(b1,.cells (List.toArray [(.slice none 0 0)]) 45)],[(b4,.cells (List.toArray [v_c1_0]) 45)],o_c1_0]∧(OSl zev 55 T v_c1_0 ((((znT d).take i).map (zli d))) o_c1_0)∧(i≤(znT d).length)) (fun ⟨i,v_c1_0,o_c1_0,T⟩=>(znT d).length-i) ⟨0,(.slice none 0 0),[],e⟩ ⟨rfl,trivial⟩ ⟨Le.refl _,a8,(OSl.to f29 (by rfl)),zbB⟩ ?_;rintro ⟨i,v_c1_0,o_c1_0,T⟩ _ h3 ⟨A,P,hO_c1_0,hi⟩;refine zw<|zM K<|D<|zaM<|zV K (fun e6=>?_) (fun e6=>?_)
 ·refine zaS<|zT<|zw ?_;obtain ⟨hd,hhd⟩:∃ y_,(((((znT d)))))[i]?=some y_:=zdl zW;obtain ⟨h4,h5,_,a9,b0,hr_hd⟩:=Sl.elem (gf14_0x24.up A) hhd;obtain ⟨rfl,b2,g4⟩:=hr_hd;simp only[big] at b2;refine zx a9 zat zaj K<|E P.sub b0 zcm zaj K<|zaf P Tryz.zeroValue38 K K<|fun h6 h7 b3=>zq 3 b3 K zaj<|fun h8 b5=>?_;obtain ⟨h9,B,b6,b7⟩:=b5.freeze (k:=3) rfl;have b8:=zaL.of b6;refine D<|have e7:=(zAi hx0 (zD hhd)).1;zgR (er:=([1],[],[],[],0)) (dsts:=(zbP 28 8)) b7 zbh<|zL (zh zbz K zcK)<|zas (fun a m H F I c _ _=>(zlX ((c K).get (k:=1) K) K K zdP))<|zL (zks K)<|zas (fun a m H F I c=>(zaQ (F.sub I) b8 K zcm zaj K)) ?_;refine zbq (.res (fun h' res_=>∃ gv4_0,res_=.agg #[zae ((zli d hd)).head.stem,.int .u8 ((zli d hd)).head.mark,gv4_0]∧Sl zlT h' gv4_0 ((zli d hd)).forms) (by rintro _ _ _ hl ⟨gv4_0,e_,gf4_0⟩;exact ⟨gv4_0,e_,gf4_0.up hl⟩)) ?_ ?_
  ·intro a m H F I c _ _ _ _;have n:=St.start I;refine zau n rfl rfl rfl Tryz.call47 rfl (zuq n.sub (d:=d) (d_f0.up (((C.t A).t B).trans F)) (d_f1.up (((C.t A).t B).trans F)) (d_f2.up (((C.t A).t B).trans F)) (d_f3.up (((C.t A).t B).trans F)) (d_f4.up (((C.t A).t B).trans F)) (by assumption) (d_f5.up (((C.t A).t B).trans F)) (d_c.up (((C.t A).t B).trans F)) (hd:=hd) zcn zfb (K3.up (((C.t A).t B).trans F)) (K1.up (((C.t A).t B).trans F)) (K0.up (((C.t A).t B).trans F)) (by exact hn20) (by exact hx0) (by exact e7)) ?_;intro j0 j1 j2 g5 b9 e8;obtain ⟨j3,rfl,f56⟩:=e8;have e0:=f56.le;exact zl ⟨_,_,K,b9,_,K,⟨_,K,f56⟩⟩
  refine zbq (.res (fun h' res_=>Sl zev h' res_ ([(zli d hd)])) (fun _ _ _ hl f=>f.up hl)) ?_ ?_
  ·intro a m H F I c gv4_ gf4_;obtain ⟨gv4_0,rfl,gf4_0⟩:=gf4_;have c0:=St.start I;exact zA zev [(zli d hd)] [zae ((zli d hd)).head.stem,.int .u8 ((zli d hd)).head.mark,gv4_0] c0 (Enc.cons (L:=zev) (vs:=[zae ((zli d hd)).head.stem,.int .u8 ((zli d hd)).head.mark,gv4_0]) (x:=(zli d hd)) (h:=a) (⟨_,K,zcn,zfb,gf4_0⟩) Enc.nil) K zbt Tryz.info55 zch<|fun j4 j5 j6 g6 f60 c1=>zl ⟨_,_,K,c1,_,K,f60⟩
  refine zcf<|zL (zh zbz K zcK)<|zcf<|zdy<|fun g7 j7 _ o c2 _ _ gv5_0x64 gf5_0x64 a0 g=>?_;obtain ⟨gv4_0x64,rfl,gf4_0x64⟩:=g;refine zbe (k:=2) (nb:=48) c2 (hO_c1_0.up (B.t o)) rfl gf5_0x64 rfl rfl rfl zbt Tryz.info55 rfl rfl rfl (by decide) rfl (by simp only[zj,zaa,zt,zy,zC];omega) (by simp only[zj,zaa,zt,zy,zC];omega) ?_;intro d8 e9 j8 _ g0 f73 c3;subst g0;refine zl ⟨_,K,_,_,Le.refl _,c3,?_⟩;intro g8 j9 _ p c4 _ _ _ _ _ _ _ _ _ _ a1 j gv5_0x75 gf5_0x75;obtain ⟨gv4_0x75,rfl,gf4_0x75⟩:=j;refine zeH c4 (k:=1) K K (v:=d8) K f73.one zcK K K K<|fun k0 c5=>zl ⟨undef,K,_,_,Le.refl _,c5,?_⟩;intro c6 k1 _ q c7 _ _ _ _ _ _ _ _ a2 l gv5_0x86 gf5_0x86 _ _;obtain ⟨gv4_0x86,rfl,gf4_0x86⟩:=l;refine zbT.fin K<|zaF<|zo K zbj<|N K<|D<|have g1:=(((A.t B).t o).t p).t q;⟨⟨i+1,d8,e9,c6⟩,⟨rfl,trivial⟩,?_,⟨g1,c7.take 3,?_,?_⟩,?_⟩
  ·exact zba
  ·refine OSl.to (f73.up (p.t q)) ?_;rw[zbg hhd,zaz];rfl
  ·first|omega|(simp;omega)
  show (znT d).length-(i+1)<(znT d).length-i;omega
 refine zdx<|zF<|zw<|zem (P.get (k:=1) K) K zde zcd K K<|zaU 0 P K (zbI hO_c1_0.one zgB) zcd<|fun k2 c8=>?_;obtain ⟨k3,c9,d0,r⟩:=c8.freeze (k:=0) rfl;have d1:=zaL.of d0;refine ze<|zgj Tryz.results42 K zde zcd K r.sub d1 ?_;obtain ⟨g2,g9,f97,d2⟩:=OSl.freeze (k:=2) r (hO_c1_0.up c9) rfl (by simp only[zj,zaa,zt,zy,zC];omega);refine ⟨g2,_,K,d2.done,?_⟩;refine ⟨_,?_,Sl.to f97 ?_⟩
 all_goals first|rfl|(rw[zS zW];rfl)
theorem zhh (hs:Sub h w) (n:Int) (lo:Int) (hi:Int):Calls Tryz.prog 222 #[iV n,iV lo,iV hi] w (zbH h w (fun _ _ res_=>res_=.bool (inB n lo hi))):=by
 refine zg 15 Tryz.func222 K<|have A:=zcu hs;zw<|za K<|D<|zw<|N K<|N K<|zoC K K K<|zp K<|zaK (d:=10) K (fun B=>?_) (fun B=>?_)
 ·refine X K<|N K<|X K<|N K<|X K<|zU K (zpI K K)<|zd K<|za K<|ze<|zf Tryz.results222<|⟨h,_,K,A.done,?_⟩;refine zP ?_;simp[inB, *]
 refine zao 3 K<|zb K<|za K<|ze<|zf Tryz.results222<|⟨h,_,K,A.done,?_⟩;refine zP ?_;simp[inB, *]
theorem zot (hs:Sub h w) (n:Int) (lo:Int) (hi:Int):Calls Tryz.prog 163 #[iV n,iV lo,iV hi] w (zbH h w (fun _ _ res_=>res_=.bool (inB n lo hi))):=by
 refine zg 15 Tryz.func163 K<|have A:=zcu hs;zw<|za K<|D<|zw<|N K<|N K<|zoC K K K<|zp K<|zaK (d:=10) K (fun B=>?_) (fun B=>?_)
 ·refine X K<|N K<|X K<|N K<|X K<|zU K (zpI K K)<|zd K<|za K<|ze<|zf Tryz.results163<|⟨h,_,K,A.done,?_⟩;refine zP ?_;simp[inB, *]
 refine zao 3 K<|zb K<|za K<|ze<|zf Tryz.results163<|⟨h,_,K,A.done,?_⟩;refine zP ?_;simp[inB, *]
theorem zrr (hs:Sub h w) {t:Text} (t_f0:Sl zaN h t_v0 t.chapters) (e_f0:Sl zcp h e_v0 e.stretches) (ht:zcz t=true):Calls Tryz.prog 181 #[.agg #[t_v0],.agg #[iV e.id,e_v0]] w (zbH h w (fun _ _ res_=>res_=.bool (zgF t e))):=by
 refine zg 88 Tryz.func181 K<|have b6:=zcu hs;have a4:=t_f0.le;have a5:=e_f0.le;have htl:=(zmx ht).2.1;zw<|J [t_v0] b6 K<|fun b1 w2 h3 b8 i b9=>J [iV e.id,e_v0] b9 K<|fun b7 w8 h9 a I Q=>za K<|D<|zav<|Z zdF K zI<|Y 0 Q.sub I zO K<|zi Q K zoa (zhh Q.sub _ _ _)<|fun d4 d5 T C L c0=>?_;subst c0;refine zdJ K K<|zp K<|zbX (d:=11) K (fun j=>?_) (fun j=>?_)
 ·refine zao 4 K<|zd K<|D<|zaD K (fun o=>?_) (fun o=>?_)
  ·refine zw<|za K<|ze<|zN<|zf zkg<|⟨T,_,K,L.done,?_⟩;refine zP ?_;have q_:inB e.id 0 9999=false:=by simpa using j
   rw[zgF,q_];rfl
  cases o
 refine X K<|Z zdF K zgx<|X K<|Y 1 L.sub (I.up C) zhG K<|X K<|have q:=(b8.t a).t C;zG (e_f0.up q) zcQ K<|X K<|zhn K K K<|zb K<|D<|zV K (fun l=>?_) (fun l=>?_)
 ·refine zw<|za K<|ze<|zN<|zf zkg<|⟨T,_,K,L.done,?_⟩;refine zP ?_;have q_:¬ e.stretches.length≤12:=by have q2_:=l;omega
  rw[zgF,zcU q_];simp
 refine zaS<|zw<|U K<|D<|zT ?_;refine zaI ([4,5,6]++zbP 17 71) (G:=Nat×Heap) (fun ⟨k,P⟩=>[(5,iV (k:Int))]) (fun ⟨k,P⟩ w'=>Le T P∧St h w P w' []∧(k≤e.stretches.length)∧((e.stretches.take k).all (zdV t)=true)) (fun ⟨k,P⟩=>e.stretches.length-k) ⟨0,T⟩ ⟨rfl,trivial⟩ ⟨Le.refl _,L,zbB,zbB⟩ ?_;rintro ⟨k,P⟩ _ d6 ⟨F,H,hk,hA⟩;refine zav<|N K<|Z zdF K zgx<|Y 1 H.sub (I.up (C.t F)) zhG K<|have m:=q.t F;zG (e_f0.up m) zcQ K<|zM K<|D<|zV K (fun c1=>?_) (fun c1=>?_)
 ·refine zaS<|zT<|zw<|Z zdF K zgx<|Y 1 H.sub (I.up (C.t F)) zhG K<|N K ?_;obtain ⟨sx,hsx⟩:∃ y_,(e.stretches)[k]?=some y_:=zdl zW;obtain ⟨d7,d8,_,r,s,hr_sx⟩:=Sl.elem (e_f0.up m) hsx;subst hr_sx;refine zx r zcQ zdn K<|E H.sub s zgJ zdn K<|zaf H Tryz.zeroValue211 K K<|fun d9 e0 u=>zq 0 u K zdn<|fun e1 v=>?_;obtain ⟨c2,S,x,B⟩:=v.freeze (k:=0) rfl;have A:=zaL.of x;refine D<|zaM<|zcY zbh zch (Cls c2 _) (Cls.drew B)<|zz zad K zI<|zaT 0 A zO K<|zz zaY K zbW<|have n:=((a.t C).t F).t S;zaT 0 (i.up n) zcJ K<|have y:=m.t S;ztO (t_f0.up y) K zaJ K<|zoW K K zbj K<|zeI K K (fun _=>zcT K zoa K) (fun _ hC=>zbH.quiet hC (zhh hC.sub _ _ _))<|zpC K K<|zjM K K<|zjJ (d:=37) K (fun z=>?_) (fun z=>?_)
  ·refine zgK 13 K<|zbm K<|zjM K K<|zgK 15 K ?_;refine zbm K<|zjM K K<|zgK 4 K<|zbm K<|zjM K K<|zgK 11 K<|zbm K<|zci ?_;rintro e2 ⟨c3,c4⟩;have a0:=B.call0 c4;refine zF<|zaD K (fun a6=>?_) (fun a6=>?_)
   ·refine zw<|za K<|ze<|zaq<|zN<|zaq<|zf zkg<|⟨c3,_,K,a0.done,?_⟩;refine zP ?_;have q_:zdV t sx=false:=by first|(simp_all[zdV,zkY,ziP,zln,zdt];done)|(simp_all[zdV,zkY,ziP,zln,zdt,inB];done)|(simp_all[zdV,zkY,ziP,zln,zdt,inB];omega)
    rw[zgF,zeG (p:=zdV t) hsx q_];simp
   cases a6
  refine zc K<|zz zad K zI<|zc K<|zaT 1 A zO K<|zc K<|zz zaY K zbW<|zc K<|zaT 0 (i.up n) zcJ K<|zc K<|zz zad K zI<|zc K<|zaT 0 A zO K<|zc K ?_;have hcb:0≤sx.chapter∧sx.chapter<(t.chapters.length:Int):=by have q_:=z;simp[inB] at q_;omega
  obtain ⟨c,hc⟩:∃ y_,(t.chapters)[sx.chapter.toNat]?=some y_:=zdl zW;obtain ⟨e3,e4,_,b,f,hr_c⟩:=Sl.elem (t_f0.up y) hc;obtain ⟨e5,rfl,f56⟩:=hr_c;have b5:=f56.le;refine zbf rfl rfl (fun _ _=>(zcD b rfl rfl (hk:=(show _=((sx.chapter.toNat:Nat):Int) by omega)) (hu:=zaJ) (hz:=zbA))) ?_;refine zc K<|have d3:=zlF ht hc;zz zaP K zcj<|zc K<|zaT 1 f zdd K<|zc K<|ztO f56 K zaW K<|zc K<|zoW K K zbj K<|zc K<|zeI K K (fun _=>zcT K zoa K) (fun _ hC=>zbH.quiet hC (zhh hC.sub _ _ _))<|zc K<|zpC K K<|zbU K<|zjM K K<|zjJ (d:=52) K (fun a7=>?_) (fun a7=>?_)
  ·refine zgK 15 K<|zbm K<|zjM K K<|zgK 4 K<|zbm K<|zjM K K<|zgK 7 K ?_;refine zgK 4 K<|zbm K<|zci ?_;rintro e6 ⟨c5,c6⟩;have a1:=B.call0 c6;refine zF<|zaD K (fun a8=>?_) (fun a8=>?_)
   ·refine zw<|za K<|ze<|zaq<|zN<|zaq<|zf zkg<|⟨c5,_,K,a1.done,?_⟩;refine zP ?_;have q_:zdV t sx=false:=by first|(simp_all[zdV,zkY,ziP,zln,zdt];done)|(simp_all[zdV,zkY,ziP,zln,zdt,inB];done)|(simp_all[zdV,zkY,ziP,zln,zdt,inB];omega)
    rw[zgF,zeG (p:=zdV t) hsx q_];simp
   cases a8
  refine zc K ?_;have hfr:0≤sx.from_∧sx.from_≤9:=by have q_:=a7;simp[inB] at q_;omega
  refine zz zad K zI<|zc K<|zaT 2 A zO K<|zc K<|zz zad K zI<|zc K<|zaT 1 A zO K<|zc K<|zEj K K zbj K<|zc K<|zz zaY K zbW<|zc K<|zaT 0 (i.up n) zcJ K<|zc K<|zz zad K zI<|zc K<|zaT 0 A zO K<|zc K ?_;refine zbf rfl rfl (fun _ _=>(zcD b rfl rfl (hk:=(show _=((sx.chapter.toNat:Nat):Int) by omega)) (hu:=zaJ) (hz:=zbA))) ?_;refine zc K<|zz zaP K zcj<|zc K<|zaT 1 f zdd K<|zc K<|ztO f56 K zaW K<|zc K<|zeI K K (fun _=>zcT K zoa K) (fun _ hC=>zbH.quiet hC (zhh hC.sub _ _ _))<|zc K<|zpC K K<|zbU K<|zjM K K<|zjJ (d:=69) K (fun a9=>?_) (fun a9=>?_)
  ·refine zgK 4 K<|zbm K<|zjM K K<|zgK 11 K<|zbm K<|zci ?_;rintro e7 ⟨c7,c8⟩;have a2:=B.call0 c8;refine zF<|zaD K (fun b0=>?_) (fun b0=>?_)
   ·refine zw<|za K<|ze<|zaq<|zN<|zaq<|zf zkg<|⟨c7,_,K,a2.done,?_⟩;refine zP ?_;have q_:zdV t sx=false:=by first|(simp_all[zdV,zkY,ziP,zln,zdt];done)|(simp_all[zdV,zkY,ziP,zln,zdt,inB];done)|(simp_all[zdV,zkY,ziP,zln,zdt,inB];omega)
    rw[zgF,zeG (p:=zdV t) hsx q_];simp
   cases b0
  refine zc K ?_;have hto:sx.from_+1≤sx.to∧sx.to≤10:=by have q_:=a9;simp[inB] at q_;omega
  refine zz zad K zI<|zc K<|zaT 3 A zO K<|zc K<|zeI K K (fun _=>zcT K zoa K) (fun _ hC=>zbH.quiet hC (zhh hC.sub _ _ _))<|zc K<|zpC K K<|zbU K<|zjM K K<|zjJ (d:=75) K (fun c9=>?_) (fun c9=>?_)
  ·refine zgK 11 K<|zbm K<|zci ?_;rintro e8 ⟨d0,d1⟩;have a3:=B.call0 d1;refine zF<|zaD K (fun b2=>?_) (fun b2=>?_)
   ·refine zw<|za K<|ze<|zaq<|zN<|zaq<|zf zkg<|⟨d0,_,K,a3.done,?_⟩;refine zP ?_;have q_:zdV t sx=false:=by first|(simp_all[zdV,zkY,ziP,zln,zdt];done)|(simp_all[zdV,zkY,ziP,zln,zdt,inB];done)|(simp_all[zdV,zkY,ziP,zln,zdt,inB];omega)
    rw[zgF,zeG (p:=zdV t) hsx q_];simp
   cases b2
  refine zc K<|zz zad K zI<|zc K<|zaT 4 A zO K<|zc K<|zz zad K zI<|zc K<|zaT 2 A zO K<|zc K<|zz zad K zI<|zc K<|zaT 1 A zO K<|zc K<|zoW K K zbj K<|zc K<|zoW K K zbj K<|zc K<|zEj K K zbj K<|zc K<|zeI K K (fun _=>zcT K zoa K) (fun _ hC=>zbH.quiet hC (zhh hC.sub _ _ _))<|zc K<|zpC K K<|zbU K<|zci ?_;rintro e9 ⟨b3,b4⟩;have g:=B.call0 b4;refine zF<|zaD K (fun d2=>?_) (fun d2=>?_)
  ·refine zw<|za K<|ze<|zaq<|zN<|zaq<|zf zkg<|⟨b3,_,K,g.done,?_⟩;refine zP ?_;have q_:zdV t sx=false:=by first|(simp_all[zdV,zkY,ziP,zln,zdt];done)|(simp_all[zdV,zkY,ziP,zln,zdt,inB];done)|(simp_all[zdV,zkY,ziP,zln,zdt,inB];omega)
   rw[zgF,zeG (p:=zdV t) hsx q_];simp
  refine zbO<|zaF<|N K<|zo K zbj<|U K<|D ?_;have HS:zdV t sx=true:=by simp_all[zdV,zkY,ziP,zln,zdt,inB];omega
  refine ⟨⟨k+1,b3⟩,⟨rfl,trivial⟩,?_,⟨((F.t S).trans b4.le),g.take 0,?_,?_⟩,?_⟩
  ·exact zba
  ·first|omega|(simp;omega)
  ·exact zeW hA hsx HS
  show e.stretches.length-(k+1)<e.stretches.length-k;omega
 refine zdx<|zF<|zw<|za K<|ze<|zf zkg<|⟨P,_,K,H.done,?_⟩;refine zP ?_;have q1_:=zdY hA zW;have q2_:inB e.id 0 9999=true:=by simpa using j
 have q3_:e.stretches.length≤12:=by have q2_:=l;omega
 rw[zgF,q1_,q2_,zdi q3_];rfl
theorem zoI (hs:Sub h w) {t:Text} (t_f0:Sl zaN h t_v0 t.chapters) (e_f0:Sl zcp h e_v0 e.stretches):Calls Tryz.prog 129 #[.agg #[t_v0],.agg #[iV e.id,e_v0]] w (zbH h w (fun _ _ res_=>res_=iV (zeM t e))):=by
 refine zg 15 Tryz.func129 K<|have c:=zcu hs;have a:=t_f0.le;have b:=e_f0.le;zw<|J [t_v0] c K<|fun r s u d I f=>J [iV e.id,e_v0] f K<|fun v x y B L C=>U K<|D<|zav<|E C.sub (I.up B) zaX zac K<|have P:=d.t B;zi C K Tryz.call106 (zoK C.sub (t:=t) (t_f0.up P))<|fun n o g F A i=>?_;subst i;refine U K<|D<|zw<|N K<|zar K<|D<|zV K (fun Q=>?_) (fun Q=>?_)
 ·refine zw<|N K<|U K<|ze<|zN<|zf Tryz.results129<|⟨g,_,K,A.done,?_⟩;refine zan ?_;cases e1_:zcz t <;> cases e2_:zgF t e <;> simp_all[zeM]
 refine zaS<|zw<|E A.sub (I.up (B.t F)) zaX zac K<|E A.sub (L.up F) zft zdk K ?_;have S:=P.t F;refine zau A rfl rfl rfl Tryz.call181 rfl (zrr A.sub (t:=t) (t_f0.up S) (e:=e) (e_f0.up S) (by have q_:=Q;cases e_:zcz t <;> simp_all)) ?_;intro p q T m H j;subst j;refine zdJ K K<|D<|zaD K (fun l=>?_) (fun l=>?_)
 ·refine zw<|U K<|ze<|zN<|zf Tryz.results129<|⟨T,_,K,H.done,?_⟩;refine zan ?_;cases e1_:zcz t <;> cases e2_:zgF t e <;> simp_all[zeM]
 refine zgg<|zw<|U K<|ze<|zf Tryz.results129<|⟨T,_,K,H.done,?_⟩;refine zan ?_;cases e1_:zcz t <;> cases e2_:zgF t e <;> simp_all[zeM]
theorem zmK (hs:Sub h w) (a:Int) (many:Int) (b:Int) (more:Int) (hb:0≤a∧a≤2000∧0≤many∧many≤2000∧0≤b∧b≤2000∧0≤more∧more≤2000):Calls Tryz.prog 224 #[iV a,iV many,iV b,iV more] w (zbH h w (fun _ _ res_=>res_=.bool (zsW a many b more))):=by
 refine zg 21 Tryz.func224 K<|have A:=zcu hs;zw<|za K<|D<|zw<|N K<|N K<|N K<|zo K zbj<|zM K<|zp K<|zaK (d:=14) K (fun B=>?_) (fun B=>?_)
 ·refine X K<|N K<|X K<|N K<|X K<|N K<|X K<|zo K zbj<|X K<|zM K<|zd K<|za K<|ze<|zf Tryz.results224<|⟨h,_,K,A.done,?_⟩;refine zP ?_
  first|(simp_all[zsW];done)|(simp[zsW, *];done)|(simp[zsW];simp_all)
 refine zao 5 K<|zb K<|za K<|ze<|zf Tryz.results224<|⟨h,_,K,A.done,?_⟩;refine zP ?_
 first|(simp_all[zsW];done)|(simp[zsW, *];done)|(simp[zsW];simp_all)
theorem zrs (hs:Sub h w) {a:Stretch} {b:Stretch} (ha:OkS a) (hb:OkS b):Calls Tryz.prog 182 #[.agg #[iV a.chapter,iV a.from_,iV a.to,iV a.as_,iV a.first],.agg #[iV b.chapter,iV b.from_,iV b.to,iV b.as_,iV b.first]] w (zbH h w (fun _ _ res_=>res_=.bool (zjq a b))):=by
 refine zg 51 Tryz.func182 K ?_;have S:=zcu hs;obtain ⟨a1,a2,a3,a4,a5,a6,a7,a8,a9⟩:=ha;obtain ⟨q,b2,b3,b4,b5,b6,r,b8,b9⟩:=hb;refine zw<|J [iV a.chapter,iV a.from_,iV a.to,iV a.as_,iV a.first] S K<|fun q w2 h3 s I T=>J [iV b.chapter,iV b.from_,iV b.to,iV b.as_,iV b.first] T K<|fun r w8 u B C A=>za K<|D<|zw<|Z zad K zI<|Y 0 A.sub (I.up B) zO K<|Z zad K zI<|Y 0 A.sub C zO K<|zgL K K K<|zp K<|zaK (d:=10) K (fun c=>?_) (fun c=>?_)
 ·refine X K<|Z zad K zI<|X K<|Y 1 A.sub (I.up B) zO K<|X K<|Z zad K zI<|X K<|Y 2 A.sub (I.up B) zO K<|X K<|Z zad K zI<|X K<|Y 1 A.sub (I.up B) zO K<|X K<|zja K K zbj K<|X K<|Z zad K zI<|X K<|Y 1 A.sub C zO K<|X K<|Z zad K zI<|X K<|Y 2 A.sub C zO K<|X K<|Z zad K zI<|X K<|Y 1 A.sub C zO K<|X K<|zja K K zbj K<|X K ?_;refine zau A rfl rfl rfl Tryz.call224 rfl (zmK A.sub _ _ _ _ zW) ?_;intro v x L H F e;subst e;refine zd K<|zp K<|zbX (d:=27) K (fun f=>?_) (fun f=>?_)
  ·refine zao 22 K<|zd K<|za K<|ze<|zf Tryz.results182<|⟨L,_,K,F.done,?_⟩;refine zP ?_
   first|(simp_all[zjq];done)|(simp[zjq];simp_all)
  refine X K<|Z zad K zI<|X K<|Y 3 F.sub (I.up (B.t H)) zO K<|X K<|Z zad K zI<|X K<|Y 3 F.sub (C.up H) zO K<|X K<|zgL K K K<|X K<|zp K<|zaK (d:=33) K (fun g=>?_) (fun g=>?_)
  ·refine X K<|Z zad K zI<|X K<|Y 4 F.sub (I.up (B.t H)) zO K<|X K<|Z zad K zI<|X K<|Y 2 F.sub (I.up (B.t H)) zO K<|X K<|Z zad K zI<|X K<|Y 1 F.sub (I.up (B.t H)) zO K<|X K<|zja K K zbj K<|X K<|Z zad K zI<|X K<|Y 4 F.sub (C.up H) zO K<|X K<|Z zad K zI<|X K<|Y 2 F.sub (C.up H) zO K<|X K<|Z zad K zI<|X K<|Y 1 F.sub (C.up H) zO K<|X K<|zja K K zbj K<|X K ?_;refine zau F rfl rfl rfl Tryz.call224 rfl (zmK F.sub _ _ _ _ zW) ?_;intro y z i o P j;subst j;refine X K<|zd K<|zb K<|za K<|ze<|zf Tryz.results182<|⟨i,_,K,P.done,?_⟩;refine zP ?_
   first|(simp_all[zjq];done)|(simp[zjq];simp_all)
  refine zao 15 K<|X K<|zb K<|zb K<|za K<|ze<|zf Tryz.results182<|⟨L,_,K,F.done,?_⟩;refine zP ?_
  first|(simp_all[zjq];done)|(simp[zjq];simp_all)
 refine zao 15 K<|zb K<|zp K<|X K<|Z zad K zI<|X K<|Y 3 A.sub (I.up B) zO K<|X K<|Z zad K zI<|X K<|Y 3 A.sub C zO K<|X K<|zgL K K K<|X K<|zp K<|zaK (d:=33) K (fun l=>?_) (fun l=>?_)
 ·refine X K<|Z zad K zI<|X K<|Y 4 A.sub (I.up B) zO K<|X K<|Z zad K zI<|X K<|Y 2 A.sub (I.up B) zO K<|X K<|Z zad K zI<|X K<|Y 1 A.sub (I.up B) zO K<|X K<|zja K K zbj K<|X K<|Z zad K zI<|X K<|Y 4 A.sub C zO K<|X K<|Z zad K zI<|X K<|Y 2 A.sub C zO K<|X K<|Z zad K zI<|X K<|Y 1 A.sub C zO K<|X K<|zja K K zbj K<|X K ?_;refine zau A rfl rfl rfl Tryz.call224 rfl (zmK A.sub _ _ _ _ zW) ?_;intro a0 b0 m p Q n;subst n;refine X K<|zd K<|zb K<|za K<|ze<|zf Tryz.results182<|⟨m,_,K,Q.done,?_⟩;refine zP ?_
  first|(simp_all[zjq];done)|(simp[zjq];simp_all)
 refine zao 15 K<|X K<|zb K<|zb K<|za K<|ze<|zf Tryz.results182<|⟨u,_,K,A.done,?_⟩;refine zP ?_
 first|(simp_all[zjq];done)|(simp[zjq];simp_all)
theorem zoH (hs:Sub h w) (e_f0:Sl zcp h e_v0 e.stretches) (hl:∀ s∈e.stretches,OkS s) (hn:e.stretches.length≤12):Calls Tryz.prog 130 #[.agg #[iV e.id,e_v0]] w (zbH h w (fun _ _ res_=>res_=.tuple #[iV ((clR e.stretches).1),iV ((clR e.stretches).2.1),.bool ((clR e.stretches).2.2)])):=by
 refine zg 36 Tryz.func130 K<|have o:=zcu hs;have n:=e_f0.le;zw<|J [iV e.id,e_v0] o K<|fun b1 w2 v p H q=>U K<|U K<|za K<|D<|zav<|U K<|D<|zT ?_;refine zaI (zbP 2 34) (G:=Nat×Heap) (fun ⟨i,I⟩=>[(5,iV (i:Int))]) (fun ⟨i,I⟩ w'=>Le v I∧St h w I w' []∧(i≤e.stretches.length)∧(∀ a',a'<i→zyf e.stretches a'=false)) (fun ⟨i,I⟩=>e.stretches.length-i) ⟨0,v⟩ ⟨rfl,trivial⟩ ⟨Le.refl _,q,zbB,(by intro a' ha';omega)⟩ ?_;rintro ⟨i,I⟩ _ z ⟨F,P,hi,hA⟩;refine zav<|N K<|Z zdF K zgx<|Y 1 P.sub (H.up F) zhG K<|have T:=p.t F;zG (e_f0.up T) zcQ K<|zM K<|D<|zV K (fun r=>?_) (fun r=>?_)
 ·refine zaS<|zT<|zw<|N K<|zo K zbj<|U K<|D<|zT ?_;refine zaI ([2,3,4,6]++zbP 16 20) (G:=Nat×Heap) (fun ⟨j,B⟩=>[(6,iV (j:Int))]) (fun ⟨j,B⟩ w'=>Le I B∧St h w B w' []∧(i<j)∧(j≤e.stretches.length)∧(∀ b',b'<j→(decide (i<b') && zma e.stretches i b')=false)) (fun ⟨j,B⟩=>e.stretches.length-j) ⟨i+1,I⟩ ⟨rfl,trivial⟩ ⟨Le.refl _,P,zW,zW,(by intro b' hb';rw[zcU zW];rfl)⟩ ?_;rintro ⟨j,B⟩ _ a0 ⟨A,C,hij,hj,hB⟩;refine zav<|N K<|Z zdF K zgx<|Y 1 C.sub (H.up (F.t A)) zhG K<|have Q:=T.t A;zG (e_f0.up Q) zcQ K<|zM K<|D<|zV K (fun u=>?_) (fun u=>?_)
  ·refine zaS<|zT<|zaM<|zcY zbh zch (Cls B _) (Cls.drew C)<|zz zdF K zgx<|zaT 1 (H.up (F.t A)) zhG K<|zew K K ?_;obtain ⟨x,hx⟩:∃ y_,(e.stretches)[i]?=some y_:=zdl zW;obtain ⟨a1,a2,_,c,d,hr_x⟩:=Sl.elem (e_f0.up Q) hx;subst hr_x;refine zag c zcQ zdn K<|zdp d zgJ zdn K<|zz zdF K zgx<|zaT 1 (H.up (F.t A)) zhG K<|zew K K ?_;obtain ⟨y,hy⟩:∃ y_,(e.stretches)[j]?=some y_:=zdl zW;obtain ⟨a3,a4,_,f,g,hr_y⟩:=Sl.elem (e_f0.up Q) hy;subst hr_y;refine zag f zcQ zdn K<|zdp g zgJ zdn K ?_;refine zeI rfl rfl (fun _=>zcT rfl Tryz.call182 rfl) (fun _ hC=>zbH.quiet hC (zrs hC.sub (a:=x) (b:=y) (by exact hl x (zD hx)) (by exact hl y (zD hy)))) ?_;refine zci ?_;rintro a5 ⟨l,m⟩;have L:=C.call0 m;refine zF<|zaD K (fun S=>?_) (fun S=>?_)
   ·refine zw<|N K<|N K<|U K<|U K<|za K<|ze<|zaq<|zN<|zgE<|zaq<|zN<|zaq<|zlg Tryz.results130<|⟨l,_,K,L.done,?_⟩;refine zvV (zan ?_) (zan ?_) (zP ?_)
    all_goals rw[zGt hx hy hij (by simpa using S) hA hB]
   refine zbO<|zaF<|N K<|zo K zbj<|U K<|D<|⟨⟨j+1,l⟩,⟨rfl,trivial⟩,?_,⟨(A.trans m.le),L,?_,?_,?_⟩,?_⟩
   ·exact zba
   ·omega
   ·omega
   ·exact zFe hx hy (by simpa using S) hB
   show e.stretches.length-(j+1)<e.stretches.length-j;omega
  refine zdx<|zaF<|N K<|zo K zbj<|U K<|D<|⟨⟨i+1,B⟩,⟨rfl,trivial⟩,?_,⟨(F.t A),C,?_,?_⟩,?_⟩
  ·exact zba
  ·first|omega|(simp;omega)
  ·intro a' ha'
   rcases zbK (zca ha') with q_|q_
   ·exact hA a' q_
   ·subst q_;exact zFf (fun b_ hb_=>hB b_ zW)
  show e.stretches.length-(i+1)<e.stretches.length-i;omega
 refine zdx<|zF<|zw<|U K<|U K<|za K<|ze<|zlg Tryz.results130<|⟨I,_,K,P.done,?_⟩;refine zvV (zan ?_) (zan ?_) (zP ?_)
 all_goals rw[zFu (fun a_ ha_=>hA a_ zW)]
theorem zsN (hs:Sub h w) {t:Text} (t_f0:Sl zaN h t_v0 t.chapters) (e_f0:Sl zcp h e_v0 e.stretches):Calls Tryz.prog 82 #[.agg #[t_v0],.agg #[iV e.id,e_v0]] w (zbH h w (fun _ _ res_=>res_=.tuple #[iV ((zmI t e).1),iV ((zmI t e).2.1),iV ((zmI t e).2.2)])):=by
 refine zg 27 Tryz.func82 K<|have b:=zcu hs;have T:=t_f0.le;have a:=e_f0.le;zw<|J [t_v0] b K<|fun s u v c d f=>J [iV e.id,e_v0] f K<|fun x y z C F A=>U K<|U K<|U K<|D<|zav<|E A.sub (d.up C) zaX zac K<|E A.sub F zft zdk K<|have L:=c.t C;zi A K Tryz.call129 (zoI A.sub (t:=t) (t_f0.up L) (e:=e) (e_f0.up L))<|fun o p g H B i=>?_;subst i;refine U K<|D<|zw<|N K<|zar K<|D<|zV K (fun P=>?_) (fun P=>?_)
 ·refine zw<|N K<|U K<|U K<|U K<|ze<|zN<|zlg Tryz.results82<|⟨g,_,K,B.done,?_⟩;refine zvV (zan ?_) (zan ?_) (zan ?_)
  all_goals first|(simp_all[zmI];done)|(cases e_:(clR e.stretches).2.2 <;> simp_all[zmI])
 refine zaS ?_;have Q:zeM t e=0:=by simpa using P
 refine zah<|E B.sub (F.up H) zft zdk K ?_;have j:=L.t H;refine zau B rfl rfl rfl Tryz.call130 rfl (zoH B.sub (e:=e) (e_f0.up j) (by exact fun s_ hs_=>((ziG Q).2.2 s_ hs_).2) (by exact (ziG Q).2.1)) ?_;intro q r S n I l;subst l;refine zeZ K K<|zB K<|zB K<|zcV K<|U K<|U K<|za K<|D<|zav<|zp K<|zdJ K K<|D<|zaD K (fun m=>?_) (fun m=>?_)
 ·refine zw<|U K<|U K<|U K<|ze<|zN<|zlg Tryz.results82<|⟨S,_,K,I.done,?_⟩;refine zvV (zan ?_) (zan ?_) (zan ?_)
  all_goals first|(simp_all[zmI];done)|(cases e_:(clR e.stretches).2.2 <;> simp_all[zmI])
 refine zgg<|zw<|N K<|N K<|U K<|U K<|U K<|ze<|zlg Tryz.results82<|⟨S,_,K,I.done,?_⟩;refine zvV (zan ?_) (zan ?_) (zan ?_)
 all_goals first|(simp_all[zmI];done)|(cases e_:(clR e.stretches).2.2 <;> simp_all[zmI])
theorem zsK (hs:Sub h w) {t:Text} (t_f0:Sl zaN h t_v0 t.chapters) (e_f0:Sl zcp h e_v0 e.stretches):Calls Tryz.prog 173 #[.agg #[t_v0],.agg #[iV e.id,e_v0]] w (zbH h w (fun _ _ res_=>res_=iV (zeP t e))):=by
 refine zg 22 Tryz.func173 K<|have b:=zcu hs;have T:=t_f0.le;have a:=e_f0.le;zw<|J [t_v0] b K<|fun s u v c d f=>J [iV e.id,e_v0] f K<|fun x y z C F A=>U K<|D<|zav<|E A.sub (d.up C) zaX zac K<|E A.sub F zft zdk K<|have L:=c.t C;zi A K Tryz.call129 (zoI A.sub (t:=t) (t_f0.up L) (e:=e) (e_f0.up L))<|fun o p g H B i=>?_;subst i;refine U K<|D<|zw<|N K<|zar K<|D<|zV K (fun Q=>?_) (fun Q=>?_)
 ·refine zw<|N K<|U K<|ze<|zN<|zf Tryz.results173<|⟨g,_,K,B.done,?_⟩;refine zan ?_
  first|(simp_all[zeP];done)|(rw[hcc] at *;simp_all[zeP];done)|(cases e_:zkK e.stretches <;> simp_all[zeP])
 refine zaS<|zaM ?_;have P:zeM t e=0:=by simpa using Q
 refine zah<|E B.sub (F.up H) zft zdk K ?_;have j:=L.t H;refine zau B rfl rfl rfl Tryz.call130 rfl (zoH B.sub (e:=e) (e_f0.up j) (by exact fun s_ hs_=>((ziG P).2.2 s_ hs_).2) (by exact (ziG P).2.1)) ?_;intro q r S n I l;subst l;refine zeZ K K<|zB K<|zB K<|zcV K<|U K<|U K<|za K<|D<|zaM ?_;have hcc:=zzb (fun s_ hs_=>((ziG P).2.2 s_ hs_).2);refine zah<|zp K<|D<|zaD K (fun m=>?_) (fun m=>?_)
 ·refine zw<|U K<|ze<|zN<|zf Tryz.results173<|⟨S,_,K,I.done,?_⟩;refine zan ?_
  first|(simp_all[zeP];done)|(rw[hcc] at *;simp_all[zeP];done)|(cases e_:zkK e.stretches <;> simp_all[zeP])
 refine zgg<|zw<|U K<|ze<|zf Tryz.results173<|⟨S,_,K,I.done,?_⟩;refine zan ?_
 first|(simp_all[zeP];done)|(rw[hcc] at *;simp_all[zeP];done)|(cases e_:zkK e.stretches <;> simp_all[zeP])
theorem ztB (hs:Sub h w) {t:Text} (t_f0:Sl zaN h t_v0 t.chapters) (e_f0:Sl zcp h e_v0 e.stretches) (ht:zcz t=true) (hl:∀ s∈e.stretches,OkS s) (hn:e.stretches.length≤12):Calls Tryz.prog 175 #[.agg #[t_v0],.agg #[iV e.id,e_v0]] w (zbH h w (fun h' _ res_=>∃ u0,res_=u0∧Sl zvT h' u0 (zpF t e))):=by
 refine zg 88 Tryz.func175 K<|have e2:=zcu hs;have d0:=t_f0.le;have d1:=e_f0.le;have htl:=(zmx ht).2.1;zw<|J [t_v0] e2 K<|fun b1 w2 h3 e3 a3 e4=>J [iV e.id,e_v0] e4 K<|fun b7 w8 h9 n u a4=>zdD K K<|D<|zw<|zdD K K<|D<|zav<|U K<|D<|zT ?_;have a5:=a4.snoc;have f17:=OSl.nil zvT 281 h9;refine zaI (zbP 5 82) (G:=Nat×Value×List (Nat×Obj)×Heap) (fun ⟨i,A,B,f⟩=>[(5,A),(6,iV (i:Int))]) (fun ⟨i,A,B,f⟩ w'=>Le h9 f∧St h w f w' [B]∧(OSl zvT 281 f A ((List.range i).flatMap (zvB t e)) B)∧(i≤t.chapters.length)) (fun ⟨i,A,B,f⟩=>t.chapters.length-i) ⟨0,(.slice none 0 0),[],h9⟩ ⟨rfl,rfl,trivial⟩ ⟨Le.refl _,a5,(OSl.to f17 (by rfl)),zbB⟩ ?_;rintro ⟨i,A,B,f⟩ _ h0 ⟨H,q,g,hi⟩;refine zav<|N K<|Z zaY K zbW<|Y 0 q.sub (a3.up (n.t H)) zcJ K<|have d2:=(e3.t n).t H;zG (t_f0.up d2) zaJ K<|zM K<|D<|zV K (fun e5=>?_) (fun e5=>?_)
 ·refine zaS<|zT<|zw<|U K<|D<|zT ?_;refine zaI ([5,7,8,9,10]++zbP 18 69) (G:=Nat×Value×List (Nat×Obj)×Heap) (fun ⟨j,A,B,T⟩=>[(5,A),(7,iV (j:Int))]) (fun ⟨j,A,B,T⟩ w'=>Le f T∧St h w T w' [B]∧(OSl zvT 281 T A ((List.range i).flatMap (zvB t e)++(List.range j).map (znq t e i)) B)∧(j≤(zdt t i).length)) (fun ⟨j,A,B,T⟩=>(zdt t i).length-j) ⟨0,A,B,f⟩ ⟨rfl,rfl,trivial⟩ ⟨Le.refl _,q,(OSl.to g (by simp)),zbB⟩ ?_;rintro ⟨j,A,B,T⟩ _ h1 ⟨I,P,g,hj⟩;refine zav<|N K<|Z zaY K zbW<|Y 0 P.sub (a3.up ((n.t H).t I)) zcJ K<|N K ?_;obtain ⟨c,hc⟩:∃ y_,(t.chapters)[i]?=some y_:=zdl zW;have d3:=d2.t I;obtain ⟨h2,h4,_,v,y,hr_c⟩:=Sl.elem (t_f0.up d3) hc;obtain ⟨h5,rfl,f31⟩:=hr_c;have d9:=f31.le;refine zx v zaJ zbA K ?_;have hla:zdt t i=c.lines:=by rw[zdt,hc];rfl
  have g6:=zlF ht hc;refine Z zaP K zcj<|Y 1 P.sub y zdd K<|zG f31 zaW K<|zM K<|D<|zV K (fun e6=>?_) (fun e6=>?_)
  ·refine zaS<|zT<|zw<|N K<|N K<|Z zaY K zbW<|Y 0 P.sub (a3.up ((n.t H).t I)) zcJ K<|N K<|zx v zaJ zbA K<|Z zaP K zcj<|Y 1 P.sub y zdd K<|N K ?_;obtain ⟨ln,hln⟩:∃ y_,(c.lines)[j]?=some y_:=zdl zW;obtain ⟨h6,h7,_,a6,a7,hr_ln⟩:=Sl.elem f31 hln;obtain ⟨h8,rfl,f38⟩:=hr_ln;have e0:=f38.le;refine zx a6 zaW zeY K ?_;have hwl:ziz t i j=ln:=by rw[ziz,hla,hln];rfl
   refine Y 0 P.sub a7 zfK K<|zG f38 zJ K<|zU K (zdT (cs:=[iV (i:Int),iV (j:Int),iV 0,iV 0,iV (ln.length:Int)]) zch)<|zaf P Tryz.zeroValue281 K K<|fun e7 j0 a8=>zq 1 a8 K ziV<|fun j1 a9=>D<|zav<|U K<|D<|zT ?_;refine zaI ([9,10]++zbP 42 41) (G:=Nat×Int×Int×Heap) (fun ⟨m,a,b,p⟩=>[(9,iV (m:Int))]) (fun ⟨m,a,b,p⟩ w'=>Le T p∧St h w p w' [B,[(e7,.cells (List.toArray [iV (i:Int),iV (j:Int),iV a,iV b,iV (ln.length:Int)]) 281)]]∧(m≤e.stretches.length)∧(a=((asF (e.stretches.take m) ⟨i,j⟩).getD zmo).a)∧(b=((asF (e.stretches.take m) ⟨i,j⟩).getD zmo).b)) (fun ⟨m,a,b,p⟩=>e.stretches.length-m) ⟨0,0,0,T⟩ ⟨rfl,trivial⟩ ⟨Le.refl _,a9,zbB,(by rfl),(by rfl)⟩ ?_;rintro ⟨m,a,b,p⟩ _ j2 ⟨C,Q,hm,hab,hbb⟩;refine zav<|N K<|Z zdF K zgx<|Y 1 Q.sub (u.up ((H.t I).t C)) zhG K<|have d4:=d3.t C;zG (e_f0.up d4) zcQ K<|zM K<|D<|zV K (fun e8=>?_) (fun e8=>?_)
   ·refine zaS<|zT<|zw<|Z zdF K zgx<|Y 1 Q.sub (u.up ((H.t I).t C)) zhG K<|N K ?_;obtain ⟨sx,hsx⟩:∃ y_,(e.stretches)[m]?=some y_:=zdl zW;obtain ⟨j3,j4,_,b0,b2,hr_sx⟩:=Sl.elem (e_f0.up d4) hsx;subst hr_sx;refine zx b0 zcQ zdn K<|E Q.sub b2 zgJ zdn K<|zaf Q Tryz.zeroValue211 K K<|fun j5 j6 b3=>zq 2 b3 K zdn<|fun j7 b4=>?_;obtain ⟨d5,o,b5,F⟩:=b4.freeze (k:=2) rfl;have S:=zaL.of b5;refine D<|zaM ?_;have hso:=hl sx (zD hsx);obtain ⟨j8,j9,k0,k1,k2,k3,k4,k5,k6⟩:=hso;refine zah<|Z ziu K zI<|zgs (F.get (k:=1) K) K K zO K<|zgL K K K<|zp K<|zaK (d:=57) K (fun e9=>?_) (fun e9=>?_)
    ·refine X K<|Z zad K zI<|X K<|Y 0 F.sub S zO K<|X K<|N K<|X K<|zgL K K K<|zd K<|zp K<|zaK (d:=63) K (fun g0=>?_) (fun g0=>?_)
     ·refine X K<|N K<|X K<|Z zad K zI<|X K<|Y 1 F.sub S zO K<|X K<|Z zad K zI<|X K<|Y 2 F.sub S zO K<|X K<|zja K K zbj K<|X K<|zi F K zoa (zhh F.sub _ _ _)<|fun k7 k8 g1 l z g2=>?_;subst g2;refine zd K<|D<|zaD K (fun g3=>?_) (fun g3=>?_)
      ·refine ziZ (dsts:=(zbP 72 11)) z zbh<|zL (zh zad K zI)<|zas (fun hD wD d6 hL hS hO _ _=>(zm 3 (hL.sub hS) (S.up l) zO K))<|zL (zh zad K zI)<|zas (fun hD wD d6 hL hS hO _ _=>(zm 4 (hL.sub hS) (S.up l) zO K))<|zL (zho K)<|zL (zkU K K zbj)<|zL (zh zad K zI)<|zas (fun hD wD d6 hL hS hO _ _=>(zm 1 (hL.sub hS) (S.up l) zO K))<|zL (zpf K K zbj)<|zL (zh ziu K zI)<|zcf<|zL (zh ziu K zI)<|zcf<|zdy<|fun g7 k9 _ b6 b8 _ _ _ _ _ _=>zaw 1 b8 K zI<|fun l0 b9=>zl ⟨undef,K,_,_,Le.refl _,b9,?_⟩;intro g8 l1 _ c0 c1 _ _ _ _ _ _ _ _ _ _ _ _ _ _ _ _ _ _ _ _ _ _;refine zaw 1 c1 K zI<|fun l2 c2=>zl ⟨undef,K,_,_,Le.refl _,c2,?_⟩;intro c3 l3 _ c4 c5 _ _ _ _ _ _ _ _ _ _ _ _ _ _ _ _ _ _ _ _ _ _;refine zbT.fin K<|zaF<|N K<|zo K zbj<|U K<|D<|have g4:=((((C.t o).t l).t b6).t c0).t c4;⟨⟨m+1,sx.as_,sx.first+(j:Int)-sx.from_,c3⟩,⟨rfl,trivial⟩,?_,⟨g4,c5.take 2,?_,?_,?_⟩,?_⟩
       ·exact zba
       ·first|omega|(simp;omega)
       ·exact (zFA (b:=b) hsx hl hab (by simp_all) (by simp_all) (by simp_all)).1
       ·exact (zFA (b:=b) hsx hl hab (by simp_all) (by simp_all) (by simp_all)).2
       show e.stretches.length-(m+1)<e.stretches.length-m;omega
      refine zbO<|zaF<|N K<|zo K zbj<|U K<|D<|⟨⟨m+1,a,b,g1⟩,⟨rfl,trivial⟩,?_,⟨((C.t o).t l),z.take 2,?_,?_,?_⟩,?_⟩
      ·exact zba
      ·first|omega|(simp;omega)
      ·exact (zso hsx hab hbb hl (by simp_all)).1
      ·exact (zso hsx hab hbb hl (by simp_all)).2
      show e.stretches.length-(m+1)<e.stretches.length-m;omega
     refine zao 7 K<|zb K<|D<|zaD K (fun d7=>?_) (fun d7=>?_)
     ·cases d7
     refine zbO<|zaF<|N K<|zo K zbj<|U K<|D<|⟨⟨m+1,a,b,d5⟩,⟨rfl,trivial⟩,?_,⟨(C.t o),F.take 2,?_,?_,?_⟩,?_⟩
     ·exact zba
     ·first|omega|(simp;omega)
     ·exact (zso hsx hab hbb hl (by simp_all)).1
     ·exact (zso hsx hab hbb hl (by simp_all)).2
     show e.stretches.length-(m+1)<e.stretches.length-m;omega
    refine zao 4 K<|zb K<|zp K<|zao 7 K<|zb K<|D<|zaD K (fun d8=>?_) (fun d8=>?_)
    ·cases d8
    refine zbO<|zaF<|N K<|zo K zbj<|U K<|D<|⟨⟨m+1,a,b,d5⟩,⟨rfl,trivial⟩,?_,⟨(C.t o),F.take 2,?_,?_,?_⟩,?_⟩
    ·exact zba
    ·first|omega|(simp;omega)
    ·exact (zso hsx hab hbb hl (by simp_all)).1
    ·exact (zso hsx hab hbb hl (by simp_all)).2
    show e.stretches.length-(m+1)<e.stretches.length-m;omega
   refine zdx<|zF<|zah<|zk A K<|zem (Q.get (k:=1) K) K Tryz.isAgg281 ziV K K<|zA zvT [(CRow.mk (i:Int) (j:Int) a b (ln.length:Int))] [iV (i:Int),iV (j:Int),iV a,iV b,iV (ln.length:Int)] Q (Enc.cons (L:=zvT) (vs:=[iV (i:Int),iV (j:Int),iV a,iV b,iV (ln.length:Int)]) (x:=(CRow.mk (i:Int) (j:Int) a b (ln.length:Int))) (h:=p) K Enc.nil) K zjV Tryz.info281 zch<|fun l4 l5 g5 r f97 c6=>?_;refine zbe (k:=0) (nb:=40) c6 (g.up (C.t r)) rfl f97 rfl rfl rfl zjV Tryz.info281 rfl rfl rfl (by decide) rfl (by have q_:=zsi (e:=e) ht i;simp only[zj,zaa,zfn,zy,zC];omega) (by have q_:=zsi (e:=e) ht i;simp only[zj,zaa,zfn,zy,zC];omega) ?_;intro a0 c7 g9 _ c8 f105 a1;subst c8;refine zH a0 K<|zl<|zaF<|N K<|zo K zbj<|U K<|D ?_;have hmx:m=e.stretches.length:=by omega
   subst hmx;rw[zS (zbR _)] at hab hbb;have hrow:=zEu (t:=t) hab hbb (wl:=(ln.length:Int)) (by rw[hwl]);refine ⟨⟨j+1,a0,c7,g5⟩,⟨rfl,K,trivial⟩,?_,⟨((I.t C).t r),a1.take 1,?_,?_⟩,?_⟩
   ·exact zba
   ·refine OSl.to f105 ?_;rw[zdb,zaz,← zaB];rw[hrow];rfl
   ·rw[hla];omega
   show (zdt t i).length-(j+1)<(zdt t i).length-j;rw[hla];omega
  refine zdx<|zaF<|N K<|zo K zbj<|U K<|D<|⟨⟨i+1,A,B,T⟩,⟨rfl,K,trivial⟩,?_,⟨(H.t I),P,?_,?_⟩,?_⟩
  ·exact zba
  ·refine OSl.to g ?_;rw[zdb,zfi,show j=(zdt t i).length by rw[hla] at hj ⊢;omega];simp[zvB]
  ·first|omega|(simp;omega)
  show t.chapters.length-(i+1)<t.chapters.length-i;omega
 refine zdx<|zF<|zw<|zk A K<|zH A K<|ze<|zf Tryz.results175 ?_;obtain ⟨c9,e1,f109,a2⟩:=OSl.freeze (k:=0) q g rfl (by have q_:=zsi (e:=e) ht i;omega);refine ⟨c9,_,K,a2.done,?_⟩;refine ⟨_,K,Sl.to f109 ?_⟩;rw[show i=t.chapters.length by omega];rfl
theorem zvi (hs:Sub h w) {l:(List CRow)} (l_f:Sl zvT h l_v l):Calls Tryz.prog 174 #[l_v,.agg #[iV p.chapter,iV p.line,iV p.word]] w (zbH h w (fun _ _ res_=>res_=.agg #[iV (atR l p).chapter,iV (atR l p).line,iV (atR l p).as_,iV (atR l p).number,iV (atR l p).words])):=by
 refine zg 35 Tryz.func174 K<|have f:=zcu hs;have l_f_b:=l_f.le;zw<|J [iV p.chapter,iV p.line,iV p.word] f K<|fun b1 w2 u g S i=>zaf i Tryz.zeroValue281 K K<|fun v w8 m=>D<|zav<|U K<|D<|zT ?_;refine zaI (zbP 5 29) (G:=Nat×Heap) (fun ⟨k,B⟩=>[(5,iV (k:Int))]) (fun ⟨k,B⟩ w'=>Le u B∧St h w B w' [[(v,.cells (List.toArray [iV 0,iV 0,iV 0,iV 0,iV 0]) 281)]]∧(k≤l.length)∧(∀ j y,j<k→l[j]?=some y→(decide (y.chapter=p.chapter) && decide (y.line=p.line))=false)) (fun ⟨k,B⟩=>l.length-k) ⟨0,u⟩ ⟨rfl,trivial⟩ ⟨Le.refl _,m,zbB,(by intro j y hj;omega)⟩ ?_;rintro ⟨k,B⟩ _ z ⟨A,C,hk,hA⟩;refine zav<|N K<|zk l_v K<|have T:=g.t A;zG (l_f.up T) zjV K<|zM K<|D<|zV K (fun n=>?_) (fun n=>?_)
 ·refine zaS<|zT<|zaM<|zcY zbh zch (Cls B _) (Cls.drew C)<|zbr l_v K<|zew K K ?_;obtain ⟨x,hx⟩:∃ y_,(l)[k]?=some y_:=zdl zW;obtain ⟨a0,a1,_,F,H,hr_x⟩:=Sl.elem (l_f.up T) hx;subst hr_x;refine zag F zjV ziV K<|zz ziu K zI<|zaT 0 H zO K<|zz zaC K zI<|zaT 0 (S.up A) zO K<|zwn K K K<|zjM K K<|ziW (d:=20) K (fun o=>?_) (fun o=>?_)
  ·refine zc K<|zbr l_v K<|zc K<|zew K K<|zc K<|zag F zjV ziV K<|zc K<|zz ziu K zI<|zc K<|zaT 1 H zO K<|zc K<|zz zaC K zI<|zc K<|zaT 1 (S.up A) zO K<|zc K<|zwn K K K<|zbm K<|zci ?_;rintro a2 ⟨a,Q⟩;have I:=C.call0 Q;refine zF<|zV K (fun r=>?_) (fun r=>?_)
   ·refine zw<|zk l_v K<|N K<|zx F zjV ziV K<|E I.sub (H.up Q.le) Tryz.isAgg281 ziV K<|zq 0 I K ziV<|fun a3 L=>ze<|zaq<|zN<|zaq<|zuE Tryz.results174 K Tryz.isAgg281 ziV K (L.get (k:=0) K)<|⟨a,_,K,L.done,?_⟩;refine ?_;rw[zFx hx hA (by simp_all)]
    try rfl
   refine zbO<|zaF<|N K<|zo K zbj<|U K<|D<|⟨⟨k+1,a⟩,⟨rfl,trivial⟩,?_,⟨(A.trans Q.le),I,?_,?_⟩,?_⟩
   ·exact zba
   ·first|omega|(simp;omega)
   ·intro j y hj hy
    rcases zbK (zca hj) with q|q
    ·exact hA j y q hy
    ·subst q;rw[hx] at hy;cases hy;simp_all
   show l.length-(k+1)<l.length-k;omega
  refine zgK 8 K<|zbU K<|zci ?_;rintro a4 ⟨s,b⟩;have c:=C.call0 b;refine zF<|zaD K (fun e=>?_) (fun e=>?_)
  ·cases e
  refine zbO<|zaF<|N K<|zo K zbj<|U K<|D<|⟨⟨k+1,s⟩,⟨rfl,trivial⟩,?_,⟨(A.trans b.le),c,?_,?_⟩,?_⟩
  ·exact zba
  ·first|omega|(simp;omega)
  ·intro j y hj hy
   rcases zbK (zca hj) with q|q
   ·exact hA j y q hy
   ·subst q;rw[hx] at hy;cases hy;simp_all
  show l.length-(k+1)<l.length-k;omega
 refine zdx<|zF<|zw<|zU K (zdT (cs:=[iV 0,iV 0,iV 0,iV 0,iV 0]) zch)<|zq 0 C K ziV<|fun a5 P=>ze<|zuE Tryz.results174 K Tryz.isAgg281 ziV K (P.get (k:=0) K)<|⟨B,_,K,P.done,?_⟩;refine ?_;rw[zFz (fun j y hy=>hA j y (by have q_:=(k_List_getElem__eq_some_iff.1 hy).1;omega) hy)];rfl
theorem zsL (hs:Sub h w) {t:Text} (t_f0:Sl zaN h t_v0 t.chapters) (e_f0:Sl zcp h e_v0 e.stretches):Calls Tryz.prog 126 #[.agg #[t_v0],.agg #[iV e.id,e_v0],.agg #[iV p.chapter,iV p.line,iV p.word]] w (zbH h w (fun _ _ res_=>res_=.tuple #[.agg #[iV (zih t e p).chapter,iV (zih t e p).line,iV (zih t e p).word],iV (zmA t e p)])):=by
 refine zg 39 Tryz.func126 K<|have b4:=zcu hs;have b0:=t_f0.le;have b2:=e_f0.le;zw<|J [t_v0] b4 K<|fun b1 w2 h3 b5 u b6=>J [iV e.id,e_v0] b6 K<|fun b7 w8 h9 I g a1=>J [iV p.chapter,iV p.line,iV p.word] a1 K<|fun d4 d5 d6 B Q a2=>zaf a2 Tryz.zeroValue138 K K<|fun d7 d8 L=>U K<|D<|zav<|E L.sub (u.up (I.t B)) zaX zac K<|E L.sub (g.up B) zft zdk K<|have v:=(b5.t I).t B;zi L K Tryz.call173 (zsK L.sub (t:=t) (t_f0.up v) (e:=e) (e_f0.up v))<|fun d9 e0 b8 A H b9=>?_;subst b9;refine U K<|D<|zw<|N K<|zar K<|D<|zV K (fun x=>?_) (fun x=>?_)
 ·refine zw<|zU K (zdT (cs:=[iV 0,iV 0,iV 0]) zch)<|N K<|zq 0 H K zeo<|fun e1 i=>U K<|ze<|zN<|zhm Tryz.results126 K zjm zeo K (i.get (k:=0) K)<|⟨b8,_,K,i.done,?_⟩;refine zfS ?_ (zan ?_)
  all_goals (have q_:¬ zeP t e=0:=by simpa using x)
  ·rw[zih,zam (fun x_=>q_ x_.1)];rfl
  rw[zmA,zab q_]
 refine zaS<|zaM ?_;have T:zeP t e=0:=by simpa using x
 have hed:=ziG (ztR T).1;have c0:=hed.1;have c1:=hed.2.1;have c2:=fun s_ hs_=>(hed.2.2 s_ hs_).2;refine zah<|E H.sub (u.up ((I.t B).t A)) zaX zac K<|E H.sub (Q.up A) zaE zR K<|have y:=v.t A;zi H K Tryz.call68 (zmm H.sub (t:=t) (t_f0.up y) (p:=p))<|fun e2 e3 c3 C j c4=>?_;subst c4;refine zdJ K K<|D<|zaD K (fun z=>?_) (fun z=>?_)
 ·refine zw<|zU K (zdT (cs:=[iV 0,iV 0,iV 0]) zch)<|zq 0 j K zeo<|fun e4 l=>U K<|ze<|zN<|zhm Tryz.results126 K zjm zeo K (l.get (k:=0) K)<|⟨c3,_,K,l.done,?_⟩;refine zfS ?_ (zan ?_)
  all_goals (have q_:zeb t p=false:=by simpa using z)
  ·rw[zih,zam (fun x_=>by rw[q_] at x_;cases x_.2)];rfl
  rw[zmA,zam (by simp[T]),zam (by simp[q_])]
 refine zaS ?_;have a:zeb t p=true:=by simpa using z
 have hpw:=zmU a;have hat:=zFy (e:=e) a;have hrq:=zHg T a;rw[← hat] at hrq;have d0:p.word≤1000:=(zvH (t:=t) (e:=e) (p:=p) (by rw[zjt,zam (by simp[T]),zab a])).2;have c5:=((I.t B).t A).t C;refine ziZ (dsts:=[22,23,24,25,26,9]) j zbh<|zas (fun hD wD b c d hO=>(zaQ (c.sub d) (u.up c5) K zaX zac K))<|zas (fun hD wD b c d hO=>(zaQ (c.sub d) (g.up ((B.t A).t C)) K zft zdk K))<|zbq (.res (fun h' res_=>Sl zvT h' res_ ((zpF t e))) (fun _ _ _ hl f=>f.up hl)) ?_ ?_
 ·intro hD wD b c d hO _ _ _ _;have m:=St.start d;refine zau m rfl rfl rfl Tryz.call175 rfl (ztB m.sub (t:=t) (t_f0.up ((y.t C).trans c)) (e:=e) (e_f0.up ((y.t C).trans c)) (by exact c0) (by exact c2) (by exact c1)) ?_;intro e5 e6 e7 d1 a3 c6;obtain ⟨e8,c7,f51⟩:=c6;rw[← c7] at f51;have b3:=f51.le;exact zl ⟨_,_,K,a3,_,K,f51⟩
 refine zas (fun hD wD b c d hO=>(zaQ (c.sub d) (Q.up (A.t C)) K zaE zR K))<|zbq (.det (.agg (List.toArray [iV ((atR (((zpF t e))) p).chapter),iV ((atR (((zpF t e))) p).line),iV ((atR (((zpF t e))) p).as_),iV ((atR (((zpF t e))) p).number),iV ((atR (((zpF t e))) p).words)]))) ?_ ?_
 ·intro hD wD b c d hO _ _ gv2_0 gf2_0;have n:=St.start d;refine zi n K Tryz.call174 (zvi n.sub gf2_0 (p:=p))<|fun e9 g0 g1 d2 a4 c8=>?_;subst c8;exact zl ⟨_,_,K,a4,(),K,trivial⟩
 refine zmn Tryz.zeroValue281 K<|zcf<|zdy<|fun g2=>fun d3 g3 _ a5 a6 _ _ _ _ gv2_0x61 gf2_0x61 _ _ _ _=>zq 1 a6 K ziV<|fun g4 a7=>?_;obtain ⟨g5,o,a8,a9⟩:=a7.freeze (k:=1) rfl;have S:=zaL.of a8;refine zl ⟨undef,K,_,_,o,a9,?_⟩;intro q g6 _ P F _ _ _ _ gv2_0x77 gf2_0x77 _ _ _ _;refine zbT.fin K<|zF<|zav<|Z ziu K zI<|Y 2 F.sub (S.up P) zO K<|zgL K K K<|D<|zV K (fun a0=>?_) (fun a0=>?_)
 ·refine zw<|zU K (zdT (cs:=[iV 0,iV 0,iV 0]) zch)<|zq 0 F K zeo<|fun g7 r=>U K<|ze<|zN<|zhm Tryz.results126 K zjm zeo K (r.get (k:=0) K)<|⟨q,_,K,r.done,?_⟩;refine zfS ?_ (zan ?_)
  all_goals obtain ⟨q1_,q2_⟩:=hrq.1 (by simpa using a0)
  ·rw[q1_];rfl
  exact q2_.symm
 refine zgg<|zw<|Z ziu K zI<|Y 2 F.sub (S.up P) zO K<|Z ziu K zI<|Y 3 F.sub (S.up P) zO K<|Z zaC K zI<|have c9:=(((A.t C).t a5).t o).t P;Y 2 F.sub (Q.up c9) zO K<|zo K zbj<|zU K (zdT (cs:=[iV ((atR (((zpF t e))) p).as_),iV ((atR (((zpF t e))) p).number),iV ((p.word)+1)]) zch)<|zq 0 F K zeo<|fun g8 s=>U K<|ze<|zhm Tryz.results126 K zjm zeo K (s.get (k:=0) K)<|⟨q,_,K,s.done,?_⟩;refine zfS ?_ (zan ?_)
 all_goals obtain ⟨q1_,q2_⟩:=hrq.2 (by simpa using a0)
 ·rw[q1_];rfl
 exact q2_.symm
theorem zoS (hs:Sub h w) {a_v:Value} {a:(List Stretch)} (a_f:Sl zcp h a_v a) {b_v:Value} {b:(List Stretch)} (b_f:Sl zcp h b_v b):Calls Tryz.prog 60 #[a_v,b_v] w (zbH h w (fun _ _ res_=>res_=.bool (decide (a=b)))):=by
 refine zg 26 Tryz.func60 K<|have I:=zcu hs;have a_f_b:=a_f.le;have b_f_b:=b_f.le;zw<|za K<|D<|zav<|zk a_v K<|zG a_f zcQ K<|zk b_v K<|zG b_f zcQ K<|zar K<|D<|zV K (fun e=>?_) (fun e=>?_)
 ·refine zw<|za K<|ze<|zN<|zf Tryz.results60<|⟨h,_,K,I.done,?_⟩;refine zP ?_;have q:a≠b:=by
   rintro rfl;simp_all
  simp[q]
 refine zaS<|zw<|U K<|D<|zT ?_;refine zaI ([4,5]++zbP 11 15) (G:=Nat×Heap) (fun ⟨k,C⟩=>[(5,iV (k:Int))]) (fun ⟨k,C⟩ w'=>Le h C∧St h w C w' []∧(k≤a.length)∧(a.take k=b.take k)) (fun ⟨k,C⟩=>a.length-k) ⟨0,h⟩ ⟨rfl,trivial⟩ ⟨Le.refl _,I,zbB,zbB⟩ ?_;rintro ⟨k,C⟩ _ l ⟨A,F,hk,he⟩;refine zav<|N K<|zk a_v K<|zG (a_f.up A) zcQ K<|zM K<|D<|zV K (fun f=>?_) (fun f=>?_)
 ·refine zaS<|zT<|zaM<|zcY zbh zch (Cls C _) (Cls.drew F)<|zbr a_v K<|zew K K ?_;obtain ⟨x,hx⟩:∃ y_,(a)[k]?=some y_:=zdl zW;obtain ⟨m,n,_,L,c,hr_x⟩:=Sl.elem (a_f.up A) hx;subst hr_x;refine zag L zcQ zdn K<|zdp c zgJ zdn K<|zbr b_v K<|zew K K ?_;obtain ⟨y,hy⟩:∃ y_,(b)[k]?=some y_:=zdl zW;obtain ⟨g,i,_,P,Q,hr_y⟩:=Sl.elem (b_f.up A) hy;subst hr_y;refine zag P zcQ zdn K<|zdp Q zgJ zdn K<|zbf K K (fun _ _=>(zkG K K Tryz.eqGuardType211 (Tryz.eq_Stretch x y)))<|zci ?_;rintro j ⟨S,T⟩;have B:=F.call0 T;refine zF<|zV K (fun H=>?_) (fun H=>?_)
  ·refine zw<|za K<|ze<|zaq<|zN<|zaq<|zf Tryz.results60<|⟨S,_,K,B.done,?_⟩;refine zP ?_;have q:=zin hx hy (by simpa using H);simp[q]
  refine zbO<|zaF<|N K<|zo K zbj<|U K<|D<|have d:=A.trans T.le;⟨⟨k+1,S⟩,⟨rfl,trivial⟩,?_,⟨d,B,?_,?_⟩,?_⟩
  ·exact zba
  ·first|omega|(simp;omega)
  ·exact zhv he hx hy (by simpa using H)
  show a.length-(k+1)<a.length-k;omega
 refine zdx<|zF<|zw<|za K<|ze<|zf Tryz.results60<|⟨C,_,K,F.done,?_⟩;refine zP ?_;have q:=ziF he zW zW;simp[q]
theorem ztD (hs:Sub h w) {a:Edition} (a_f0:Sl zcp h a_v0 a.stretches) {b:Edition} (b_f0:Sl zcp h b_v0 b.stretches):Calls Tryz.prog 20 #[.agg #[iV a.id,a_v0],.agg #[iV b.id,b_v0]] w (zbH h w (fun _ _ res_=>res_=.bool (decide (a=b)))):=by
 refine zg 17 Tryz.func20 K<|have Q:=zcu hs;have L:=a_f0.le;have P:=b_f0.le;zw<|J [iV a.id,a_v0] Q K<|fun g q r S F T=>J [iV b.id,b_v0] T K<|fun s u j B C A=>za K<|D<|zw<|Z zdF K zI<|Y 0 A.sub (F.up B) zO K<|Z zdF K zI<|Y 0 A.sub C zO K<|zgL K K K<|zp K<|zaK (d:=10) K (fun c=>?_) (fun c=>?_)
 ·refine X K<|Z zdF K zgx<|X K<|Y 1 A.sub (F.up B) zhG K<|X K<|Z zdF K zgx<|X K<|Y 1 A.sub C zhG K<|X K<|have H:=S.t B;zi A K Tryz.call60 (zoS A.sub (a_f0.up H) (b_f0.up H))<|fun l m e i I f=>?_;subst f;refine zd K<|za K<|ze<|zf Tryz.results20<|⟨e,_,K,I.done,?_⟩;refine zP ?_
  rcases a with ⟨n,o⟩;rcases b with ⟨g,p⟩
  first|(simp_all;done)|(simp;intros;simp_all)
 refine zao 5 K<|zb K<|za K<|ze<|zf Tryz.results20<|⟨j,_,K,A.done,?_⟩;refine zP ?_
 rcases a with ⟨n,o⟩;rcases b with ⟨g,p⟩
 first|(simp_all;done)|(simp;intros;simp_all)
theorem zsM (hs:Sub h w) (e_f0:Sl zcp h e_v0 e.stretches):Calls Tryz.prog 6 #[.agg #[iV e.id,e_v0]] w (zbH h w (fun _ _ res_=>res_=.bool ((decide (20<e.stretches.length))))):=by
 refine zg 7 Tryz.func6 K<|have C:=zcu hs;have B:=e_f0.le;zw<|J [iV e.id,e_v0] C K<|fun L P I F H A=>za K<|D<|zw<|Z zdF K zgx<|Y 1 A.sub H zhG K<|zG (e_f0.up F) zcQ K<|zhn K K K<|za K<|ze<|zf Tryz.results6<|⟨I,_,K,A.done,?_⟩;refine zP ?_;simp;omega
theorem ztC (hs:Sub h w) (e_f0:Sl zcp h e_v0 e.stretches) (hsm:e.stretches.length≤20):Calls Tryz.prog 8 #[.agg #[iV e.id,e_v0]] w (zbH h w (fun h' _ res_=>∃ u0,res_=.agg #[iV (e).id,u0]∧Sl zcp h' u0 (e).stretches)):=by
 refine zg 9 Tryz.func8 K<|have a:=zcu hs;have T:=e_f0.le;zw<|zvs a (cs:=[iV e.id,e_v0]) K K K<|fun p q b=>zaf b Tryz.zeroValue32 K K<|fun r s c=>D<|zw<|zpR (L:=zcp) c K ⟨_,zdn⟩ zcQ<|fun u x y f10 A=>Z zdF K zgx<|zgs (A.get (k:=0) K) K K zhG K ?_;refine zbe (k:=2) (nb:=40) A f10 rfl e_f0 rfl rfl rfl zcQ Tryz.info211 rfl rfl rfl (by decide) rfl (by simp only[zC,zcM];omega) (by simp only[zC,zcM];omega) ?_;intro d j l _ f f16 F;subst f;refine Z zdF K zgx<|zeH F (k:=0) K K (v:=d) K f16.one zgx K K K<|fun m B=>D<|zw<|zem (B.get (k:=0) K) K zft zdk K K<|zaU 1 B K (zbI K (zbI f16.one zgB)) zdk<|fun n H=>?_;obtain ⟨o,I,P,C⟩:=H.freeze (k:=1) rfl;have Q:=zaL.of P;refine ze<|zgj Tryz.results8 K zft zdk K C.sub Q ?_;obtain ⟨g,i,f29,S⟩:=OSl.freeze (k:=2) C (f16.up I) rfl (by simp only[zcM];omega);refine ⟨g,_,K,S.done,?_⟩;refine ⟨_,?_,Sl.to f29 ?_⟩
 ·rfl
 simp
theorem zux (hs:Sub h w) {c:Cut} (c_l2:0≤c.side∧c.side≤255):Calls Tryz.prog 108 #[.agg #[iV c.width,.int .u8 c.side]] w (zbH h w (fun _ _ res_=>res_=.bool (ztp c))):=by
 refine zg 12 Tryz.func108 K<|have I:=zcu hs;zw<|J [iV c.width,.int .u8 c.side] I K<|fun g i j a C B=>za K<|D<|zw<|Z Tryz.underlying34 K zI<|Y 0 B.sub C zO K<|zi B K Tryz.call163 (zot B.sub _ _ _)<|fun l m b F A L=>?_;obtain rfl:=L;refine zp K<|zbX (d:=6) K (fun P=>?_) (fun P=>?_)
 ·refine X K<|Z Tryz.underlying34 K zcg<|X K<|Y 1 A.sub (C.up F) zda K<|X K ?_;refine zax rfl rfl (zkH rfl rfl zcW (IntWalk.i64_in _ zW)) ?_;refine X K<|zi A K Tryz.call163 (zot A.sub _ _ _)<|fun e f Q T H S=>?_;obtain rfl:=S;refine zd K<|za K<|ze<|zf Tryz.results108<|⟨Q,_,K,H.done,?_⟩;refine zP ?_
  first|(simp_all[ztp];done)|(simp[ztp];simp_all;done)
 refine zao 4 K<|zb K<|za K<|ze<|zf Tryz.results108<|⟨b,_,K,A.done,?_⟩;refine zP ?_
 first|(simp_all[ztp];done)|(simp[ztp];simp_all;done)
theorem zsJ (hs:Sub h w) {c:Cut} (c_l2:0≤c.side∧c.side≤255):Calls Tryz.prog 54 #[.agg #[iV c.width,.int .u8 c.side]] w (zbH h w (fun _ _ res_=>res_=iV (znH c))):=by
 refine zg 6 Tryz.func54 K<|have C:=zcu hs;zw<|J [iV c.width,.int .u8 c.side] C K<|fun S T a Q F B=>U K<|D<|zav<|E B.sub F Tryz.isAgg34 zjI K<|zi B K Tryz.call108 (zux B.sub (c:=c) zfb)<|fun b d L P A H=>?_;obtain rfl:=H;refine zdJ K K<|D<|zaD K (fun I=>?_) (fun I=>?_)
 ·refine zw<|U K<|ze<|zN<|zf Tryz.results54<|⟨L,_,K,A.done,?_⟩;refine zan ?_
  first|(simp_all[znH];done)|(cases e_:ztp c <;> simp_all[znH])
 refine zgg<|zw<|U K<|ze<|zf Tryz.results54<|⟨L,_,K,A.done,?_⟩;refine zan ?_
 first|(simp_all[znH];done)|(cases e_:ztp c <;> simp_all[znH])
theorem zrt (hs:Sub h w) {t:Text} (t_f0:Sl zaN h t_v0 t.chapters) {r:Reading} (r_l4:0≤r.kind∧r.kind≤255) (r_l5:r.word.length≤281474976710656) (ht:zcz t=true):Calls Tryz.prog 164 #[.agg #[t_v0],.agg #[iV r.at_.chapter,iV r.at_.line,iV r.at_.word,.int .u8 r.kind,zae r.word]] w (zbH h w (fun _ _ res_=>res_=.bool (ziB t r))):=by
 refine zg 70 Tryz.func164 K<|have s:=zcu hs;have q:=t_f0.le;zw<|J [t_v0] s K<|fun b1 w2 h3 u v x=>J [iV r.at_.chapter,iV r.at_.line,iV r.at_.word,.int .u8 r.kind,zae r.word] x K<|fun b7 w8 h9 P B F=>za K<|D<|zw<|E F.sub (v.up P) zaX zac K<|Z zaO K zR<|zr 0 [iV r.at_.chapter,iV r.at_.line,iV r.at_.word] F.sub B zaE zR K<|have y:=u.t P;zi F K Tryz.call116 (zpq F.sub (t:=t) (t_f0.up y) (p:=r.at_))<|fun c0 c1 Q C A z=>?_;obtain ⟨I,rfl,f21⟩:=z;have a0:=f21.le;refine zeZ K K<|zbl I K<|zcV K<|zH I K<|za K<|D<|zav<|zp K<|zdJ K K<|D<|zaD K (fun S=>?_) (fun S=>?_)
 ·refine zw<|za K<|ze<|zN<|zf zju<|⟨Q,_,K,A.done,?_⟩;refine zP ?_;rw[zBV (by simpa using S)]
 refine zaS<|zaM ?_;obtain ⟨l,hl⟩:∃ l,zdw t r.at_=some l:=Option.isSome_iff_exists.1 (by simpa using S);have hgl:(zdw t r.at_).getD []=l:=by rw[hl];rfl
 have hlz:=zva ht hl;refine zah<|Z zaO K zcg<|Y 3 A.sub (B.up C) zda K<|D<|zT<|zw<|zgL K K K<|za K<|D<|zV K (fun a1=>?_) (fun a1=>?_)
 ·refine zw<|Z zaO K zR<|Z zaC K zI<|Y 2 A.sub (B.up C) zO K<|zk I K<|zG f21 zJ K<|zja K K zbj K<|zi A K zjC (zen A.sub _ _ _)<|fun c2 c3 T a L a2=>?_;subst a2;refine zp K<|zbX (d:=27) K (fun a3=>?_) (fun a3=>?_)
  ·refine X K<|Z zaO K zap<|X K<|Y 4 L.sub (B.up (C.t a)) zaZ K<|X K<|zmw K K K<|zd K<|za K<|ze<|zaq<|zf zju<|⟨T,_,K,L.done,?_⟩;refine zP ?_;rw[zoo ht hl];simp_all[zie]
  refine zao 3 K<|zb K<|za K<|ze<|zaq<|zf zju<|⟨T,_,K,L.done,?_⟩;refine zP ?_;rw[zoo ht hl];simp_all[zie]
 refine zw<|zgL K K K<|za K<|D<|zV K (fun a4=>?_) (fun a4=>?_)
 ·refine zw<|Z zaO K zR<|Z zaC K zI<|Y 2 A.sub (B.up C) zO K<|zk I K<|zG f21 zJ K<|zi A K zjC (zen A.sub _ _ _)<|fun c4 c5 a5 b H a6=>?_;subst a6;refine zp K<|zbX (d:=40) K (fun a7=>?_) (fun a7=>?_)
  ·refine X K<|Z zaO K zap<|X K<|Y 4 H.sub (B.up (C.t b)) zaZ K<|X K<|zi H K Tryz.call137 (ziI H.sub _ zcn)<|fun c6 c7 a8 b9 c a9=>?_;subst a9;refine zd K<|za K<|ze<|zaq<|zf zju<|⟨a8,_,K,c.done,?_⟩;refine zP ?_;rw[zoo ht hl];simp_all[zie]
  refine zao 3 K<|zb K<|za K<|ze<|zaq<|zf zju<|⟨a5,_,K,H.done,?_⟩;refine zP ?_;rw[zoo ht hl];simp_all[zie]
 refine zw<|zgL K K K<|za K<|D<|zV K (fun b0=>?_) (fun b0=>?_)
 ·refine zaM<|zcY zbh zch (Cls Q _) (Cls.drew A)<|zz zaO K zR<|zz zaC K zI<|zaT 2 (B.up C) zO K<|zbr I K<|ztO f21 K zJ K<|zoW K K zbj K<|zeI K K (fun _=>zcT K zjC K) (fun _ hC=>zbH.quiet hC (zen hC.sub _ _ _))<|zjM K K<|zjJ (d:=54) K (fun e=>?_) (fun e=>?_)
  ·refine zc K<|zz zaO K zap<|zc K<|zaT 4 (B.up C) zaZ K<|zc K<|zeI K K (fun _=>zcT K Tryz.call137 K) (fun _ hC=>zbH.quiet hC (ziI hC.sub _ zcn))<|zbm K<|zjM K K<|zjJ (d:=59) K (fun f=>?_) (fun f=>?_)
   ·refine zc K<|zz zaO K zap<|zc K<|zaT 4 (B.up C) zaZ K<|zc K<|zbr I K<|zc K<|zz zaO K zR<|zc K<|zz zaC K zI<|zc K<|zaT 2 (B.up C) zO K<|zc K ?_;have hwb:0≤r.at_.word∧r.at_.word<(((zdw t r.at_).getD []).length:Int):=by have q_:=f;have q2_:=e;simp[inB] at q_ q2_;omega
    obtain ⟨own,hown⟩:∃ y_,((zdw (t) (r.at_)).getD [])[r.at_.word.toNat]?=some y_:=zdl zW;obtain ⟨c8,c9,_,g,i,hr_own⟩:=Sl.elem f21 hown;obtain ⟨rfl,j⟩:=hr_own;simp only[big] at j;refine zbf rfl rfl (fun _ _=>(zcD g rfl rfl (hk:=(show _=((r.at_.word.toNat:Nat):Int) by omega)) (hu:=zJ) (hz:=zap))) ?_;refine zc K<|zaT 0 i zaZ K<|zc K<|zbf K K (fun _ _=>(zpg K K))<|zbm K<|ztP K K<|zci ?_;rintro d0 ⟨b2,b3⟩;have m:=A.call0 b3;refine zF<|zky<|zaq<|zf zju<|⟨b2,_,K,m.done,?_⟩;refine zP ?_;rw[zoo ht hl];simp_all[zie]
   refine zgK 9 K<|zbU K<|ztP K K<|zci ?_;rintro d1 ⟨b4,b5⟩;have n:=A.call0 b5;refine zF<|zky<|zaq<|zf zju<|⟨b4,_,K,n.done,?_⟩;refine zP ?_;rw[zoo ht hl];simp_all[zie]
  refine zgK 3 K<|zbU K<|zjM K K<|zgK 9 K<|zbU K<|ztP K K<|zci ?_;rintro d2 ⟨b6,b8⟩;have o:=A.call0 b8;refine zF<|zky<|zaq<|zf zju<|⟨b6,_,K,o.done,?_⟩;refine zP ?_;rw[zoo ht hl];simp_all[zie]
 refine zbO<|zhQ<|zF<|zw<|za K<|ze<|zf zju<|⟨Q,_,K,A.done,?_⟩;refine zP ?_;rw[zoo ht hl];simp_all[zie]
theorem ztE (hs:Sub h w) {t:Text} (t_f0:Sl zaN h t_v0 t.chapters) (c_f0:Sl zgz h c_v0 c.readings) (k:Int) (n:Int) (ht:zcz t=true) (hc20:c.readings.length≤20) (hk0:0≤k) (hk2:k.toNat<t.chapters.length) (hn0:0≤n) (hn2:n.toNat<(zdt t k.toNat).length):Calls Tryz.prog 166 #[.agg #[t_v0],.agg #[iV c.id,c_v0],iV k,iV n] w (zbH h w (fun h' _ res_=>∃ u0,res_=u0∧Sl zea h' u0 ((zAw c k.toNat n.toNat (ziz t k.toNat n.toNat))))):=by
 refine zg 86 Tryz.func166 K<|have d1:=zcu hs;have c2:=t_f0.le;have c3:=c_f0.le;zw<|J [t_v0] d1 K<|fun b1 w2 h3 d2 d3 d4=>J [iV c.id,c_v0] d4 K<|fun b7 w8 h9 o p e=>zdD K K<|D<|zw<|zdD K K<|D<|zw<|Z zaY K zbW<|Y 0 e.sub (d3.up o) zcJ K<|N K ?_;obtain ⟨x,hx⟩:∃ y_,(t.chapters)[k.toNat]?=some y_:=zdl zW;have z:=d2.t o;obtain ⟨g2,g3,_,a0,a1,hr_x⟩:=Sl.elem (t_f0.up z) hx;obtain ⟨g4,rfl,f19⟩:=hr_x;have c9:=f19.le;refine zax rfl rfl (zcD a0 rfl rfl (hk:=(show _=((k.toNat:Nat):Int) by omega)) (hu:=zaJ) (hz:=zbA)) ?_;have hla:zdt t k.toNat=x.lines:=by rw[zdt,hx];rfl
 rw[hla] at hn2;refine Z zaP K zcj<|Y 1 e.sub a1 zdd K<|N K ?_;obtain ⟨l,hl⟩:∃ y_,(x.lines)[n.toNat]?=some y_:=zdl zW;obtain ⟨g5,g6,_,a2,a3,hr_l⟩:=Sl.elem f19 hl;obtain ⟨j,rfl,f25⟩:=hr_l;have d0:=f25.le;refine zax rfl rfl (zcD a2 rfl rfl (hk:=(show _=((n.toNat:Nat):Int) by omega)) (hu:=zaW) (hz:=zeY)) ?_;have hwl:ziz t k.toNat n.toNat=l:=by rw[ziz,hla,hl];rfl
 have a4:=zis ht k.toNat n.toNat;rw[hwl] at a4;refine Y 0 e.sub a3 zfK K<|zH j K<|D<|zav<|U K<|D<|zT ?_;have a5:=e.snoc;have f30:=OSl.nil zea 9 h9;refine zaI ([9,11,12,13,14]++zbP 24 61) (G:=Nat×Value×List (Nat×Obj)×Heap) (fun ⟨w_,A,B,a⟩=>[(9,A),(11,iV (w_:Int))]) (fun ⟨w_,A,B,a⟩ w'=>Le h9 a∧St h w a w' [B]∧(OSl zea 9 a A (zqG c k.toNat n.toNat l w_) B)∧(w_≤l.length+1)) (fun ⟨w_,A,B,a⟩=>l.length+1-w_) ⟨0,(.slice none 0 0),[],h9⟩ ⟨rfl,rfl,trivial⟩ ⟨Le.refl _,a5,(OSl.to f30 (by rfl)),zbB⟩ ?_;rintro ⟨w_,A,B,a⟩ _ g7 ⟨P,f,F,hw⟩;refine zav<|N K<|zk j K<|zG (f25.up P) zJ K<|zU K (zpI K K)<|D<|zV K (fun d5=>?_) (fun d5=>?_)
 ·refine zaS<|zT<|zw<|zhW K K<|D<|zav<|N K<|zk j K<|zG (f25.up P) zJ K<|zM K<|D ?_;refine zHF [12,34,35,36,37] (G:=Heap) (fun g=>[(12,zae (zie l w_))]) (fun g w'=>Le a g∧St h w g w' [B]∧((zie l w_).length≤281474976710656)) ?_ ?_
  ·refine zV K (fun d6=>?_) (fun d6=>?_)
   ·refine zah<|zk j K<|N K ?_;obtain ⟨wd,hwd⟩:∃ y_,(l)[w_]?=some y_:=zdl zW;obtain ⟨g8,g9,_,a6,a7,hr_wd⟩:=Sl.elem (f25.up P) hwd;obtain ⟨rfl,a8⟩:=hr_wd;simp only[big] at a8;refine zx a6 zJ zap K<|Y 0 f.sub a7 zaZ K<|zhW K K<|zl<|⟨rfl,a,⟨?_,trivial⟩,?_,(Le.refl _),f,?_⟩
    ·exact ziE (by rw[zie,hwd];rfl)
    ·exact zba
    rw[zie,hwd];assumption
   refine zbO<|⟨rfl,a,⟨?_,trivial⟩,?_,(Le.refl _),f,?_⟩
   ·exact ziE (by rw[zie,zbF zW];rfl)
   ·exact zba
   rw[zie,zbF zW];exact zfg _
  rintro g _ h0 ⟨Q,a9,d7⟩;refine zF<|zav<|U K<|D<|zT ?_;refine zaI ([9,12,13,14]++zbP 38 41) (G:=Nat×Value×List (Nat×Obj)×Heap) (fun ⟨m,A,B,b⟩=>[(9,A),(12,zae (zoN c k.toNat n.toNat l w_ m).2),(13,iV (m:Int))]) (fun ⟨m,A,B,b⟩ w'=>Le g b∧St h w b w' [B]∧(OSl zea 9 b A (zqG c k.toNat n.toNat l w_++(zoN c k.toNat n.toNat l w_ m).1) B)∧(m≤c.readings.length)∧(((zoN c k.toNat n.toNat l w_ m).2).length≤281474976710656)) (fun ⟨m,A,B,b⟩=>c.readings.length-m) ⟨0,A,B,g⟩ ⟨rfl,(ziE (by rw[zuO])),rfl,trivial⟩ ⟨Le.refl _,a9,(OSl.to (F.up Q) (by simp[zuO])),zbB,(by rw[zuO];exact d7)⟩ ?_;rintro ⟨m,A,B,b⟩ _ h1 ⟨H,S,F,hm,hq⟩;refine zav<|N K<|Z zcP K zfy<|Y 1 S.sub (p.up ((P.t Q).t H)) zgl K<|have c4:=((z.t P).t Q).t H;zG (c_f0.up c4) zco K<|zM K<|D<|zV K (fun d8=>?_) (fun d8=>?_)
  ·refine zaS<|zT<|zw<|Z zcP K zfy<|Y 1 S.sub (p.up ((P.t Q).t H)) zgl K<|N K ?_;obtain ⟨r,hr⟩:∃ y_,(c.readings)[m]?=some y_:=zdl zW;obtain ⟨h2,h4,_,b0,b2,hr_r⟩:=Sl.elem (c_f0.up c4) hr;obtain ⟨rfl,g0,b3⟩:=hr_r;simp only[big] at b3;refine zx b0 zco zdo K<|E S.sub b2 zjk zdo K<|zaf S ziU K K<|fun h5 h6 b4=>zq 1 b4 K zdo<|fun h7 b5=>?_;obtain ⟨i,I,b6,C⟩:=b5.freeze (k:=1) rfl;have T:=zaL.of b6;refine D<|zav<|Z zaO K zR<|Z zaC K zI<|Y 0 C.sub T zO K<|N K<|zar K<|zp K<|zaK (d:=55) K (fun d9=>?_) (fun d9=>?_)
   ·refine zao 5 K<|zd K<|zp K<|zao 5 K<|zd K<|D<|zaD K (fun c5=>?_) (fun c5=>?_)
    ·refine zmO<|zfu<|zls<|zF<|zah<|N K<|zo K zbj<|U K<|D ?_;have hne:¬ r.at_=mkP k.toNat n.toNat w_:=by intro e_;have e1_:=zcE Place.chapter e_;have e2_:=zcE Place.line e_;have e3_:=zcE Place.word e_;simp only[mkP] at e1_ e2_ e3_;omega
     have hM:=zuP (l:=l) hr hne;refine ⟨⟨m+1,A,B,i⟩,⟨rfl,?_,K,trivial⟩,?_,⟨(H.t I),C.take 1,?_,?_,?_⟩,?_⟩
     ·exact ziE (by rw[hM])
     ·exact zba
     ·refine OSl.to (F.up I) ?_;simp[hM]
     ·first|omega|(simp;omega)
     ·rw[hM];assumption
     show c.readings.length-(m+1)<c.readings.length-m;omega
    cases c5
   refine X K<|Z zaO K zR<|X K<|Z zaC K zI<|X K<|Y 1 C.sub T zO K<|X K<|N K<|X K<|zar K<|zb K<|zp K<|zaK (d:=62) K (fun e0=>?_) (fun e0=>?_)
   ·refine zao 5 K<|zd K<|D<|zaD K (fun c6=>?_) (fun c6=>?_)
    ·refine zmO<|zfu<|zls<|zF<|zah<|N K<|zo K zbj<|U K<|D ?_;have hne:¬ r.at_=mkP k.toNat n.toNat w_:=by intro e_;have e1_:=zcE Place.chapter e_;have e2_:=zcE Place.line e_;have e3_:=zcE Place.word e_;simp only[mkP] at e1_ e2_ e3_;omega
     have hM:=zuP (l:=l) hr hne;refine ⟨⟨m+1,A,B,i⟩,⟨rfl,?_,K,trivial⟩,?_,⟨(H.t I),C.take 1,?_,?_,?_⟩,?_⟩
     ·exact ziE (by rw[hM])
     ·exact zba
     ·refine OSl.to (F.up I) ?_;simp[hM]
     ·first|omega|(simp;omega)
     ·rw[hM];assumption
     show c.readings.length-(m+1)<c.readings.length-m;omega
    cases c6
   refine X K<|Z zaO K zR<|X K<|Z zaC K zI<|X K<|Y 2 C.sub T zO K<|X K<|N K<|X K<|zar K<|zb K<|D<|zV K (fun e1=>?_) (fun e1=>?_)
   ·refine zmO<|zfu<|zls<|zF<|zah<|N K<|zo K zbj<|U K<|D ?_;have hne:¬ r.at_=mkP k.toNat n.toNat w_:=by intro e_;have e1_:=zcE Place.chapter e_;have e2_:=zcE Place.line e_;have e3_:=zcE Place.word e_;simp only[mkP] at e1_ e2_ e3_;omega
    have hM:=zuP (l:=l) hr hne;refine ⟨⟨m+1,A,B,i⟩,⟨rfl,?_,K,trivial⟩,?_,⟨(H.t I),C.take 1,?_,?_,?_⟩,?_⟩
    ·exact ziE (by rw[hM])
    ·exact zba
    ·refine OSl.to (F.up I) ?_;simp[hM]
    ·first|omega|(simp;omega)
    ·rw[hM];assumption
    show c.readings.length-(m+1)<c.readings.length-m;omega
   refine zgg<|zw<|Z zaO K zcg<|Y 3 C.sub T zda K<|zgL K K K<|D<|zV K (fun u=>?_) (fun u=>?_)
   ·refine zah<|zk A K<|Z zaO K zap<|Y 4 C.sub T zaZ K<|zA zea [r.word] [zae r.word] C (Enc.cons (L:=zea) (vs:=[zae r.word]) (x:=(r.word)) (h:=i) (⟨rfl,zcn⟩) Enc.nil) K zJ Tryz.info9 zch<|fun h8 j0 e2 q f73 b8=>?_;refine zbe (k:=0) (nb:=16) b8 (F.up (I.t q)) rfl f73 rfl rfl rfl zJ Tryz.info9 rfl rfl rfl (by decide) rfl (by have q_:=zpc (c:=c) (k:=k.toNat) (n:=n.toNat) (l:=l) w_;have q2_:(c.readings.length+1)*w_≤21*w_:=zcb _ zW;have q3_:=znr (c:=c) (k:=k.toNat) (n:=n.toNat) (l:=l) (w:=w_) c.readings.length;have q4_:=znr (c:=c) (k:=k.toNat) (n:=n.toNat) (l:=l) (w:=w_) m;simp only[zj,zy,zC];omega) (by have q_:=zpc (c:=c) (k:=k.toNat) (n:=n.toNat) (l:=l) w_;have q2_:(c.readings.length+1)*w_≤21*w_:=zcb _ zW;have q3_:=znr (c:=c) (k:=k.toNat) (n:=n.toNat) (l:=l) (w:=w_) c.readings.length;have q4_:=znr (c:=c) (k:=k.toNat) (n:=n.toNat) (l:=l) (w:=w_) m;simp only[zj,zy,zC];omega) ?_;intro c7 e3 j1 _ e4 f81 b9;subst e4;refine zH c7 K<|zl<|zaF<|N K<|zo K zbj<|U K<|D ?_;have e1_:r.at_.chapter=(k.toNat:Int):=by omega
    have e2_:r.at_.line=(n.toNat:Int):=by omega
    have e3_:r.at_.word=(w_:Int):=by omega
    have heq:r.at_=mkP k.toNat n.toNat w_:=by show r.at_=⟨_,_,_⟩;rw[← e1_,← e2_,← e3_]
    have hM:(zoN c k.toNat n.toNat l w_ (m+1))=((zoN c k.toNat n.toNat l w_ m).1++[r.word],(zoN c k.toNat n.toNat l w_ m).2):=by rw[zAv hr heq,zqk,zab (by simpa using u)]
    refine ⟨⟨m+1,c7,e3,e2⟩,⟨rfl,?_,K,trivial⟩,?_,⟨((H.t I).t q),b9.take 1,?_,?_,?_⟩,?_⟩
    ·exact ziE (by rw[hM])
    ·exact zba
    ·refine OSl.to f81 ?_;simp[hM]
    ·first|omega|(simp;omega)
    ·rw[hM];assumption
    show c.readings.length-(m+1)<c.readings.length-m;omega
   refine zah<|Z zaO K zap<|Y 4 C.sub T zaZ K<|zhW K K<|zl<|zaF<|N K<|zo K zbj<|U K<|D ?_;have e1_:r.at_.chapter=(k.toNat:Int):=by omega
   have e2_:r.at_.line=(n.toNat:Int):=by omega
   have e3_:r.at_.word=(w_:Int):=by omega
   have heq:r.at_=mkP k.toNat n.toNat w_:=by show r.at_=⟨_,_,_⟩;rw[← e1_,← e2_,← e3_]
   have hM:(zoN c k.toNat n.toNat l w_ (m+1))=((zoN c k.toNat n.toNat l w_ m).1,r.word):=by rw[zAv hr heq,zqk,zam (by simpa using u)]
   refine ⟨⟨m+1,A,B,i⟩,⟨rfl,?_,K,trivial⟩,?_,⟨(H.t I),C.take 1,?_,?_,?_⟩,?_⟩
   ·exact ziE (by rw[hM])
   ·exact zba
   ·refine OSl.to (F.up I) ?_;simp[hM]
   ·first|omega|(simp;omega)
   ·rw[hM];assumption
   show c.readings.length-(m+1)<c.readings.length-m;omega
  refine zdx<|zF<|zw<|zfv K K<|zU K (zpg K K)<|D<|zV K (fun v=>?_) (fun v=>?_)
  ·refine zah<|zk A K<|zfv K K<|zA zea [(zoN c k.toNat n.toNat l w_ m).2] [zae (zoN c k.toNat n.toNat l w_ m).2] S (Enc.cons (L:=zea) (vs:=[zae (zoN c k.toNat n.toNat l w_ m).2]) (x:=(zoN c k.toNat n.toNat l w_ m).2) (h:=b) (⟨rfl,zcn⟩) Enc.nil) K zJ Tryz.info9 zch<|fun j2 j3 e5 s f86 c0=>?_;refine zbe (k:=0) (nb:=16) c0 (F.up s) rfl f86 rfl rfl rfl zJ Tryz.info9 rfl rfl rfl (by decide) rfl (by have q_:=zpc (c:=c) (k:=k.toNat) (n:=n.toNat) (l:=l) w_;have q2_:(c.readings.length+1)*w_≤21*w_:=zcb _ zW;have q3_:=znr (c:=c) (k:=k.toNat) (n:=n.toNat) (l:=l) (w:=w_) c.readings.length;have q4_:=znr (c:=c) (k:=k.toNat) (n:=n.toNat) (l:=l) (w:=w_) m;simp only[zj,zy,zC];omega) (by have q_:=zpc (c:=c) (k:=k.toNat) (n:=n.toNat) (l:=l) w_;have q2_:(c.readings.length+1)*w_≤21*w_:=zcb _ zW;have q3_:=znr (c:=c) (k:=k.toNat) (n:=n.toNat) (l:=l) (w:=w_) c.readings.length;have q4_:=znr (c:=c) (k:=k.toNat) (n:=n.toNat) (l:=l) (w:=w_) m;simp only[zj,zy,zC];omega) ?_;intro c8 e6 j4 _ e7 f94 c1;subst e7;refine zH c8 K<|zl<|zaF<|N K<|zo K zbj<|U K<|D ?_;obtain rfl:m=c.readings.length:=by omega
   have e8:=((P.t Q).t H).t s;refine ⟨⟨w_+1,c8,e6,e5⟩,⟨rfl,K,trivial⟩,?_,⟨e8,c1,?_,?_⟩,?_⟩
   ·exact zba
   ·refine OSl.to f94 ?_;rw[zrD,← zzk,zzx,zam (by simpa using v),← zaB]
   ·first|omega|(simp;omega)
   show l.length+1-(w_+1)<l.length+1-w_;omega
  refine zbO<|zaF<|N K<|zo K zbj<|U K<|D ?_;obtain rfl:m=c.readings.length:=by omega
  refine ⟨⟨w_+1,A,B,b⟩,⟨rfl,K,trivial⟩,?_,⟨((P.t Q).t H),S,?_,?_⟩,?_⟩
  ·exact zba
  ·refine OSl.to F ?_;rw[zrD,← zzk,zzx,zab (by simpa using v),zbL]
  ·first|omega|(simp;omega)
  show l.length+1-(w_+1)<l.length+1-w_;omega
 refine zdx<|zF<|zw<|zk A K<|zH A K<|ze<|zf Tryz.results166 ?_;obtain ⟨e9,g1,f99,y⟩:=OSl.freeze (k:=0) f F rfl (by have q_:=zpc (c:=c) (k:=k.toNat) (n:=n.toNat) (l:=l) w_;have q2_:(c.readings.length+1)*w_≤21*w_:=zcb _ zW;omega);refine ⟨e9,_,K,y.done,?_⟩;refine ⟨_,K,Sl.to f99 ?_⟩;rw[hwl,zAw,show w_=l.length+1 by omega]
theorem ztH (hs:Sub h w) {t:Text} (t_f0:Sl zaN h t_v0 t.chapters) (c_f0:Sl zgz h c_v0 c.readings) (ht:zcz t=true):Calls Tryz.prog 110 #[.agg #[t_v0],.agg #[iV c.id,c_v0]] w (zbH h w (fun _ _ res_=>res_=.bool (zmY t c))):=by
 refine zg 97 Tryz.func110 K<|have e9:=zcu hs;have d3:=t_f0.le;have d4:=c_f0.le;zw<|J [t_v0] e9 K<|fun b1 w2 h3 g0 a8 g1=>J [iV c.id,c_v0] g1 K<|fun b7 w8 h9 m B o=>za K<|D<|zav<|Z zcP K zI<|Y 0 o.sub B zO K<|zi o K zjC (zen o.sub _ _ _)<|fun k1 k2 a9 C e g2=>?_;subst g2;refine zdJ K K<|zp K<|zbX (d:=13) K (fun b2=>?_) (fun b2=>?_)
 ·refine zao 4 K<|zd K<|D<|zaD K (fun d7=>?_) (fun d7=>?_)
  ·refine zw<|za K<|ze<|zN<|zf zkO<|⟨a9,_,K,e.done,?_⟩;refine zP ?_;exact (znV (fun q=>by have q_:=b2;simp[q.1] at q_)).symm
  cases d7
 refine X K<|Z zcP K zfy<|X K<|Y 1 e.sub (B.up C) zgl K<|X K<|have d8:=(g0.t m).t C;zG (c_f0.up d8) zco K<|X K<|zhn K K K<|zb K<|D<|zV K (fun b3=>?_) (fun b3=>?_)
 ·refine zw<|za K<|ze<|zN<|zf zkO<|⟨a9,_,K,e.done,?_⟩;refine zP ?_;exact (znV (fun q=>by have q_:=b3;omega)).symm
 refine zaS<|zaM ?_;have hid:inB c.id 0 9999=true∧c.readings.length≤20:=⟨by simpa using b2,by have q_:=b3;omega⟩;refine zah<|U K<|D<|zT ?_;refine zaI ([4,5,6]++zbP 19 52) (G:=Nat×Heap) (fun ⟨i,T⟩=>[(5,iV (i:Int))]) (fun ⟨i,T⟩ w'=>Le a9 T∧St h w T w' []∧(i≤c.readings.length)∧(∀ j,j<i→zns t c j=true)) (fun ⟨i,T⟩=>c.readings.length-i) ⟨0,a9⟩ ⟨rfl,trivial⟩ ⟨Le.refl _,e,zbB,(by intro j hj;omega)⟩ ?_;rintro ⟨i,T⟩ _ k3 ⟨A,Q,hi,hA⟩;refine zav<|N K<|Z zcP K zfy<|Y 1 Q.sub (B.up (C.t A)) zgl K<|have b0:=d8.t A;zG (c_f0.up b0) zco K<|zM K<|D<|zV K (fun g3=>?_) (fun g3=>?_)
 ·refine zaS<|zT<|zw<|Z zcP K zfy<|Y 1 Q.sub (B.up (C.t A)) zgl K<|N K ?_;obtain ⟨r,hr⟩:∃ y_,(c.readings)[i]?=some y_:=zdl zW;obtain ⟨k4,k5,_,b8,b9,hr_r⟩:=Sl.elem (c_f0.up b0) hr;obtain ⟨rfl,j1,c0⟩:=hr_r;simp only[big] at c0;refine zx b8 zco zdo K<|E Q.sub b9 zjk zdo K<|zaf Q ziU K K<|fun k6 k7 c1=>zq 0 c1 K zdo<|fun k8 c2=>?_;obtain ⟨k9,I,c3,f⟩:=c2.freeze (k:=0) rfl;have p:=zaL.of c3;refine D<|zav<|have g4:=((m.t C).t A).t I;E f.sub (a8.up g4) zaX zac K<|E f.sub p zjk zdo K ?_;have d9:=b0.t I;refine zau f rfl rfl rfl Tryz.call164 rfl (zrt f.sub (t:=t) (t_f0.up d9) (r:=r) zfb zcn (by exact ht)) ?_;intro l0 l1 e0 F L g5;subst g5;refine zdJ K K<|D<|zaD K (fun b4=>?_) (fun b4=>?_)
  ·refine zw<|za K<|ze<|zN<|zaq<|zN<|zaq<|zf zkO<|⟨e0,_,K,L.done,?_⟩;refine zP ?_;have q_:ziB t r=false:=by simpa using b4
   exact (zfI hr (by rw[q_];rfl)).symm
  refine zaS ?_;have hQ:ziB t r=true:=by simpa using b4
  refine zcY zbh zch (Cls e0 _) (Cls.drew L)<|zew K K<|zGL K K K<|zjM K K<|ziW (d:=37) K (fun g6=>?_) (fun g6=>?_)
  ·refine zc K<|zz zaO K zR<|zc K<|zbf K K (fun _ hC=>(zhK (j:=0) hC.sub (p.up F) (us:=[iV r.at_.chapter,iV r.at_.line,iV r.at_.word]) K K zaE zR K K))<|zc K<|zz zcP K zfy<|zc K<|have b5:=((C.t A).t I).t F;zaT 1 (B.up b5) zgl K<|zc K<|zew K K<|zc K<|zoW K K zbj K<|zc K ?_;obtain ⟨q,hq⟩:∃ y_,(c.readings)[(i-1)]?=some y_:=zdl zW;have g7:=d9.t F;obtain ⟨l2,l3,_,s,u,hr_q⟩:=Sl.elem (c_f0.up g7) hq;obtain ⟨rfl,j2,c4⟩:=hr_q;simp only[big] at c4;refine zbf rfl rfl (fun _ _=>(zcD s rfl rfl (hk:=(show _=(((i-1):Nat):Int) by omega)) (hu:=zco) (hz:=zdo))) ?_;refine zc K<|zz zaO K zR<|zc K<|zbf K K (fun _ hC=>(zhK (j:=0) hC.sub u (us:=[iV q.at_.chapter,iV q.at_.line,iV q.at_.word]) K K zaE zR K K))<|zc K<|zeI K K (fun _=>zcT K Tryz.call165 K) (fun _ hC=>zbH.quiet hC (zlJ hC.sub (a:=r.at_) (b:=q.at_)))<|zc K<|zjM K K<|zjJ (d:=48) K (fun g8=>?_) (fun g8=>?_)
   ·refine zgK 20 K<|zc K<|zbm K<|zbm K<|zci ?_;rintro l4 ⟨g9,h0⟩;have c5:=L.call0 h0;refine zF<|zaD K (fun e1=>?_) (fun e1=>?_)
    ·refine zw<|za K<|ze<|zaq<|zN<|zaq<|zf zkO<|⟨g9,_,K,c5.done,?_⟩;refine zP ?_;exact (zfI hr (by rw[zjQ zW hq,zua];simp_all)).symm
    cases e1
   refine zc K<|zz zaO K zR<|zc K<|zbf K K (fun _ hC=>(zhK (j:=0) hC.sub (p.up F) (us:=[iV r.at_.chapter,iV r.at_.line,iV r.at_.word]) K K zaE zR K K))<|zc K<|zz zcP K zfy<|zc K<|zaT 1 (B.up b5) zgl K<|zc K<|zew K K<|zc K<|zoW K K zbj K<|zc K ?_;refine zbf rfl rfl (fun _ _=>(zcD s rfl rfl (hk:=(show _=(((i-1):Nat):Int) by omega)) (hu:=zco) (hz:=zdo))) ?_;refine zc K<|zz zaO K zR<|zc K<|zbf K K (fun _ hC=>(zhK (j:=0) hC.sub u (us:=[iV q.at_.chapter,iV q.at_.line,iV q.at_.word]) K K zaE zR K K))<|zc K<|zbf K K (fun _ _=>(zjb K K zgr (Tryz.eq_Place r.at_ q.at_)))<|zc K<|zjM K K<|ziW (d:=59) K (fun h1=>?_) (fun h1=>?_)
   ·refine zc K<|zz zcP K zfy<|zc K<|zaT 1 (B.up b5) zgl K<|zc K<|zew K K<|zc K<|zoW K K zbj K<|zc K ?_;refine zbf rfl rfl (fun _ _=>(zcD s rfl rfl (hk:=(show _=(((i-1):Nat):Int) by omega)) (hu:=zco) (hz:=zdo))) ?_;refine zc K<|zz zaO K zcg<|zc K<|zaT 3 u zda K<|zc K<|zHK K K K<|zc K<|zbm K<|zc K<|zbU K<|zbm K<|zci ?_;rintro l5 ⟨e2,e3⟩;have a2:=L.call0 e3;refine zF<|zV K (fun h2=>?_) (fun h2=>?_)
    ·refine zw<|za K<|ze<|zaq<|zN<|zaq<|zf zkO<|⟨e2,_,K,a2.done,?_⟩;refine zP ?_;exact (zfI hr (by rw[zjQ zW hq,zua];simp_all)).symm
    refine zbO<|zaF<|N K<|zo K zbj<|U K<|D<|have h4:=((A.t I).t F).trans e3.le;⟨⟨i+1,e2⟩,⟨rfl,trivial⟩,?_,⟨h4,a2.take 0,?_,?_⟩,?_⟩
    ·exact zba
    ·first|omega|(simp;omega)
    ·intro j hj
     rcases zbK (zca hj) with h_|h_
     ·exact hA j h_
     ·rw[h_,zpG hr,hQ,zdQ]
      first|(rw[show i=0 by omega];rfl)|(rw[zjQ zW hq,zua];simp_all)
    show c.readings.length-(i+1)<c.readings.length-i;omega
   refine zgK 8 K<|zc K<|zbU K<|zc K<|zbU K<|zbm K<|zci ?_;rintro l6 ⟨h5,e4⟩;have c6:=L.call0 e4;refine zF<|zaD K (fun e5=>?_) (fun e5=>?_)
   ·cases e5
   refine zbO<|zaF<|N K<|zo K zbj<|U K<|D<|have h6:=((A.t I).t F).trans e4.le;⟨⟨i+1,h5⟩,⟨rfl,trivial⟩,?_,⟨h6,c6.take 0,?_,?_⟩,?_⟩
   ·exact zba
   ·first|omega|(simp;omega)
   ·intro j hj
    rcases zbK (zca hj) with h_|h_
    ·exact hA j h_
    ·rw[h_,zpG hr,hQ,zdQ]
     first|(rw[show i=0 by omega];rfl)|(rw[zjQ zW hq,zua];simp_all)
   show c.readings.length-(i+1)<c.readings.length-i;omega
  refine zgK 30 K ?_;refine zgK 2 K<|zbU K<|zci ?_;rintro l7 ⟨h7,e6⟩;have c7:=L.call0 e6;refine zF<|zaD K (fun e7=>?_) (fun e7=>?_)
  ·cases e7
  refine zbO<|zaF<|N K<|zo K zbj<|U K<|D<|have h8:=((A.t I).t F).trans e6.le;⟨⟨i+1,h7⟩,⟨rfl,trivial⟩,?_,⟨h8,c7.take 0,?_,?_⟩,?_⟩
  ·exact zba
  ·first|omega|(simp;omega)
  ·intro j hj
   rcases zbK (zca hj) with h_|h_
   ·exact hA j h_
   ·rw[h_,zpG hr,hQ,zdQ]
    first|(rw[show i=0 by omega];rfl)|(rw[zjQ zW hq,zua];simp_all)
  show c.readings.length-(i+1)<c.readings.length-i;omega
 refine zdx<|zF<|zav<|U K<|D<|zT ?_;refine zaI ([4,7,8]++zbP 71 26) (G:=Nat×Heap) (fun ⟨k,S⟩=>[(7,iV (k:Int))]) (fun ⟨k,S⟩ w'=>Le T S∧St h w S w' []∧(k≤t.chapters.length)∧(∀ k_ n_:Nat,k_<k→n_<(zdt t k_).length→inB (zAw c k_ n_ (ziz t k_ n_)).length 1 10=true)) (fun ⟨k,S⟩=>t.chapters.length-k) ⟨0,T⟩ ⟨rfl,trivial⟩ ⟨Le.refl _,Q,zbB,(by intro k_ n_ hk_;omega)⟩ ?_;rintro ⟨k,S⟩ _ l8 ⟨g,v,hk,hB⟩;refine zav<|N K<|Z zaY K zbW<|have b6:=((m.t C).t A).t g;Y 0 v.sub (a8.up b6) zcJ K<|have e8:=b0.t g;zG (t_f0.up e8) zaJ K<|zM K<|D<|zV K (fun j0=>?_) (fun j0=>?_)
 ·refine zaS<|zT<|zw<|U K<|D<|zT ?_;refine zaI ([4,8]++zbP 78 19) (G:=Nat×Heap) (fun ⟨n,l⟩=>[(8,iV (n:Int))]) (fun ⟨n,l⟩ w'=>Le S l∧St h w l w' []∧(n≤(zdt t k).length)∧(∀ n_:Nat,n_<n→inB (zAw c k n_ (ziz t k n_)).length 1 10=true)) (fun ⟨n,l⟩=>(zdt t k).length-n) ⟨0,S⟩ ⟨rfl,trivial⟩ ⟨Le.refl _,v,zbB,(by intro n_ hn_;omega)⟩ ?_;rintro ⟨n,l⟩ _ l9 ⟨P,H,hn,hC⟩;refine zav<|N K<|Z zaY K zbW<|Y 0 H.sub (a8.up (b6.t P)) zcJ K<|N K ?_;obtain ⟨x,hx⟩:∃ y_,(t.chapters)[k]?=some y_:=zdl zW;have y:=e8.t P;obtain ⟨m0,j3,_,a4,a5,hr_x⟩:=Sl.elem (t_f0.up y) hx;obtain ⟨j4,rfl,f105⟩:=hr_x;have d5:=f105.le;refine zx a4 zaJ zbA K ?_;have hla:zdt t k=x.lines:=by rw[zdt,hx];rfl
  refine Z zaP K zcj<|Y 1 H.sub a5 zdd K<|zG f105 zaW K<|zM K<|D<|zV K (fun c8=>?_) (fun c8=>?_)
  ·refine zaS<|zT<|zw<|E H.sub (a8.up (b6.t P)) zaX zac K<|have c9:=((C.t A).t g).t P;E H.sub (B.up c9) zjY zgw K<|N K<|N K ?_;refine zau H rfl rfl rfl Tryz.call166 rfl (ztE H.sub (t:=t) (t_f0.up y) (c:=c) (c_f0.up y) _ _ (by exact ht) (by exact hid.2) zW (by simp;omega) zW (by simp only[Int.toNat_natCast];rw[hla];omega)) ?_;intro j5 j6 j7 a6 z d0;obtain ⟨j8,d1,f115⟩:=d0;rw[← d1] at f115;have d6:=f115.le;refine zG f115 zJ K<|zi z K zjC (zen z.sub _ _ _)<|fun j9 k0 a3 a7 a0 d2=>?_;subst d2;refine zdJ K K<|D<|zaD K (fun a1=>?_) (fun a1=>?_)
   ·refine zw<|za K<|ze<|zaq<|zN<|zgE<|zaq<|zN<|zaq<|zf zkO<|⟨a3,_,K,a0.done,?_⟩;refine zP ?_;have hl_:x.lines[n]?=some (ziz t k n):=by rw[ziz,hla,zn zW];rfl
    exact (zEa hx hl_ (fun i_ hi_=>hA i_ zW) (by simpa using a1)).symm
   refine zbO<|zaF<|N K<|zo K zbj<|U K<|D<|⟨⟨n+1,a3⟩,⟨rfl,trivial⟩,?_,⟨((P.t a6).t a7),a0,?_,?_⟩,?_⟩
   ·exact zba
   ·rw[hla];omega
   ·intro n_ hn_
    rcases zbK (zca hn_) with h_|h_
    ·exact hC n_ h_
    ·subst h_;simpa using a1
   show (zdt t k).length-(n+1)<(zdt t k).length-n;rw[hla];omega
  refine zdx<|zaF<|N K<|zo K zbj<|U K<|D<|⟨⟨k+1,l⟩,⟨rfl,trivial⟩,?_,⟨(g.t P),H,?_,?_⟩,?_⟩
  ·exact zba
  ·first|omega|(simp;omega)
  ·intro k_ n_ hk_ hn_
   rcases zbK (zca hk_) with h_|h_
   ·exact hB k_ n_ h_ hn_
   ·subst h_;exact hC n_ (by rw[hla] at hn_;omega)
  show t.chapters.length-(k+1)<t.chapters.length-k;omega
 refine zdx<|zF<|zw<|za K<|ze<|zf zkO<|⟨S,_,K,v.done,?_⟩;refine zP ?_;exact (zFs hid.1 hid.2 (fun j hj=>hA j zW) (fun k_ n_ hk_ hn_=>hB k_ n_ zW hn_)).symm
theorem zrX (hs:Sub h w) {t:Text} (t_f0:Sl zaN h t_v0 t.chapters) (c_f0:Sl zgz h c_v0 c.readings) (ht:zcz t=true) (hp:zeb t p=true):Calls Tryz.prog 111 #[.agg #[t_v0],.agg #[iV c.id,c_v0],.agg #[iV p.chapter,iV p.line,iV p.word]] w (zbH h w (fun _ _ res_=>res_=zae (zod t c p))):=by
 refine zg 35 Tryz.func111 K<|have a1:=zcu hs;have z:=t_f0.le;have a0:=c_f0.le;have hpw:=zmU hp;zw<|J [t_v0] a1 K<|fun b1 w2 h3 a2 a3 a4=>J [iV c.id,c_v0] a4 K<|fun b7 w8 h9 P Q e=>J [iV p.chapter,iV p.line,iV p.word] e K<|fun b0 b2 f F S g=>zhW K K<|D<|zav<|U K<|D<|zT ?_;refine zaI (zbP 6 26) (G:=Nat×Heap) (fun ⟨k,H⟩=>[(7,iV (k:Int))]) (fun ⟨k,H⟩ w'=>Le f H∧St h w H w' []∧(k≤c.readings.length)∧(∀ j x,j<k→c.readings[j]?=some x→(decide (x.at_=p) && decide (x.kind≠2))=false)) (fun ⟨k,H⟩=>c.readings.length-k) ⟨0,f⟩ ⟨rfl,trivial⟩ ⟨Le.refl _,g,zbB,(by intro j x hj;omega)⟩ ?_;rintro ⟨k,H⟩ _ b3 ⟨A,B,hk,hA⟩;refine zav<|N K<|Z zcP K zfy<|Y 1 B.sub (Q.up (F.t A)) zgl K<|have T:=((a2.t P).t F).t A;zG (c_f0.up T) zco K<|zM K<|D<|zV K (fun i=>?_) (fun i=>?_)
 ·refine zaS<|zT<|zw<|Z zcP K zfy<|Y 1 B.sub (Q.up (F.t A)) zgl K<|N K ?_;obtain ⟨r,hr⟩:∃ y_,(c.readings)[k]?=some y_:=zdl zW;obtain ⟨b4,b5,_,l,m,hr_r⟩:=Sl.elem (c_f0.up T) hr;obtain ⟨rfl,a8,n⟩:=hr_r;simp only[big] at n;refine zx l zco zdo K<|E B.sub m zjk zdo K<|zaf B ziU K K<|fun b6 b8 o=>zq 0 o K zdo<|fun b9 s=>?_;obtain ⟨a,I,u,C⟩:=s.freeze (k:=0) rfl;have L:=zaL.of u;refine D<|zw<|Z zaO K zR<|zr 0 [iV r.at_.chapter,iV r.at_.line,iV r.at_.word] C.sub L zaE zR K<|E C.sub (S.up (A.t I)) zaE zR K<|zU K (zjb K K zgr (Tryz.eq_Place r.at_ p))<|zp K<|zaK (d:=25) K (fun a5=>?_) (fun a5=>?_)
  ·refine X K<|Z zaO K zcg<|X K<|Y 3 C.sub L zda K<|X K<|zar K<|zd K<|D<|zV K (fun b=>?_) (fun b=>?_)
   ·refine zw<|Z zaO K zap<|Y 4 C.sub L zaZ K<|zhW K K<|ze<|zaq<|zN<|zaq<|zf Tryz.results111<|⟨a,_,K,C.done,?_⟩;refine ziE ?_;exact (zyC hr hA (by first|(simpa using b)|(simp_all;done))).symm
   refine zbO<|zaF<|N K<|zo K zbj<|U K<|D<|⟨⟨k+1,a⟩,⟨rfl,trivial⟩,?_,⟨(A.t I),C.take 0,?_,?_⟩,?_⟩
   ·exact zba
   ·first|omega|(simp;omega)
   ·intro j x hj hx
    rcases zbK (zca hj) with q|q
    ·exact hA j x q hx
    ·subst q;rw[hr] at hx;cases hx;first|(simpa using b)|(simp_all;done)
   show c.readings.length-(k+1)<c.readings.length-k;omega
  refine zao 3 K<|zb K<|D<|zaD K (fun v=>?_) (fun v=>?_)
  ·cases v
  refine zbO<|zaF<|N K<|zo K zbj<|U K<|D<|⟨⟨k+1,a⟩,⟨rfl,trivial⟩,?_,⟨(A.t I),C.take 0,?_,?_⟩,?_⟩
  ·exact zba
  ·first|omega|(simp;omega)
  ·intro j x hj hx
   rcases zbK (zca hj) with q|q
   ·exact hA j x q hx
   ·subst q;rw[hr] at hx;cases hx;first|(simpa using i)|(simp_all;done)
  show c.readings.length-(k+1)<c.readings.length-k;omega
 refine zdx<|zF<|zaM ?_;have hno:=zvy (t:=t) (p:=p) (fun j x hj=>hA j x (by have q_:=(k_List_getElem__eq_some_iff.1 hj).1;omega) hj);refine zah<|E B.sub (a3.up ((P.t F).t A)) zaX zac K<|E B.sub (S.up A) zaE zR K ?_;refine zau B rfl rfl rfl Tryz.call79 rfl (ziT B.sub (t:=t) (t_f0.up T) (p:=p) zW) ?_;intro c0 c1 a6 a9 y a7;subst a7;refine zhW K K<|ze<|zf Tryz.results111<|⟨a6,_,K,y.done,?_⟩;refine ziE ?_;rw[hno]
theorem zoJ (hs:Sub h w) {t:Text} (t_f0:Sl zaN h t_v0 t.chapters) {l:(List Copy)} (l_f:Sl zhl h l_v l):Calls Tryz.prog 55 #[.agg #[t_v0],l_v] w (zbH h w (fun h' _ res_=>∃ u0,res_=.tuple #[u0,iV (zgZ t l)]∧Sl zdO h' u0 (zpl t l))):=by
 refine zg 74 Tryz.func55 K<|have d5:=zcu hs;have c1:=t_f0.le;have l_f_b:=l_f.le;zw<|J [t_v0] d5 K<|fun b1 w2 h3 c3 e z=>zdD K K<|U K<|D<|zav<|E z.sub e zaX zac K<|zi z K Tryz.call109 (zpr z.sub (t:=t) (t_f0.up c3))<|fun r7 w8 h9 a f d6=>?_;subst d6;refine zdJ K K<|D<|zaD K (fun a1=>?_) (fun a1=>?_)
 ·refine zw<|zdD K K<|U K<|ze<|zN<|zbu Tryz.results55<|⟨h9,_,K,f.done,?_⟩;refine ⟨_,zfS K (zan ?_),Sl.to (Sl.nil _ _) ?_⟩
  all_goals have hd:zgZ t l=10:=by rw[zgZ,zam (by simpa using a1)]
  ·exact hd.symm
  rw[zpl,zam (by rw[hd];decide)]
 refine zaS<|zaM ?_;have S:zcz t=true:=by simpa using a1
 have hpl:=zgi S;refine zah<|zk l_v K<|have c4:=c3.t a;zG (l_f.up c4) zed K<|zhn K K K<|D<|zV K (fun a2=>?_) (fun a2=>?_)
 ·refine zw<|zdD K K<|U K<|ze<|zN<|zbu Tryz.results55<|⟨h9,_,K,f.done,?_⟩;refine ⟨_,zfS K (zan ?_),Sl.to (Sl.nil _ _) ?_⟩
  all_goals have hd:zgZ t l=4:=by rw[zgZ,zab S,zam (by have q_:=a2;omega)]
  ·exact hd.symm
  rw[zpl,zam (by rw[hd];decide)]
 refine zaS<|zw<|U K<|D<|zT ?_;refine zaI ([4,5,6]++zbP 18 13) (G:=Nat×Heap) (fun ⟨i,b⟩=>[(6,iV (i:Int))]) (fun ⟨i,b⟩ w'=>Le h9 b∧St h w b w' []∧(i≤l.length)∧((l.take i).all (zmY t)=true)) (fun ⟨i,b⟩=>l.length-i) ⟨0,h9⟩ ⟨rfl,trivial⟩ ⟨Le.refl _,f,zbB,zbB⟩ ?_;rintro ⟨i,b⟩ _ g0 ⟨H,I,hi,hA⟩;refine zaM<|zaM ?_;have c5:l.length≤5:=by have q_:=a2;omega
 refine zah<|N K<|zk l_v K<|have g:=c4.t H;zG (l_f.up g) zed K<|zM K<|D<|zV K (fun d7=>?_) (fun d7=>?_)
 ·refine zaS<|zT<|zaM<|zcY zbh zch (Cls b _) (Cls.drew I)<|zdp (e.up (a.t H)) zaX zac K<|zbr l_v K<|zew K K ?_;obtain ⟨c,hc⟩:∃ y_,(l)[i]?=some y_:=zdl zW;obtain ⟨g1,g2,_,a7,a8,hr_c⟩:=Sl.elem (l_f.up g) hc;obtain ⟨g3,rfl,f27⟩:=hr_c;have d2:=f27.le;refine zag a7 zed zgw K<|zdp a8 zjY zgw K ?_;refine zeI rfl rfl (fun _=>zcT rfl Tryz.call110 rfl) (fun _ hC=>zbH.quiet hC (ztH hC.sub (t:=t) (t_f0.up g) (c:=c) f27 (by exact S))) ?_;refine zpC K K<|zci ?_;rintro g4 ⟨c6,c7⟩;have q:=I.call0 c7;refine zF<|zaD K (fun a3=>?_) (fun a3=>?_)
  ·refine zw<|zdD K K<|U K<|ze<|zaq<|zN<|zaq<|zbu Tryz.results55<|⟨c6,_,K,q.done,?_⟩;refine ⟨_,zfS K (zan ?_),Sl.to (Sl.nil _ _) ?_⟩
   all_goals have hd:zgZ t l=11:=by rw[zgZ,zab S,zab c5,zam (by rw[zeG hc (by simpa using a3)];decide)]
   ·exact hd.symm
   rw[zpl,zam (by rw[hd];decide)]
  refine zbO<|zaF<|N K<|zo K zbj<|U K<|D<|⟨⟨i+1,c6⟩,⟨rfl,trivial⟩,?_,⟨(H.trans c7.le),q,?_,?_⟩,?_⟩
  ·exact zba
  ·first|omega|(simp;omega)
  ·exact zeW hA hc (by simpa using a3)
  show l.length-(i+1)<l.length-i;omega
 refine zdx<|zF<|zw<|zdD K K<|D<|zw<|E I.sub (e.up (a.t H)) zaX zac K ?_;refine zau I rfl rfl rfl Tryz.call88 rfl (zlp I.sub (t:=t) (t_f0.up g) (by exact S)) ?_;intro j g5 a4 r a9 d8;obtain ⟨g6,d9,f40⟩:=d8;rw[← d9] at f40;have d3:=f40.le;refine zH j K<|D<|zaM<|zaM ?_;have hda:l.all (zmY t)=true:=zdY hA zW;have hd:zgZ t l=0:=by rw[zgZ,zab S,zab c5,zab hda]
 refine zah<|U K<|D<|zT ?_;have b0:=a9.snoc;have f46:=OSl.nil zdO 68 a4;refine zaI ([7,9,10,11]++zbP 33 40) (G:=Nat×Value×List (Nat×Obj)×Heap) (fun ⟨k,F,T,P⟩=>[(7,F),(9,iV (k:Int))]) (fun ⟨k,F,T,P⟩ w'=>Le a4 P∧St h w P w' [T]∧(OSl zdO 68 P F (((zbJ t).take k).filter (zmD t l)) T)∧(k≤(zbJ t).length)) (fun ⟨k,F,T,P⟩=>(zbJ t).length-k) ⟨0,(.slice none 0 0),[],a4⟩ ⟨rfl,rfl,trivial⟩ ⟨Le.refl _,b0,(OSl.to f46 (by rfl)),zbB⟩ ?_;rintro ⟨k,F,T,P⟩ _ g7 ⟨B,s,n,hk⟩;refine zav<|N K<|zk j K<|zG (f40.up B) zbp K<|zM K<|D<|zV K (fun e0=>?_) (fun e0=>?_)
 ·refine zaS<|zT<|zaM ?_;obtain ⟨p,hp⟩:∃ p,(zbJ t)[k]?=some p:=⟨_,zn zW⟩;have hpp:=zlC (zD hp);have hpw:=zmU hpp;refine zah<|za K<|D<|zav<|U K<|D<|zT ?_;refine zaI ([10,11]++zbP 39 26) (G:=Nat×Heap) (fun ⟨m,Q⟩=>[(10,.bool ((l.take m).any fun c_=>decide (zod t c_ p≠zbY t p))),(11,iV (m:Int))]) (fun ⟨m,Q⟩ w'=>Le P Q∧St h w Q w' [T]∧(m≤l.length)) (fun ⟨m,Q⟩=>l.length-m) ⟨0,P⟩ ⟨rfl,K,trivial⟩ ⟨Le.refl _,s,zbB⟩ ?_;rintro ⟨m,Q⟩ _ g8 ⟨A,C,hm⟩;refine zav<|N K<|zk l_v K<|have o:=((g.t r).t B).t A;zG (l_f.up o) zed K<|zM K<|D<|zV K (fun e1=>?_) (fun e1=>?_)
  ·refine zaS<|zT<|zcY zbh zch (Cls Q _) (Cls.drew C)<|zjM K K<|zjM K K<|zjJ (d:=46) K (fun e2=>?_) (fun e2=>?_)
   ·refine zgK 17 K<|zbm K<|ztP K K<|zci ?_;rintro g9 ⟨e3,c8⟩;have b2:=C.call0 c8;refine zaF<|N K<|zo K zbj<|U K<|D<|⟨⟨m+1,e3⟩,⟨?_,K,trivial⟩,?_,⟨(A.trans c8.le),b2,?_⟩,?_⟩
    ·exact zP (by first|(rw[zkZ a5];simp_all;done)|(obtain ⟨c_,hc_⟩:∃ c_,l[m]?=some c_:=⟨_,zn zW⟩;rw[zkZ hc_];simp_all;done))
    ·exact zba
    ·first|omega|(simp;omega)
    show l.length-(m+1)<l.length-m;omega
   refine zc K<|have c9:=(((a.t H).t r).t B).t A;zdp (e.up c9) zaX zac K<|zc K<|zbr l_v K<|zc K<|zew K K<|zc K ?_;obtain ⟨c2,a5⟩:∃ y_,(l)[m]?=some y_:=zdl zW;obtain ⟨h0,h1,_,b3,b4,a0⟩:=Sl.elem (l_f.up o) a5;obtain ⟨h2,rfl,f66⟩:=a0;have d4:=f66.le;refine zag b3 zed zgw K<|zc K<|zdp b4 zjY zgw K<|zc K<|zbr j K<|zc K<|zew K K<|zc K ?_;obtain ⟨h4,h5,_,u,v,hr_p⟩:=Sl.elem (f40.up (B.t A)) hp;subst hr_p;refine zag u zbp zR K<|zc K<|zdp v zaE zR K<|zc K ?_;refine zeI rfl rfl (fun _=>zcT rfl Tryz.call111 rfl) (fun _ hC=>zbH.quiet hC (zrX hC.sub (t:=t) (t_f0.up o) (c:=c2) f66 (p:=p) (by exact S) (by exact hpp))) ?_;refine zc K<|zdp (e.up c9) zaX zac K<|zc K<|zbr j K<|zc K<|zew K K<|zc K<|zag u zbp zR K<|zc K<|zdp v zaE zR K<|zc K ?_;refine zeI rfl rfl (fun _=>zcT rfl Tryz.call79 rfl) (fun _ hC=>zbH.quiet hC (ziT hC.sub (t:=t) (t_f0.up o) (p:=p) (by exact hpp))) ?_;refine zc K<|zbf K K (fun _ _=>(zpg K K))<|zbU K<|ztP K K<|zci ?_;rintro h6 ⟨e4,d0⟩;have b5:=C.call0 d0;refine zaF<|N K<|zo K zbj<|U K<|D<|⟨⟨m+1,e4⟩,⟨?_,K,trivial⟩,?_,⟨(A.trans d0.le),b5,?_⟩,?_⟩
   ·exact zP (by first|(rw[zkZ a5];simp_all;done)|(obtain ⟨c_,hc_⟩:∃ c_,l[m]?=some c_:=⟨_,zn zW⟩;rw[zkZ hc_];simp_all;done))
   ·exact zba
   ·first|omega|(simp;omega)
   show l.length-(m+1)<l.length-m;omega
  refine zdx<|zF<|zw<|zp K<|D<|zaD K (fun a6=>?_) (fun a6=>?_)
  ·refine zah<|zk F K<|zk j K<|N K ?_;obtain ⟨h7,h8,_,b6,b7,hr_p⟩:=Sl.elem (f40.up (B.t A)) hp;subst hr_p;refine zx b6 zbp zR K<|E C.sub b7 zaE zR K<|zA zdO [p] [iV p.chapter,iV p.line,iV p.word] C (Enc.cons (L:=zdO) (vs:=[iV p.chapter,iV p.line,iV p.word]) (x:=p) (h:=Q) K Enc.nil) K zbp Tryz.info68 zch<|fun j0 j1 e5 y f82 b8=>?_;refine zbe (k:=0) (nb:=24) b8 (n.up (A.t y)) rfl f82 rfl rfl rfl zbp Tryz.info68 rfl rfl rfl (by decide) rfl (by have q_:=zak (zmD t l) ((zbJ t).take k);rw[zt] at q_;simp only[zj,zy,zC];omega) (by have q_:=zak (zmD t l) ((zbJ t).take k);rw[zt] at q_;simp only[zj,zy,zC];omega) ?_;intro d1 e6 j2 _ e7 f90 b9;subst e7;refine zH d1 K<|zl<|zaF<|N K<|zo K zbj<|U K<|D ?_;have hdb:zmD t l p=true:=by have q_:=a6;rw[zS zW] at q_;simpa [zmD] using q_
   refine ⟨⟨k+1,d1,e6,e5⟩,⟨rfl,K,trivial⟩,?_,⟨((B.t A).t y),b9,?_,?_⟩,?_⟩
   ·exact zba
   ·refine OSl.to f90 ?_;rw[zbg hp,zbc,zbo,zab hdb];rfl
   ·first|omega|(simp;omega)
   show (zbJ t).length-(k+1)<(zbJ t).length-k;omega
  refine zbO<|zaF<|N K<|zo K zbj<|U K<|D ?_;have hdb:zmD t l p=false:=by have q_:=a6;rw[zS zW] at q_;simpa [zmD] using q_
  refine ⟨⟨k+1,F,T,Q⟩,⟨rfl,K,trivial⟩,?_,⟨(B.t A),C,?_,?_⟩,?_⟩
  ·exact zba
  ·refine OSl.to (n.up A) ?_;rw[zbg hp,zbc,zbo,zam (by rw[hdb];decide)];simp
  ·first|omega|(simp;omega)
  show (zbJ t).length-(k+1)<(zbJ t).length-k;omega
 refine zdx<|zF<|zw<|zk F K<|zH F K<|U K<|ze<|zbu Tryz.results55 ?_;obtain ⟨e8,e9,f94,c0⟩:=OSl.freeze (k:=0) s n rfl (by have q_:=zak (zmD t l) ((zbJ t).take k);rw[zt] at q_;omega);refine ⟨e8,_,K,c0.done,?_⟩;refine ⟨_,zfS K (zan ?_),Sl.to f94 ?_⟩
 ·exact hd.symm
 rw[zpl,zab hd,zgv,zS zW]
theorem zqZ (hs:Sub h w) {a:Copy} (a_f0:Sl zgz h a_v0 a.readings) {b:Copy} (b_f0:Sl zgz h b_v0 b.readings):Calls Tryz.prog 59 #[.agg #[iV a.id,a_v0],.agg #[iV b.id,b_v0]] w (zbH h w (fun _ _ res_=>res_=.bool (decide (a=b)))):=by
 refine zg 38 Tryz.func59 K<|have u:=zcu hs;have p:=a_f0.le;have r:=b_f0.le;zw<|J [iV a.id,a_v0] u K<|fun b1 w2 h3 v L z=>J [iV b.id,b_v0] z K<|fun b7 w8 s B I A=>za K<|D<|zav<|Z zcP K zI<|Y 0 A.sub (L.up B) zO K<|Z zcP K zI<|Y 0 A.sub I zO K<|zar K<|zp K<|zaK (d:=11) K (fun a0=>?_) (fun a0=>?_)
 ·refine zao 7 K<|zd K<|D<|zaD K (fun c=>?_) (fun c=>?_)
  ·refine zw<|za K<|ze<|zN<|zf Tryz.results59<|⟨s,_,K,A.done,?_⟩;refine zP ?_;have q:a≠b:=by
    rintro rfl;simp_all
   simp[q]
  cases c
 refine X K<|Z zcP K zfy<|X K<|Y 1 A.sub (L.up B) zgl K<|X K<|have Q:=v.t B;zG (a_f0.up Q) zco K<|X K<|Z zcP K zfy<|X K<|Y 1 A.sub I zgl K<|X K<|zG (b_f0.up Q) zco K<|X K<|zar K<|zb K<|D<|zV K (fun a3=>?_) (fun a3=>?_)
 ·refine zw<|za K<|ze<|zN<|zf Tryz.results59<|⟨s,_,K,A.done,?_⟩;refine zP ?_;have q:a≠b:=by
   rintro rfl;simp_all
  simp[q]
 refine zaS<|zw<|U K<|D<|zT ?_;refine zaI ([4,5]++zbP 20 18) (G:=Nat×Heap) (fun ⟨k,F⟩=>[(5,iV (k:Int))]) (fun ⟨k,F⟩ w'=>Le s F∧St h w F w' []∧(k≤a.readings.length)∧(a.readings.take k=b.readings.take k)) (fun ⟨k,F⟩=>a.readings.length-k) ⟨0,s⟩ ⟨rfl,trivial⟩ ⟨Le.refl _,A,zbB,zbB⟩ ?_;rintro ⟨k,F⟩ _ a7 ⟨C,H,hk,he⟩;refine zav<|N K<|Z zcP K zfy<|Y 1 H.sub (L.up (B.t C)) zgl K<|have S:=Q.t C;zG (a_f0.up S) zco K<|zM K<|D<|zV K (fun a4=>?_) (fun a4=>?_)
 ·refine zaS<|zT<|zaM<|zcY zbh zch (Cls F _) (Cls.drew H)<|zz zcP K zfy<|zaT 1 (L.up (B.t C)) zgl K<|zew K K ?_;obtain ⟨x,hx⟩:∃ y_,(a.readings)[k]?=some y_:=zdl zW;obtain ⟨a8,a9,_,f,g,hr_x⟩:=Sl.elem (a_f0.up S) hx;obtain ⟨rfl,a5,i⟩:=hr_x;simp only[big] at i;refine zag f zco zdo K<|zdp g zjk zdo K<|zz zcP K zfy<|zaT 1 (I.up C) zgl K<|zew K K ?_;obtain ⟨y,hy⟩:∃ y_,(b.readings)[k]?=some y_:=zdl zW;obtain ⟨b0,b3,_,j,l,hr_y⟩:=Sl.elem (b_f0.up S) hy;obtain ⟨rfl,a6,m⟩:=hr_y;simp only[big] at m;refine zag j zco zdo K<|zdp l zjk zdo K<|zbf K K (fun _ _=>(zkG K K Tryz.eqGuardType165 (Tryz.eq_Reading x y)))<|zci ?_;rintro b4 ⟨n,o⟩;have P:=H.call0 o;refine zF<|zV K (fun T=>?_) (fun T=>?_)
  ·refine zw<|za K<|ze<|zaq<|zN<|zaq<|zf Tryz.results59<|⟨n,_,K,P.done,?_⟩;refine zP ?_;have q:a≠b:=fun e=>zin hx hy (by simpa using T) (by rw[e]);simp[q]
  refine zbO<|zaF<|N K<|zo K zbj<|U K<|D<|⟨⟨k+1,n⟩,⟨rfl,trivial⟩,?_,⟨(C.trans o.le),P,?_,?_⟩,?_⟩
  ·exact zba
  ·first|omega|(simp;omega)
  ·exact zhv he hx hy (by simpa using T)
  show a.readings.length-(k+1)<a.readings.length-k;omega
 refine zdx<|zF<|zw<|za K<|ze<|zf Tryz.results59<|⟨F,_,K,H.done,?_⟩;refine zP ?_;have q:=ziF he zW zW
 rcases a with ⟨a1,a2⟩;rcases b with ⟨b1,b2⟩
 simp_all
theorem zqY (hs:Sub h w) (c_f0:Sl zgz h c_v0 c.readings) (hsm:c.readings.length≤1000):Calls Tryz.prog 40 #[.agg #[iV c.id,c_v0]] w (zbH h w (fun h' _ res_=>∃ u0,res_=.agg #[iV (c).id,u0]∧Sl zgz h' u0 (c).readings)):=by
 refine zg 10 Tryz.func40 K<|have a0:=zcu hs;have z:=c_f0.le;zw<|J [iV c.id,c_v0] a0 K<|fun b1 w2 h3 a1 S a2=>zaf a2 Tryz.zeroValue97 K K<|fun b7 w8 a3=>D<|zaM<|ziZ (dsts:=(zbP 3 7)) a3 zbh<|zL (zh zcP K zI)<|zas (fun Q wD C P F hO _ _=>(zm 0 (P.sub F) S zO K))<|zbq (.res (fun _ res_=>∃ p,res_=.slice p 0 0) (fun _ _ _ _ f=>f)) ?_ ?_
 ·intro Q wD C P F hO;have T:=St.start F;exact ziX T K ⟨_,zdo⟩ zco<|fun a8 a9 f13 a=>zl ⟨_,_,K,a,_,K,f13⟩
 refine zL (zh zcP K zfy)<|zas (fun Q wD C P F hO _ _=>(zm 1 (P.sub F) S zgl K))<|zbq (.res (fun h' res_=>Sl zgz h' res_ c.readings) (fun _ _ _ hl f=>f.up hl)) ?_ ?_
 ·intro Q wD C P F hO gv2_ gf2_ _ _;have b:=St.start F;have d:=b.snoc;have f17:=OSl.nil zgz 165 Q;have f18:=OSl.nil0 zgz 165 Q gf2_;refine zbe (k:=0) (nb:=48) d f18 rfl (c_f0.up (a1.trans P)) rfl rfl rfl zco Tryz.info165 rfl rfl rfl (by decide) rfl (by simp only[zC,zcM];omega) (by simp only[zC,zcM];omega) ?_;intro b0 b2 b3 _ a4 f23 e;subst a4;obtain ⟨b4,a5,f27,g⟩:=OSl.freeze (k:=0) e f23 rfl (by simp only[zcM];omega);exact zl ⟨_,_,K,g.done,_,K,f27⟩
 refine zbq (.res (fun h' res_=>∃ gv6_0,res_=.agg #[iV ((Copy.mk c.id c.readings)).id,gv6_0]∧Sl zgz h' gv6_0 ((Copy.mk c.id c.readings)).readings) (by rintro _ _ _ hl ⟨gv6_0,e_,gf6_0⟩;exact ⟨gv6_0,e_,gf6_0.up hl⟩)) ?_ ?_
 ·intro Q wD C P F hO _ _ gv5_0 gf5_0;have i:=St.start F;refine zax rfl rfl (zdT (cs:=[iV c.id,gv5_0]) (by obtain ⟨_,_,rfl⟩:=Sl.form gf5_0;kernel_rfl)) ?_;exact zl ⟨_,_,K,i,_,K,⟨_,K,gf5_0⟩⟩
 refine zcf<|zdy<|fun a6 b5 _ a7 j _ _ _ _ l m _ _ _ _ gv5_0x30 gf5_0x30 n A=>?_;obtain ⟨gv6_0x30,rfl,gf6_0x30⟩:=A;refine zaU 0 j K (zbI K (zbI gf6_0x30.one zgB)) zgw<|fun b6 o=>?_;obtain ⟨b8,H,q,r⟩:=o.freeze (k:=0) rfl;have s:=zaL.of q;refine zl ⟨undef,K,_,_,H,r,?_⟩;intro u b9 _ I L _ _ _ _ v x _ _ _ _ gv5_0x46 gf5_0x46 y B;obtain ⟨gv6_0x46,rfl,gf6_0x46⟩:=B;refine zbT.fin K<|zF<|zky<|zgj Tryz.results40 K zjY zgw K L.sub (s.up I)<|⟨u,_,K,L.done,?_⟩;refine ⟨_,?_,Sl.to (gf6_0x30.up (H.t I)) ?_⟩
 ·rfl
 simp
end Go.Pk
