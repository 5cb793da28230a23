/- A PART OF THE PROOF: contracts of functions. -/
import Derived.Test.YtjkkoclmagdpoaaGreatDoorT2
import Derived.Shelf.SlSortCmp.NoneTotal
import Derived.Sort.Walk0
set_option linter.all false
set_option maxRecDepth 4000
namespace Go.Pk
open Go Go.RowKit
variable {i j:Nat}
section
variable {α:Type}
structure DelF (q:α→Bool) (s ys:List α) (i j:Nat):Prop where
 len:ys.length=s.length
 le:i≤j
 le2:j≤s.length
 head:ys.take i=(s.take j).filter fun x=>!q x
 tail:ys.drop j=s.drop j
theorem DelF.get {q:α→Bool} {s ys:List α} (d:DelF q s ys i j) {y:α} (h:ys[j]?=some y):s[j]?=some y:=by
 have h1:=zcE (fun l:List α=>l[0]?) d.tail;simp only[zdL,Nat.add_zero] at h1;rw[← h1];exact h
theorem DelF.start {q:α→Bool} {s:List α} {k:Nat} (h1:∀ j x,j<k→s[j]?=some x→q x=false) (h2:∀ x,s[k]?=some x→q x=true) (hk:k<s.length):DelF q s s k (k+1):=by
 refine ⟨rfl,by omega,by omega,?_,rfl⟩;have hx:s[k]?=some s[k]:=zn hk;rw[zbg hx,zbc];have e1:(s.take k).filter (fun x=>!q x)=s.take k:=by
  rw[zeN];intro x hx;obtain ⟨j,hj⟩:=k_List_mem_iff_getElem_.1 hx;rw[zaR] at hj;split at hj
  ·rename_i hjk;simp[h1 j x hjk hj]
  ·cases hj
 simp[e1,h2 _ hx]
theorem DelF.keep {q:α→Bool} {s ys:List α} (d:DelF q s ys i j) {y:α} (h:ys[j]?=some y) (hq:q y=false):DelF q s (ys.set i y) (i+1) (j+1):=by
 obtain ⟨h1,_⟩:=k_List_getElem__eq_some_iff.1 h;have hl:=d.len;have hle:=d.le;refine ⟨by rw[zek];exact d.len,by omega,by omega,?_,?_⟩
 ·rw[zbg (d.get h),zbc,← d.head];have e:(ys.set i y)[i]?=some y:=by rw[zir];simp;omega
  rw[zbg e,List.take_set_of_le (zbR i)];simp[hq]
 rw[List.drop_set_of_lt zW];have:=zcE (List.drop 1) d.tail;simpa [zht] using this
theorem DelF.skip {q:α→Bool} {s ys:List α} (d:DelF q s ys i j) {y:α} (h:ys[j]?=some y) (hq:q y=true):DelF q s ys i (j+1):=by
 obtain ⟨h1,_⟩:=k_List_getElem__eq_some_iff.1 h;have hl:=d.len;have hle:=d.le;refine ⟨d.len,by omega,by omega,?_,?_⟩
 ·rw[zbg (d.get h),zbc,← d.head];simp[hq]
 have:=zcE (List.drop 1) d.tail;simpa [zht] using this
theorem DelF.fin {q:α→Bool} {s ys:List α} (d:DelF q s ys i j) (h:s.length≤j):ys.take i=s.filter fun x=>!q x:=by
 rw[d.head,zS h]
theorem zvL {q:α→Bool} {s:List α} (h:∀ j x,j<s.length→s[j]?=some x→q x=false):(s.filter fun x=>!q x)=s:=by
 rw[zeN];intro x hx;obtain ⟨j,hj⟩:=k_List_mem_iff_getElem_.1 hx;obtain ⟨h1,_⟩:=k_List_getElem__eq_some_iff.1 hj;simp[h j x h1 hj]
variable [DecidableEq α]
def zos (acc:List α) (x:α):List α:=if acc.getLast?=some x then acc else acc++[x]
def zgG (l:List α):List α:=l.foldl zos []
theorem zoh (l:List α) (x:α):zgG (l++[x])=zos (zgG l) x:=by simp[zgG]
theorem zsX (l:List α):(zgG l).getLast?=l.getLast?:=by
 induction l using zkb with
 | nil=>rfl
 | snoc l d ih=>
  rw[zoh,zos];split
  ·rename_i h;rw[h];simp
  ·simp
theorem zog {s:List α} {k:Nat} {y z:α} (hz:s[k]?=some z) (hy:s[k+1]?=some y):zgG (s.take (k+2))=if z=y then zgG (s.take (k+1)) else zgG (s.take (k+1))++[y]:=by
 have e:(s.take (k+1)).getLast?=some z:=by rw[zbg hz];simp
 rw[zbg hy,zoh,zos,zsX,e];simp only[zeS]
theorem zyX {s:List α} {k:Nat} {y z:α} (hz:s[k-1]?=some z) (hy:s[k]?=some y) (hk:1≤k) (h:zgG (s.take k)=s.take k) (hne:¬ y=z):zgG (s.take (k+1))=s.take (k+1):=by
 obtain ⟨m,rfl⟩:∃ m,k=m+1:=⟨k-1,by omega⟩;rw[zfC] at hz;rw[show m+1+1=m+2 from rfl,zog hz hy,zam (fun e=>hne e.symm),h,← zbg hy]
theorem zBg {s:List α} (h:1≤s.length):zgG (s.take 1)=s.take 1:=by
 cases s with
 | nil=>simp at h
 | cons a s=>simp[zgG,zos]
theorem zxk {s:List α} (h:s.length<2):zgG s=s:=by
 match s,h with
 | [],_=>rfl
 | [a],_=>simp[zgG,zos]
structure Comp (s ys:List α) (i j:Nat):Prop where
 len:ys.length=s.length
 le:i+1≤j
 le2:j≤s.length
 head:ys.take i=zgG (s.take j)
 tail:ys.drop (j-1)=s.drop (j-1)
theorem Comp.start {s:List α} {k:Nat} {y z:α} (hz:s[k-1]?=some z) (hy:s[k]?=some y) (hk:1≤k) (h:zgG (s.take k)=s.take k) (he:y=z):Comp s s k (k+1):=by
 obtain ⟨h1,_⟩:=k_List_getElem__eq_some_iff.1 hy;refine ⟨rfl,zbR _,by omega,?_,rfl⟩;obtain ⟨m,rfl⟩:∃ m,k=m+1:=⟨k-1,by omega⟩;rw[zfC] at hz;rw[show m+1+1=m+2 from rfl,zog hz hy,zab he.symm,h]
theorem Comp.get {s ys:List α} (d:Comp s ys i j) {y:α} {n:Nat} (hn:j-1≤n) (h:ys[n]?=some y):s[n]?=some y:=by
 have h1:=zcE (fun l:List α=>l[n-(j-1)]?) d.tail;simp only[zdL] at h1;rw[show j-1+(n-(j-1))=n by omega] at h1;rw[← h1];exact h
theorem Comp.keep {s ys:List α} (d:Comp s ys i j) {y z:α} (h:ys[j]?=some y) (hz:ys[j-1]?=some z) (hne:¬ y=z):Comp s (ys.set i y) (i+1) (j+1):=by
 obtain ⟨h1,_⟩:=k_List_getElem__eq_some_iff.1 h;have hl:=d.len;have hle:=d.le;have hle2:=d.le2;have g1:=d.get zW h;have g2:=d.get (zbR _) hz;refine ⟨by rw[zek];exact d.len,by omega,by omega,?_,?_⟩
 ·obtain ⟨m,rfl⟩:∃ m,j=m+1:=⟨j-1,by omega⟩;rw[zfC] at g2;rw[show m+1+1=m+2 from rfl,zog g2 g1,zam (fun e=>hne e.symm),← d.head];have e:(ys.set i y)[i]?=some y:=by rw[zir];simp;omega
  rw[zbg e,List.take_set_of_le (zbR i)]
 rw[zfC,List.drop_set_of_lt zW];have:=zcE (List.drop 1) d.tail;rw[zht,zht,show j-1+1=j by omega] at this;exact this
theorem Comp.skip {s ys:List α} (d:Comp s ys i j) {y z:α} (h:ys[j]?=some y) (hz:ys[j-1]?=some z) (he:y=z):Comp s ys i (j+1):=by
 obtain ⟨h1,_⟩:=k_List_getElem__eq_some_iff.1 h;have hl:=d.len;have hle:=d.le;have hle2:=d.le2;have g1:=d.get zW h;have g2:=d.get (zbR _) hz;refine ⟨d.len,by omega,by omega,?_,?_⟩
 ·obtain ⟨m,rfl⟩:∃ m,j=m+1:=⟨j-1,by omega⟩;rw[zfC] at g2;rw[show m+1+1=m+2 from rfl,zog g2 g1,zab he.symm,← d.head]
 have:=zcE (List.drop 1) d.tail;rw[zht,zht,show j-1+1=j by omega] at this;rw[zfC];exact this
theorem Comp.fin {s ys:List α} (d:Comp s ys i j) (h:s.length≤j):ys.take i=zgG s:=by
 rw[d.head,zS h]
end
end Go.Pk

namespace Go.Pk
open Go Go.RowKit Go.Proofs Go.Shelf Go.Lib Go.Sort
variable {w w0:World} {b i:Nat} {cur F:Array Value} {T:TypeId} {α:Type} {L:Lay α} {h h0:Heap} {P:Program} {v:Value} {xs:List α} {o:List (Nat×Obj)} {x:α}
theorem zFw {W w':World} (b:Bel W.heap.size W w'):∃ q os',w'=grow (W.drewN q) os':=by
 refine ⟨w'.drawn-W.drawn,w'.heap.extract W.heap.size w'.heap.size,?_⟩;obtain ⟨h1,h2,h3,h4,h5,h6⟩:=b;cases w';cases W;simp only at h1 h2 h3 h4 h5 h6;subst h1;subst h2;subst h3;simp only[grow,World.drewN,World.mk.injEq,true_and,and_true];refine ⟨?_,by omega⟩;apply zhg;intro i;rw[Array.getElem?_append];split
 ·rename_i hi;exact h5 i hi
 rename_i hi;rw[Array.getElem?_extract];split
 ·congr 1;omega
 rw[Array.getElem?_eq_none zW]
theorem Bel.grow {B:Nat} {a w:World} (b:Bel B a w) (hB:B≤w.heap.size) (os:Array Obj):Bel B a (grow w os):=
 b.trans ⟨rfl,rfl,rfl,by simp[Go.Sort.grow],fun k hk=>by simp only[Go.Sort.grow];rw[Array.getElem?_append_left zW],zbR _⟩
theorem St.grow {h0 h:Heap} {w0 w:World} {own:Own} (st:St h0 w0 h w own) (os:Array Obj):St h0 w0 h (grow w os) own:=by
 have e:∀ b o,w.heap[b]?=some o→(Go.Sort.grow w os).heap[b]?=some o:=fun b o hb=>by
  simp only[Go.Sort.grow];rw[Array.getElem?_append_left (zgU hb)];exact hb
 exact ⟨st.le,st.new,fun b o hb=>e b o (st.sub b o hb),st.below.grow st.below.size os,fun p hp=>⟨e _ _ (st.mine p hp).1,(st.mine p hp).2⟩,st.nodup⟩
theorem zwI (hb:w.heap[b]?=some (.cells cur T)) (n:Nat):
  putRow id (Go.Sort.ahead w n) b 0 F={ w with drawn:=w.drawn+n,heap:=w.heap.setIfInBounds b (.cells (putCells id 0 F cur) T) }:=by
 have hlt:=zgU hb;have hb':w.heap[b]=.cells cur T:=by rw[zcr hlt] at hb;simpa using hb
 simp only[putRow,mapBlock,Go.Sort.ahead,World.mk.injEq,and_true,true_and];apply zhg;intro i;rw[Array.getElem?_modify,zhu]
 by_cases e:b=i
 ·subst e;simp[hlt,hb',onCells]
 ·simp[e]
theorem zyb (h:F.size≤cur.size):(putCells id 0 F cur).toList.take F.size=F.toList:=by
 apply zeF;intro i;rw[zaR];split
 ·rename_i hi;simp only[putCells,zgu,Array.getElem?_mapIdx];rw[zcr (show i<cur.size by omega),zcr hi];simp[hi]
 rename_i hi;rw[zbF (by simpa using hi)]
theorem zDU [Inhabited α] {enc:α→List Value} (d:Array α) (hk:∀ x,(enc x).length=L.size) (hR:∀ x∈d.toList,L.R h (enc x) x):Enc L h (flatK enc L.size d).toList d.toList:=by
 refine ⟨by simp,fun i x hi=>?_⟩;obtain ⟨h1,h2⟩:=k_List_getElem__eq_some_iff.1 hi;have h1':i<d.size:=by simpa using h1
 have e:((flatK enc L.size d).toList.drop (i*L.size)).take L.size=enc x:=by
  apply zeF;intro j;rw[zaR]
  by_cases hj:j<L.size
  ·rw[zab hj,zdL];have ht:i*L.size+j<d.size*L.size:=by
    have:(i+1)*L.size≤d.size*L.size:=zcb _ h1';rw[zhL,Nat.one_mul] at this;omega
   have h3:=get_flatK enc L.size d _ ht;have hd:(i*L.size+j) / L.size=i:=by rw[Nat.mul_comm,Nat.mul_add_div zW,Nat.div_eq_of_lt hj];rfl
   have hm:(i*L.size+j) % L.size=j:=by rw[Nat.mul_comm,Nat.mul_add_mod,Nat.mod_eq_of_lt hj]
   rw[hd,hm,getElem!_pos d i h1',getElem!_pos (flatK enc L.size d) _ (by simpa using ht)] at h3;have hx:d[i]=x:=by simpa using h2
   rw[hx,getElem!_pos (enc x) j (by rw[hk];exact hj)] at h3;rw[zn (by simpa using ht),zn (by rw[hk];exact hj)];simpa using h3
  ·rw[zam hj,zbF (by rw[hk];omega)]
 rw[e];exact hR x (zD hi)
theorem zDW [Inhabited α] {enc:α→List Value} (hpos:0<L.size) (d:Array α) (hE:∀ {vs x},L.R h vs x→vs=enc x) {cs:List Value} (e:Enc L h cs d.toList) {j:Nat} (hj:j<d.size*L.size):cs[j]?=some (flatK enc L.size d)[j]!:=by
 have hi:j / L.size<d.size:=Nat.div_lt_of_lt_mul (by rwa [Nat.mul_comm]);have hr:=hE (e.2 (j / L.size) d[j / L.size] (by simp[hi]));rw[get_flatK enc L.size d j hj,getElem!_pos d _ hi,← hr];have hlen:cs.length=d.size*L.size:=by simpa using e.1
 have hm:=Nat.mod_lt j hpos;have hdm:=Nat.div_add_mod j L.size;rw[Nat.mul_comm] at hdm;have hl:j % L.size<((cs.drop (j / L.size*L.size)).take L.size).length:=by
  simp only[zt,zeQ];omega
 rw[getElem!_pos ((cs.drop (j / L.size*L.size)).take L.size) (j % L.size) hl];simp only[List.getElem_take,List.getElem_drop,hdm];rw[zn zW]
theorem zAp {ρ:Ren} (LL:SlLaysF0.n6 P ρ) (aE:∀ w,(isAgg (ρ.t 24)).run P w=.ok true w) (zE:∀ w,(Go.sizeOf (ρ.t 24)).run P w=.ok L.size w) (hpos:0<L.size) (enc:α→List Value) (hE:∀ {h vs x},L.R h vs x→vs=enc x) (cf:α→α→Int) (hS:SWO (ltOf cf)) {g:Nat} {caps:List Value} {own:Own} (st:St h0 w0 h w own) (hO:OSl L T h v xs o) (hi:own[i]?=some o) (hlen:xs.length<4611686018427387904) (eg:∀ a w,(callFunc g a).run P w=.ok (.enter g a) w) (hcmp:∀ x∈xs,∀ y∈xs,∀ w',Sub h w'→Calls P g (.agg (enc x).toArray::.agg (enc y).toArray::caps).toArray w' (zbH h w' fun _ _ r=>r=.int .i64 (cf x y))):
  Calls P (ρ.f 6) #[v,.func (.func g) #[] caps.toArray] w fun e w'=>e=.returned (.tuple #[])∧∃ ys o' own',own'=own.set i o'∧ys.Perm xs∧ys.Pairwise (fun a b=>¬ cf b a<0)∧OSl L T h v ys o'∧St h0 w0 h w' own':=by
 by_cases hx:xs=[]
 ·subst hx;obtain ⟨p,c,rfl⟩:=hO.form;refine (AnyF.slices_SortFunc_none LL p c _ w).mono ?_;rintro e w' ⟨he,rfl⟩;refine ⟨he,[],o,_,rfl,List.Perm.refl _,List.Pairwise.nil,hO,?_⟩;have e3:own.set i o=own:=by
   apply zeF;intro j;rw[zir];split
   ·rename_i e4;subst e4;split
    ·exact hi.symm
    ·rename_i h5;rw[zbF zW]
   ·rfl
  rw[e3];exact st
 obtain ⟨cs,e1,⟨⟨p,rfl⟩,rfl,rfl⟩|⟨b,cap,cur,rfl,rfl,hnc,hcm,hsz,htk⟩⟩:=hO
 ·exact absurd rfl hx
 -- the elements, each with its place in the list
 let β:={ x:α // x∈xs }
 haveI:Inhabited β:=⟨⟨xs.head hx,List.head_mem hx⟩⟩
 let enc':β→List Value:=fun x=>enc x.1
 let cf':β→β→Int:=fun x y=>cf x.1 y.1
 let d:Array β:=xs.attach.toArray
 have hdl:d.size=xs.length:=by show xs.attach.toArray.size=xs.length;rw[ziq];exact List.length_attach
 have hmap:d.toList.map (·.1)=xs:=by show xs.attach.map (·.1)=xs;exact List.attach_map_subtype_val xs
 have hRx:∀ x:β,L.R h (enc x.1) x.1:=by
  intro x;obtain ⟨j,hj⟩:=k_List_mem_iff_getElem_.1 x.2;have:=e1.2 j x.1 hj;rwa [hE this] at this
 have hk:∀ x:β,(enc' x).length=L.size:=fun x=>L.len (hRx x)
 let L':Lay β:={ size:=L.size,R:=fun h vs x=>L.R h vs x.1,up:=fun a b=>L.up a b,len:=fun a=>L.len a,one:=fun a=>L.one a }
 have hb:=st.get hi;have hcsl:cs.length=xs.length*L.size:=e1.1;have e1':Enc L' h cs d.toList:=⟨by rw[hcsl,← hdl];rfl,fun j x hj=>e1.2 j x.1 (by
  have:=zcE (Option.map (·.1)) hj;rw[← zcy,hmap] at this;simpa using this)⟩
 have hH:HoldsK enc' L.size w b 0 d:=by
  intro j hj;have hj':j<d.size*L.size:=by simpa using hj
  have hcj:=zDW (L:=L') (enc:=enc') hpos d (fun h=>hE h) e1' hj';have hjc:j<cs.length:=by rw[hcsl,← hdl];exact hj'
  have hcur:cur[j]?=some (flatK enc' L.size d)[j]!:=by
   rw[← htk,zaR] at hcj;split at hcj
   ·simpa using hcj
   ·cases hcj
  refine ⟨?_,?_⟩
  ·simp only[World.cell?,hb,zhe,zbd,if_false,zdv,id];exact hcur
  ·simp[World.frozen?,hb]
 have hlt:=zgU hb;have hsubs:∀ m (os:Array Obj) (dk:Array β),Sub h (sortWorldK enc' L.size w b 0 m dk os):=by
  intro m os dk;unfold sortWorldK putRowK;rw[zwI hb];have:=(((st.set (.cells (putCells id 0 (flatK enc' L.size dk) cur) T) hi).same (w':={ w with drawn:=w.drawn+m,heap:=w.heap.setIfInBounds b (.cells (putCells id 0 (flatK enc' L.size dk) cur) T) }) rfl rfl rfl rfl (Nat.le_add_right _ _)).grow os).sub;exact this
 have hC:CmpLays P g caps.toArray enc' L.size cf' b 0 d.size w:=by
  intro m os dk hdk x y;have c:Calls P g (#[.agg (enc' x).toArray,.agg (enc' y).toArray]++caps.toArray) (sortWorldK enc' L.size w b 0 m dk os) (zbH h (sortWorldK enc' L.size w b 0 m dk os) fun _ _ r=>r=.int .i64 (cf x.1 y.1)):=by
   simpa using hcmp x.1 x.2 y.1 y.2 _ (hsubs m os dk)
  refine c.mono ?_;rintro e w' ⟨h',r,rfl,s,rfl⟩;exact ⟨rfl,zFw s.below⟩
 have hS':SWO (ltOf cf'):=⟨fun x=>hS.irrefl x.1,fun x y z=>hS.trans x.1 y.1 z.1,fun x y z=>hS.ntrans x.1 y.1 z.1⟩;have con:=AnyQ.slices_SortFunc LL L.size aE zE enc' hk (fun x=>L.one (hRx x)) cf' hS' g caps.toArray b 0 cap d w eg hC hH hlt (by rw[hdl];exact hlen);rw[hdl] at con;refine con.mono ?_;rintro e w' ⟨he,d',n,os,⟨p1,p2,p3⟩,hsort,rfl⟩;have hd':d'.size=xs.length:=by rw[p1,hdl]
 refine ⟨he,d'.toList.map (·.1),[(b,.cells (putCells id 0 (flatK enc' L.size d') cur) T)],_,rfl,?_,?_,?_,?_⟩
 ·have e3:d'.extract 0 xs.length=d':=by rw[← hd'];simp
  have e4:d.extract 0 xs.length=d:=by rw[← hdl];simp
  rw[e3,e4] at p3;have:=p3.map (fun x:β=>x.1);rwa [hmap] at this
 ·rw[List.pairwise_map,zdE];intro q r hq hr hqr;have:=hsort q r (zfg _) hqr (by simpa [hd'] using hr);rw[getElem!_pos d' r (by simpa using hr),getElem!_pos d' q (by simpa using hq)] at this;simp only[ltOf,zcw,cf'] at this;simpa using this
 ·have hsf:(flatK enc' L.size d').size=xs.length*L.size:=by simp[hd']
  have hfc:(flatK enc' L.size d').size≤cur.size:=by rw[hsf,hsz];exact zcb _ hnc
  refine ⟨(flatK enc' L.size d').toList,?_,.inr ⟨b,cap,_,by simp[hd'],rfl,by simpa [hd'] using hnc,hcm,by simpa [putCells] using hsz,?_⟩⟩
  ·have:=zDU (L:=L') (h:=h) (enc:=enc') d' hk (fun x _=>hRx x);refine ⟨by simp[hd'],fun j x hj=>?_⟩;rw[zcy] at hj;obtain ⟨y,hy,rfl⟩:=zfB.1 hj;exact this.2 j y hy
  ·have:=zyb hfc;rw[hsf] at this;simpa [hd'] using this
 ·unfold sortWorldK putRowK;rw[zwI hb];exact ((st.set (.cells (putCells id 0 (flatK enc' L.size d') cur) T) hi).same (w':={ w with drawn:=w.drawn+n,heap:=w.heap.setIfInBounds b (.cells (putCells id 0 (flatK enc' L.size d') cur) T) }) rfl rfl rfl rfl (Nat.le_add_right _ _)).grow os
theorem zEm (f:α→Int):SWO (ltOf fun a b=>f b-f a):=by
 refine ⟨fun x=>?_,fun x y z h1 h2=>?_,fun x y z h1 h2=>?_⟩ <;> simp only[ltOf,zX,zcw] at * <;> omega
theorem OSl.memR (hO:OSl L T h v xs o) (hx:x∈xs):∃ vs,L.R h vs x:=by
 obtain ⟨cs,e,_⟩:=hO;obtain ⟨j,hj⟩:=k_List_mem_iff_getElem_.1 hx;exact ⟨_,e.2 j x hj⟩
theorem Sl.memR (hs:Sl L h v xs) (hx:x∈xs):∃ vs,L.R h vs x:=by
 obtain ⟨p,c,_,_,rfl|⟨b,off,_,hh⟩⟩:=hs
 ·cases hx
 obtain ⟨j,hj⟩:=k_List_mem_iff_getElem_.1 hx;obtain ⟨vs,_,hr⟩:=hh j x hj;exact ⟨vs,hr⟩
theorem zAH [Inhabited α] {enc:α→Value} {F:Array α} (hb:w.heap[b]?=some (.cells cur T)) (n:Nat):
  putRow enc (Go.Sort.ahead w n) b 0 F={ w with drawn:=w.drawn+n,heap:=w.heap.setIfInBounds b (.cells (putCells enc 0 F cur) T) }:=by
 have hlt:=zgU hb;have hb':w.heap[b]=.cells cur T:=by rw[zcr hlt] at hb;simpa using hb
 simp only[putRow,mapBlock,Go.Sort.ahead,World.mk.injEq,and_true,true_and];apply zhg;intro i;rw[Array.getElem?_modify,zhu]
 by_cases e:b=i
 ·subst e;simp[hlt,hb',onCells]
 ·simp[e]
theorem zwJ [Inhabited α] {enc:α→Value} {F:Array α} (h:F.size≤cur.size):(putCells enc 0 F cur).toList.take F.size=F.toList.map enc:=by
 apply zeF;intro i;rw[zaR,zcy];split
 ·rename_i hi;simp only[putCells,zgu,Array.getElem?_mapIdx];rw[zcr (show i<cur.size by omega),zcr hi];simp[hi]
 rename_i hi;rw[zbF (by simpa using hi)];rfl
theorem zHM [Inhabited α] {f:FuncId} (enc:α→Value) (hE:∀ {h vs x},L.R h vs x→vs=[enc x]) (hz:L.size=1) (srt:List α→List α) (hp:∀ l,(srt l).Perm l) (hc:∀ blk off cap (zs:List α) w,Holds enc w blk off zs.toArray→blk<w.heap.size→zs.length<4611686018427387904→Calls P f #[.slice (some ⟨blk,off,none⟩) zs.length cap] w fun e w'=>e=.returned (.tuple #[])∧∃ n os,w'=Go.Sort.grow (putRow enc (Go.Sort.ahead w n) blk off (srt zs).toArray) os) (hn:∀ p cap w,Calls P f #[.slice p 0 cap] w fun e w'=>e=.returned (.tuple #[])∧w'=w) {own:Own} (st:St h0 w0 h w own) (hO:OSl L T h v xs o) (hi:own[i]?=some o) (hlen:xs.length<4611686018427387904):
  Calls P f #[v] w fun e w'=>e=.returned (.tuple #[])∧∃ o' own',own'=own.set i o'∧OSl L T h v (srt xs) o'∧St h0 w0 h w' own':=by
 obtain ⟨cs,e1,⟨⟨p,rfl⟩,rfl,rfl⟩|⟨b,cap,cur,rfl,rfl,hnc,hcm,hsz,htk⟩⟩:=hO
 ·refine (hn p 0 w).mono ?_;rintro e w' ⟨he,rfl⟩;have e0:srt []=[]:=(hp []).eq_nil;rw[e0];exact ⟨he,[],_,rfl,OSl.nil0 L T h ⟨p,rfl⟩,st.drop i⟩
 have hb:=st.get hi;have hlt:=zgU hb;have hcs:cs=xs.map enc:=by
  apply zeF;intro j;rw[zcy]
  by_cases hj:j<xs.length
  ·have hr:=hE (e1.2 j xs[j] (zn hj));rw[hz,zif] at hr;have hjc:j<cs.length:=by rw[e1.1,hz];omega
   rw[zn hj,zn hjc];have h1:=zcE (·[0]?) hr;simp only[zaR,zdL,zeL] at h1;simp only[Nat.zero_lt_one,if_true,Nat.add_zero] at h1;rw[zn hjc] at h1;simpa using h1
  ·rw[zbF (by rw[e1.1,hz];omega),zbF zW];rfl
 have hH:Holds enc w b 0 xs.toArray:=by
  intro j hj;have hj':j<xs.length:=by simpa using hj
  have h2:cs[j]?=some (enc xs[j]):=by rw[hcs,zcy,zn hj'];rfl
  have hcur:cur[j]?=some (enc xs[j]):=by
   rw[← htk,zaR] at h2;split at h2
   ·simpa using h2
   ·cases h2
  refine ⟨?_,by simp[World.frozen?,hb]⟩;simp only[World.cell?,hb,zhe,zbd,if_false,zdv];rw[hcur,getElem!_pos xs.toArray j (by simpa using hj')];simp
 refine (hc b 0 cap xs w hH hlt hlen).mono ?_;rintro e w' ⟨he,n,os,rfl⟩;have hl:(srt xs).length=xs.length:=(hp xs).length_eq;refine ⟨he,[(b,.cells (putCells enc 0 (srt xs).toArray cur) T)],_,rfl,?_,?_⟩
 ·have hfc:(srt xs).toArray.size≤cur.size:=by rw[ziq,hl,hsz,hz];omega
  refine ⟨(srt xs).map enc,⟨by simp[hz],fun j x hj=>?_⟩,.inr ⟨b,cap,_,by rw[hl],rfl,by omega,hcm,by simpa [putCells] using hsz,?_⟩⟩
  ·have hm:x∈xs:=(hp xs).mem_iff.1 (zD hj);obtain ⟨q,hq⟩:=k_List_mem_iff_getElem_.1 hm;have hr:=e1.2 q x hq;rw[hE hr] at hr;obtain ⟨h1,h2⟩:=k_List_getElem__eq_some_iff.1 hj;have e3:(((srt xs).map enc).drop (j*L.size)).take L.size=[enc x]:=by
    rw[hz,zif,zcX (by simpa using h1)];simp[h2]
   rw[e3];exact hr
  ·have:=zwJ (enc:=enc) hfc;rw[hz,zif];simpa using this
 ·rw[zAH hb];exact ((st.set (.cells (putCells enc 0 (srt xs).toArray cur) T) hi).same (w':={ w with drawn:=w.drawn+n,heap:=w.heap.setIfInBounds b (.cells (putCells enc 0 (srt xs).toArray cur) T) }) rfl rfl rfl rfl (Nat.le_add_right _ _)).grow os
end Go.Pk

namespace Go.Pk
open Go Go.RowKit
section
variable {α:Type} [DecidableEq α]
structure TLt (lt:α→α→Bool):Prop where
 irrefl:∀ a,lt a a=false
 trans:∀ a b c,lt a b=true→lt b c=true→lt a c=true
 total:∀ a b,a≠b→lt a b=true∨lt b a=true
def zqn (lt:α→α→Bool) (l:List α) (x:α):List α:=if (l.dropWhile fun a=>lt a x).head?=some x then l else (l.takeWhile fun a=>lt a x)++[x]++(l.dropWhile fun a=>lt a x)
def ziA (lt:α→α→Bool) (l:List α):List α:=l.foldl (zqn lt) []
variable {lt:α→α→Bool}
theorem zle (l:List α) (x:α):ziA lt (l++[x])=zqn lt (ziA lt l) x:=by simp[ziA]
omit [DecidableEq α] in
theorem TLt.asymm (T:TLt lt) {a b:α} (h:lt a b=true):lt b a=false:=by
 cases e:lt b a with
 | false=>rfl
 | true=>have:=T.trans _ _ _ h e;rw[T.irrefl] at this;cases this
omit [DecidableEq α] in
theorem zAg {p:α→Bool} {l:List α} {k:Nat} (h1:∀ j y,j<k→l[j]?=some y→p y=true) (h2:∀ y,l[k]?=some y→p y=false):l.takeWhile p=l.take k∧l.dropWhile p=l.drop k:=by
 induction l generalizing k with
 | nil=>simp
 | cons a l ih=>
  cases k with
  | zero=>
   have:=h2 a (by simp);simp[this]
  | succ k=>
   have h0:=h1 0 a zW (by simp);obtain ⟨e1,e2⟩:=ih (k:=k) (fun j y hj hy=>h1 (j+1) y zW (by simpa using hy)) (fun y hy=>h2 y (by simpa using hy));simp[h0,e1,e2]
theorem zgk {l:List α} {x:α} {k:Nat} (h1:∀ j y,j<k→l[j]?=some y→lt y x=true) (h2:∀ y,l[k]?=some y→lt y x=false) (h3:l[k]?≠some x):zqn lt l x=l.take k++[x]++l.drop k:=by
 obtain ⟨e1,e2⟩:=zAg (p:=fun a=>lt a x) h1 h2;rw[zqn,e1,e2,zam];rw[List.head?_drop];exact h3
theorem zjR {l:List α} {x:α} {k:Nat} (h1:∀ j y,j<k→l[j]?=some y→lt y x=true) (h2:∀ y,l[k]?=some y→lt y x=false) (h3:l[k]?=some x):zqn lt l x=l:=by
 obtain ⟨e1,e2⟩:=zAg (p:=fun a=>lt a x) h1 h2;rw[zqn,e2,zab];rw[List.head?_drop];exact h3
theorem zDL {l:List α} {x y:α}:y∈zqn lt l x↔y∈l∨y=x:=by
 unfold zqn;split
 ·rename_i h;have:x∈l.dropWhile fun a=>lt a x:=List.mem_of_mem_head? h;have hx:x∈l:=(List.dropWhile_sublist _).subset this;constructor
  ·exact .inl
  ·rintro (h|rfl)
   ·exact h
   ·exact hx
 have e:l=(l.takeWhile fun a=>lt a x)++(l.dropWhile fun a=>lt a x):=(List.takeWhile_append_dropWhile).symm;have:y∈l↔y∈(l.takeWhile fun a=>lt a x)∨y∈(l.dropWhile fun a=>lt a x):=by
  rw[← zcq,← e]
 rw[this];simp only[zcq,zgc];constructor
 ·rintro ((h|h)|h)
  ·exact .inl (.inl h)
  ·exact .inr h
  ·exact .inl (.inr h)
 rintro ((h|h)|h)
 ·exact .inl (.inl h)
 ·exact .inr h
 exact .inl (.inr h)
theorem zzv (T:TLt lt) {l:List α} {x:α} (hs:l.Pairwise fun a b=>lt a b=true):(zqn lt l x).Pairwise fun a b=>lt a b=true:=by
 unfold zqn;split
 ·exact hs
 rename_i hne;have e:l=(l.takeWhile fun a=>lt a x)++(l.dropWhile fun a=>lt a x):=(List.takeWhile_append_dropWhile).symm;have hs':=hs;rw[e] at hs';obtain ⟨s1,s2,s3⟩:=zga.1 hs';have ht:∀ a∈l.takeWhile (fun a=>lt a x),lt a x=true:=by
  intro a ha;have:=List.all_takeWhile (l:=l) (p:=fun a=>lt a x);exact zal.1 this a ha
 have hd:∀ b∈l.dropWhile (fun a=>lt a x),lt x b=true:=by
  cases hD:l.dropWhile (fun a=>lt a x) with
  | nil=>simp
  | cons c Dw=>
   have hc:¬ lt c x=true:=by
    have:=List.head?_dropWhile_not (fun a=>lt a x) l;rw[hD] at this;simpa using this
   have hcx:c≠x:=by
    intro q;rw[hD,q] at hne;exact hne rfl
   have h1:lt x c=true:=(T.total x c (Ne.symm hcx)).resolve_right hc;intro b hb
   rcases zaV.1 hb with rfl|hb
   ·exact h1
   ·rw[hD] at s2;exact T.trans _ _ _ h1 ((List.pairwise_cons.1 s2).1 b hb)
 rw[zaB];refine zga.2 ⟨s1,zga.2 ⟨by simp,s2,?_⟩,?_⟩
 ·intro a ha b hb;simp at ha;subst ha;exact hd b hb
 intro a ha b hb
 rcases zcq.1 hb with hb|hb
 ·simp at hb;subst hb;exact ht a ha
 exact s3 a ha b hb
theorem zAr (T:TLt lt) (l:List α):(ziA lt l).Pairwise fun a b=>lt a b=true:=by
 induction l using zkb with
 | nil=>exact List.Pairwise.nil
 | snoc l d ih=>rw[zle];exact zzv T ih
theorem zAs {l:List α} {y:α}:y∈ziA lt l↔y∈l:=by
 induction l using zkb with
 | nil=>simp[ziA]
 | snoc l d ih=>rw[zle,zDL,ih];simp
omit [DecidableEq α] in
theorem zDg (T:TLt lt) {a b:List α} (ha:a.Pairwise fun x y=>lt x y=true) (hb:b.Pairwise fun x y=>lt x y=true) (h:∀ x,x∈a↔x∈b):a=b:=by
 have na:a.Nodup:=ha.imp (fun h e=>by subst e;rw[T.irrefl] at h;cases h);have nb:b.Nodup:=hb.imp (fun h e=>by subst e;rw[T.irrefl] at h;cases h);refine List.Perm.eq_of_pairwise (le:=fun x y=>lt x y=true) (fun x y _ _ h1 h2=>by have:=T.asymm h1;rw[h2] at this;cases this) ha hb ((List.perm_ext_iff_of_nodup na nb).2 h)
theorem zom (T:TLt lt) (l:List α):(ziA lt l).length≤l.length:=by
 induction l using zkb with
 | nil=>simp[ziA]
 | snoc l d ih=>
  rw[zle,zqn];split
  ·simp;omega
  ·have e:=zcE List.length (List.takeWhile_append_dropWhile (p:=fun a=>lt a d) (l:=ziA lt l));simp only[zj] at e ⊢;simp only[zy,zC];omega
theorem zun {l:List α}:∀ {y:α},y∈zgG l↔y∈l:=by
 induction l using zkb with
 | nil=>simp[zgG]
 | snoc l d ih=>
  intro y;rw[zoh,zos];split
  ·rename_i h;rw[ih];have:d∈zgG l:=zii h;rw[ih] at this;constructor
   ·intro h;simp[h]
   ·intro h
    rcases zcq.1 h with h|h
    ·exact h
    ·simp at h;subst h;exact this
  ·simp[ih]
theorem zvZ (T:TLt lt) {l:List α} (hs:l.Pairwise fun a b=>lt b a=false):(zgG l).Pairwise fun a b=>lt a b=true:=by
 induction l using zkb with
 | nil=>exact List.Pairwise.nil
 | snoc l d ih=>
  obtain ⟨s1,_,s3⟩:=zga.1 hs;rw[zoh,zos];split
  ·exact ih s1
  ·rename_i hne;refine zga.2 ⟨ih s1,by simp,fun a ha b hb=>?_⟩;simp at hb;subst hb;have hal:a∈l:=zun.1 ha;have h1:=s3 a hal b (by simp)
   by_cases e:a=b
   ·exfalso;subst e;rw[zsX] at hne;cases hL:l.getLast? with
    | none=>rw[List.getLast?_eq_none_iff] at hL;subst hL;cases hal
    | some z=>
     rw[hL] at hne;have hz:z∈l:=zii hL;have h2:=s3 z hz a (by simp)
     -- a comes ahead of z, or is it
     have h3:lt z a=false:=by
      obtain ⟨i,hi⟩:=k_List_mem_iff_getElem_.1 hal;rw[zgX] at hL;obtain ⟨i1,i2⟩:=k_List_getElem__eq_some_iff.1 hi;obtain ⟨z1,z2⟩:=k_List_getElem__eq_some_iff.1 hL
      rcases zcO i (l.length-1) with h|h
      ·have:=zdE.1 s1 i (l.length-1) i1 z1 h;rw[i2,z2] at this;exact this
      ·have:i=l.length-1:=by omega
       subst this;rw[i2] at z2;subst z2;exact T.irrefl _
     by_cases e2:z=a
     ·exact hne (by rw[e2])
     ·rcases T.total z a e2 with q|q
      ·rw[q] at h3;cases h3
      ·rw[q] at h2;cases h2
   ·rcases T.total a b e with q|q
    ·exact q
    ·rw[q] at h1;cases h1
theorem zsV (T:TLt lt) {xs ys:List α} (hp:ys.Perm xs) (hs:ys.Pairwise fun a b=>lt b a=false):zgG ys=ziA lt xs:=
 zDg T (zvZ T hs) (zAr T xs) (fun x=>by rw[zun,zAs];exact hp.mem_iff)
end
theorem ztf (a b:Str):sLt a b=decide (a<b):=Go.Proofs.bytesLess_eq a b
theorem zzy:∀ (a b:Str),decide (zqP a b<0)=sLt a b
 | [],[]=>rfl
 | [],_::_=>rfl
 | _::_,[]=>rfl
 | x::a,y::b=>by
  have ih:=zzy a b;simp only[zqP,sLt,Lib.compareBytes,Op.bytesLess] at ih ⊢
  by_cases h1:x<y
  ·simp[h1]
  ·by_cases h2:y<x
   ·have:¬ x=y:=by rintro rfl;exact h1 h2
    simp[h1,h2,this]
   ·have:x=y:=by
     apply UInt8.le_antisymm
     ·exact UInt8.not_lt.1 h2
     ·exact UInt8.not_lt.1 h1
    subst this;have h1':¬ x<x:=h1;simp only[h1',if_false,beq_self_eq_true,zdQ,decide_false,zes];exact ih
theorem zwk:∀ (a b:Str),zqP a b=0↔a=b
 | [],[]=>by simp[zqP,Lib.compareBytes]
 | [],_::_=>by simp[zqP,Lib.compareBytes]
 | _::_,[]=>by simp[zqP,Lib.compareBytes]
 | x::a,y::b=>by
  have ih:=zwk a b;simp only[zqP,Lib.compareBytes] at ih ⊢
  by_cases h1:x<y
  ·have:¬ x=y:=by rintro rfl;exact absurd h1 (UInt8.lt_irrefl _)
   simp[h1,this]
  ·by_cases h2:y<x
   ·have:¬ x=y:=by rintro rfl;exact h1 h2
    simp[h1,h2,this]
   ·have:x=y:=by
     apply UInt8.le_antisymm
     ·exact UInt8.not_lt.1 h2
     ·exact UInt8.not_lt.1 h1
    subst this;simp[h1,ih]
theorem zxl:∀ (a b:Str),-1≤zqP a b∧zqP a b≤1
 | [],[]=>by simp[zqP,Lib.compareBytes]
 | [],_::_=>by simp[zqP,Lib.compareBytes]
 | _::_,[]=>by simp[zqP,Lib.compareBytes]
 | x::a,y::b=>by
  have ih:=zxl a b;simp only[zqP,Lib.compareBytes] at ih ⊢
  repeat' split
  all_goals omega
theorem ztS:TLt sLt:=by
 refine ⟨fun a=>?_,fun a b c=>?_,fun a b h=>?_⟩
 ·rw[ztf];simp[List.lt_irrefl]
 ·rw[ztf,ztf,ztf];simp only[zX];exact fun h1 h2=>List.lt_trans h1 h2
 rw[ztf,ztf];simp only[zX]
 by_cases h1:a<b
 ·exact .inl h1
 by_cases h2:b<a
 ·exact .inr h2
 exact absurd (List.le_antisymm (List.not_lt.1 h2) (List.not_lt.1 h1)) h
theorem znx:TLt zgI:=by
 refine ⟨fun a=>?_,fun a b c h1 h2=>?_,fun a b h=>?_⟩
 ·simp[zgI,ztS.irrefl]
 ·simp only[zgI,zgd,zK,zX] at *
  rcases h1 with h1|⟨e1,h1⟩
  ·rcases h2 with h2|⟨e2,h2⟩
   ·exact .inl (ztS.trans _ _ _ h1 h2)
   ·exact .inl (e2▸h1)
  ·rcases h2 with h2|⟨e2,h2⟩
   ·exact .inl (by rw[e1];exact h2)
   ·exact .inr ⟨e1.trans e2,by omega⟩
 simp only[zgI,zgd,zK,zX]
 rcases a with ⟨s,m⟩;rcases b with ⟨s',m'⟩
 by_cases e:s=s'
 ·subst e;have hm:m≠m':=fun q=>h (by rw[q])
  rcases Int.lt_or_gt_of_ne hm with q|q
  ·exact .inl (.inr ⟨rfl,q⟩)
  ·exact .inr (.inr ⟨rfl,q⟩)
 rcases ztS.total s s' e with q|q
 ·exact .inl (.inl q)
 exact .inr (.inl q)
theorem zxm (a b:Head):decide (zpN a b<0)=zgI a b:=by
 unfold zpN zgI;rw[← zzy]
 by_cases h:zqP a.stem b.stem=0
 ·have e:=(zwk _ _).1 h;have h':¬ zqP a.stem b.stem≠0:=by simp[h]
  simp only[zam h',h,e];have e2:zqP b.stem b.stem=0:=(zwk _ _).2 rfl;have e3:sLt b.stem b.stem=false:=ztS.irrefl _;rw[← zzy] at e3;rw[e3];simp only[decide_true,zdQ,zes,zhT];omega
 have e:¬ a.stem=b.stem:=fun q=>h ((zwk _ _).2 q);simp only[zab h,e];simp
theorem zEl:Go.Sort.SWO (Go.Proofs.ltOf zpN):=by
 have e:Go.Proofs.ltOf zpN=zgI:=by funext a b;exact zxm a b
 rw[e];refine ⟨znx.irrefl,znx.trans,fun a b c h1 h2=>?_⟩;cases h:zgI a c with
 | false=>rfl
 | true=>
  by_cases e1:a=b
  ·subst e1;rw[h] at h2;cases h2
  ·rcases znx.total a b e1 with q|q
   ·rw[q] at h1;cases h1
   ·have:=znx.trans _ _ _ q h;rw[this] at h2;cases h2
def zqN (t:Text) (x:Lexicon):List Head:=if zcZ t x=0 then ziA zgI (zeB t x) else []
def zds (t:Text) (x:Lexicon) (hd:Head):List Place:=(zbJ t).filter fun p=>decide (zkI t x p=hd)
def ziD (t:Text) (x:Lexicon) (hd:Head):Int:=if zcZ t x=0 then (if zlo hd=true then (if zds t x hd=[] then 6 else 0) else 2) else zcZ t x
def zki (t:Text) (x:Lexicon) (hd:Head):List Place:=if ziD t x hd=0 then zds t x hd else []
def zig (t:Text) (x:Lexicon) (hd:Head):List Entry:=if ziD t x hd=0 then (zhN t x).filter fun y=>!decide (y.head≠hd) else []
def zrL (t:Text) (x:Lexicon) (hd:Head):List Str:=if ziD t x hd=0 then ziA sLt ((zds t x hd).map (zbY t)) else []
theorem zqC (t:Text) (x:Lexicon) (hd:Head):((zhN t x).filter fun y=>!decide (y.head≠hd))=(zds t x hd).map (zlZ t x):=by
 rw[zhN,zds,List.filter_map];congr 1;apply zfo;intro p _;simp only[zlZ,Function.comp]
 by_cases e:zkI t x p=hd <;> simp[e]
theorem zrP {t:Text} (ht:zcz t=true) (x:Lexicon):(zhN t x).length≤600:=by rw[zhN,zaa];exact zgi ht
theorem zry {t:Text} {x:Lexicon} {hd:Head} (h:ziD t x hd=0):zcZ t x=0:=by
 unfold ziD at h;split at h
 ·assumption
 rename_i q;exact absurd h q
theorem zBJ (l:List Str):zgG (l.mergeSort fun a b=>decide (a≤b))=ziA sLt l:=by
 refine zsV ztS (List.mergeSort_perm _ _) ?_;have h:=List.pairwise_mergeSort (le:=fun a b:Str=>decide (a≤b)) (by intro a b c h1 h2;simp only[zX] at *;exact List.le_trans h1 h2) (by intro a b;simp only[zgd,zX];exact List.le_total a b) l;refine h.imp fun h=>?_;rw[ztf];simp only[zX] at h;simpa using h
def zHY (x:Lexicon) (d:Decision):Lexicon:={ x with decisions:=x.decisions++[d] }
def zIl (l:List Decision):List Decision:=l.mergeSort fun a b=>decide (a.number≤b.number)
def zIm (x:Lexicon) (d:Decision):Lexicon:={ x with decisions:=zIl (x.decisions++[d]) }
def zIb (t:Text) (x:Lexicon) (d:Decision):Int:=if zcZ t x≠0 then zcZ t x else if x.decisions.length=20 then 9 else if zcZ t (zHY x d)≠0 then 41 else 0
def zAd:Lexicon:=⟨[],[]⟩
def zIn (t:Text) (x:Lexicon) (d:Decision):Lexicon:=if zIb t x d=0 then zIm x d else zAd
end Go.Pk

namespace Go.Pk
open Go Go.RowKit
end Go.Pk

namespace Go.Pk
open Go Go.RowKit
variable {x:Lexicon} {p:Place} {wd:Str}
def zDb (x:Lexicon) (p:Place) (wd:Str):Decision:=
 if (zcB ((x.decisions.filter (zib x)).filter fun d=>zij d p wd)).number=0 then { zhV with to:=⟨((zgT x.rules 4 wd).getLast?).getD [],0⟩ } else zcB ((x.decisions.filter (zib x)).filter fun d=>zij d p wd)
theorem zAo (x:Lexicon):((zkq x).map (·.2)).Perm (x.decisions.filter (zib x)):=by
 have:(zkq x).map (·.2)=(zhO x).filter (zib x):=by simp[zkq,zlD,zhf,Function.comp_def]
 rw[this];exact (ziH x).filter _
theorem zCv (h:OkD x):zhz x=zDb x:=by
 funext p wd;have hp:(zvg x p wd).Perm ((x.decisions.filter (zib x)).filter fun d=>zij d p wd):=(zAo x).filter _;have e:zcB (zvg x p wd)=zcB ((x.decisions.filter (zib x)).filter fun d=>zij d p wd):=by
  refine zsa hp ?_ ?_
  ·intro y hy;exact (h.2 _ (zcl.1 (zcl.1 hy).1).1).1
  ·exact ((zdC.trans zdC).map _).nodup h.1
 rw[zhz,zDb,e]
theorem zDF {r:Rule} {w s:Str} (hr:zmp r=true) (hw:zgA w=true) (h:zlt r w=some s):zgA s=true:=by
 unfold zlt at h;split at h
 ·rename_i h1;cases h;simp only[zmp,zK,zgM,inB,zX] at hr;simp only[zgA,zgM,inB,zK,zX,zal] at hw ⊢;refine ⟨?_,?_⟩
  ·intro c hc
   rcases zcq.1 hc with hc|hc
   ·exact hw.1 c (List.mem_of_mem_take hc)
   ·exact zal.1 hr.1.1.2.1 c hc
  ·rw[zj,zt];have:=hr.2;omega
 cases h
theorem zvv {rs:List Rule} (hr:∀ r∈rs,zmp r=true):∀ (n:Nat) (w:Str),zgA w=true→∀ s∈zgT rs n w,zgA s=true
 | 0,w,hw,s,hs=>by simp[zgT] at hs;subst hs;exact hw
 | n+1,w,hw,s,hs=>by
  simp only[zgT] at hs;split at hs
  ·simp at hs;subst hs;exact hw
  ·rename_i u hu
   rcases zaV.1 hs with rfl|hs
   ·exact hw
   ·obtain ⟨r,hr1,hr2⟩:=List.exists_of_findSome?_eq_some hu;exact zvv hr n u (zDF (hr r hr1) hw hr2) s hs
theorem zCc {t:Text} (h:zcZ t x=0):∀ r∈x.rules,zmp r=true:=by
 have h1:=(ztk h).2;simp only[zfA,zK,zal] at h1;exact h1.1.1.2
def zmH (x:Lexicon) (p:Place) (wd:Str):List Decision:=(x.decisions.filter (zib x)).filter fun d=>zij d p wd
theorem countV_mem {e:Decision}:e∈zmH x p wd↔e∈x.decisions∧zib x e=true∧zij e p wd=true:=by
 simp only[zmH,zcl];constructor
 ·rintro ⟨⟨a,b⟩,c⟩;exact ⟨a,b,c⟩
 rintro ⟨a,b,c⟩;exact ⟨⟨a,b⟩,c⟩
theorem zDa (h:zmH x p wd=[]):zDb x p wd={ zhV with to:=⟨((zgT x.rules 4 wd).getLast?).getD [],0⟩ }:=by
 simp only[zmH] at h;rw[zDb,h,zab (show (zcB []).number=0 from rfl)]
theorem zCZ (hx:OkD x) (h:zmH x p wd≠[]):zDb x p wd=zcB (zmH x p wd)∧zcB (zmH x p wd)∈zmH x p wd∧∀ y∈zmH x p wd,y≠zcB (zmH x p wd)→ztl y (zcB (zmH x p wd)):=by
 have hp:∀ z∈zmH x p wd,1≤z.number:=fun z hz=>(hx.2 _ (countV_mem.1 hz).1).1;have hn:((zmH x p wd).map (·.number)).Nodup:=((zdC.trans zdC).map _).nodup hx.1;have hb:=znY hp h;refine ⟨?_,hb.2,zsb hp hn⟩;have h1:=hb.1;simp only[zmH] at h1 ⊢;rw[zDb,zam zW]
theorem zEb {d:Decision} (h:d.kind=4) (p:Place) (wd:Str):zij d p wd=false:=by simp[zij,h]
section
variable {t:Text} {x:Lexicon} {d:Decision} {most:Int}
end
end Go.Pk

namespace Go.Pk
open Go Go.RowKit
end Go.Pk

namespace Go.Pk
open Go Go.RowKit
theorem zBB {t:Text} {p:Place} (ht:zcz t=true) (hp:zeb t p=true):zgA (zbY t p)=true:=by
 obtain ⟨c,ln,wd,_,hc,_,hl,_,hw,e⟩:=zub hp;rw[e];simp only[zcz,zK,zal] at ht;have h1:=ht.1.2 _ (zD hc);simp only[zeC,zK,zal] at h1;have h2:=h1.2 _ (zD hl);simp only[zmh,zK,zal] at h2;exact h2.2 _ (zD hw)
theorem zkZ {α:Type} {q:α→Bool} {l:List α} {k:Nat} {a:α} (h:l[k]?=some a):(l.take (k+1)).any q=((l.take k).any q || q a):=by rw[zbg h,List.any_append];simp
def zCE (l:List Decision):Int:=l.foldl (fun a d=>max a d.number) 0
section
variable {t:Text} {x:Lexicon} {d:Decision}
end
end Go.Pk

namespace Go.Pk
open Go Go.RowKit
end Go.Pk

namespace Go.Pk
open Go Go.RowKit
variable {x:Lexicon} {h:Head} {p:Place} {n:Nat} {c:Copy} {α:Type}
theorem under_mem {t:Text}:p∈zds t x h↔p∈zbJ t∧zkI t x p=h:=by rw[zds,zcl,zX]
theorem zDO {t:Text} (h:zcZ t x=0) (hp:zeb t p=true):zlo (zkI t x p)=true:=by
 have hx:=zwN h;have ht:=zei h;rw[zkI]
 by_cases hc:zmH x p (zbY t p)=[]
 ·rw[zCv hx,zDa hc];have hw:=zvv (zCc h) 4 (zbY t p) (zBB ht hp) (((zgT x.rules 4 (zbY t p)).getLast?).getD []) (by
   cases e:(zgT x.rules 4 (zbY t p)).getLast? with
   | none=>exact absurd (List.getLast?_eq_none_iff.1 e) (znQ x.rules 4 (zbY t p))
   | some s=>exact zii e)
  simp[zlo,hw,inB]
 have hb:=(zCZ hx hc);rw[zCv hx,hb.1];obtain ⟨h1,_,h3⟩:=countV_mem.1 hb.2.1;have q:=zrH h _ h1;simp only[zbE,zK] at q;have q2:=q.2;split at q2
 ·simp only[zK] at q2;exact q2.1.2
 split at q2
 ·simp only[zK] at q2;exact q2.1.2
 split at q2
 ·simp only[zK] at q2;exact q2.1.2
 split at q2
 ·rename_i hk;rw[zEb hk] at h3;cases h3
 cases q2
theorem zAi {t:Text} (hx:zcZ t x=0) (hh:h∈ziA zgI (zeB t x)):ziD t x h=0∧zds t x h≠[]:=by
 obtain ⟨p,hp,rfl⟩:=zbk.1 (zAs.1 hh);have hne:zds t x (zkI t x p)≠[]:=List.ne_nil_of_mem (under_mem.2 ⟨hp,rfl⟩);exact ⟨by rw[ziD,zab hx,zab (zDO hx (zlC hp)),zam hne],hne⟩
theorem zpk {α:Type} (f:Nat→List α) {i:Nat}:∀ {Nw:Nat},i<Nw→∃ R,(List.range Nw).flatMap f=(List.range i).flatMap f++(f i++R)
 | Nw+1,h=>by
  rw[zeR]
  by_cases e:i=Nw
  ·subst e;exact ⟨[],by simp⟩
  ·obtain ⟨R,hR⟩:=zpk f (show i<Nw by omega);exact ⟨R++f Nw,by rw[hR];simp⟩
theorem zuV {α:Type} (g:Nat→α) {m:Nat}:∀ {Nw:Nat},m<Nw→∃ R,(List.range Nw).map g=(List.range m).map g++g m::R
 | Nw+1,h=>by
  rw[zdb,zaz]
  by_cases e:m=Nw
  ·subst e;exact ⟨[],rfl⟩
  ·obtain ⟨R,hR⟩:=zuV g (show m<Nw by omega);exact ⟨R++[g Nw],by rw[hR];simp⟩
theorem zDA {t:Text} {i m: Nat} {c:Chapter} {ln:List Str} (hc:t.chapters[i]?=some c) (hl:c.lines[n]?=some ln) (hm:m<ln.length):
  (zbJ t)[((List.range i).flatMap (zkV t)++(List.range n).flatMap (zlE t i)++(List.range m).map (mkP i n)).length]?=some (mkP i n m):=by
 obtain ⟨R1,e1⟩:=zpk (zkV t) (k_List_getElem__eq_some_iff.1 hc).1;obtain ⟨R2,e2⟩:=zpk (zlE t i) (show n<(zdt t i).length by rw[zgW hc];exact (k_List_getElem__eq_some_iff.1 hl).1);obtain ⟨R3,e3⟩:=zuV (mkP i n) (show m<(ziz t i n).length by rw[zhp hc hl];exact hm);have e:zbJ t=((List.range i).flatMap (zkV t)++(List.range n).flatMap (zlE t i)++(List.range m).map (mkP i n))++(mkP i n m::(R3++(R2++R1))):=by
  rw[zbJ,e1,show zkV t i=(List.range n).flatMap (zlE t i)++(zlE t i n++R2) from e2,show zlE t i n=(List.range m).map (mkP i n)++mkP i n m::R3 from e3];simp[zaB]
 rw[e,zdg (zbR _),Nat.sub_self];rfl
theorem zjF {l pre:List α} {x:α} (h:pre=l.take pre.length) (hx:l[pre.length]?=some x):pre++[x]=l.take (pre++[x]).length:=by
 rw[zj,zy,zC,zdv,zbg hx,← h]
def zGc {α:Type} (l:List α):Option (List α):=if l.isEmpty then none else some l
theorem zDD (l:List α):(zGc l).getD []=l:=by
 cases l with
 | nil=>rfl
 | cons a l=>rfl
def zxN {κ α:Type} [DecidableEq κ] (L:Lay α) (h:Heap) (m:List (κ×Value)) (f:κ→List α):Prop:=∀ k,(zcI m k=none∧f k=[])∨∃ v,zcI m k=some v∧f k≠[]∧Sl L h v (f k)
theorem zxN.up {κ α:Type} [DecidableEq κ] {L:Lay α} {h h':Heap} {m:List (κ×Value)} {f:κ→List α} (a:zxN L h m f) (l:Le h h'):zxN L h' m f:=by
 intro k
 rcases a k with b|⟨v,b1,b2,b3⟩
 ·exact .inl b
 exact .inr ⟨v,b1,b2,b3.up l⟩
theorem zxN.get {κ: Type} [DecidableEq κ] {L:Lay α} {h:Heap} {m:List (κ×Value)} {f:κ→List α} (a:zxN L h m f) (k:κ):Sl L h ((zcI m k).getD (.slice none 0 0)) (f k):=by
 rcases a k with ⟨b1,b2⟩|⟨v,b1,_,b3⟩
 ·rw[b1,b2];exact Sl.nil L h
 rw[b1];exact b3
section
variable {κ:Type} [DecidableEq κ]
def zrl (l:List κ):List (κ×Bool):=l.foldl (fun m w=>ziL m w true) []
theorem zoT (l:List κ) (w:κ):zrl (l++[w])=ziL (zrl l) w true:=by rw[zrl,zel];rfl
theorem zuW (w:κ) {ws:List κ}:zcI (zrl ws) w=if w∈ws then some true else none:=by
 have key:∀ (l:List κ) (m:List (κ×Bool)),zcI (l.foldl (fun m w=>ziL m w true) m) w=if w∈l then some true else zcI m w:=by
  intro l
  induction l with
  | nil=>intro m;simp
  | cons a l ih=>
   intro m;rw[zgC,ih,zio]
   by_cases h1:w∈l
   ·simp[h1]
   ·by_cases h2:w=a <;> simp[h1,h2]
 rw[zrl,key];rfl
end
def zie (l:List Str) (w:Nat):Str:=(l[w]?).getD []
def zoz (kind:Int) (own put:Str):List Str:=if kind=1 then [] else if kind=2 then [put,own] else [put]
def zkj (kind:Int) (own put:Str):Bool:=if kind=1 then decide (put=[]) else if kind=2 then zgA put else zgA put && decide (put≠own)
def ztV (s:List Str) (r:Reading):List Str:=s.dropLast++zoz r.kind (s.getLast?.getD []) r.word
def zeA (c:Copy) (p:Place):List Reading:=c.readings.filter fun r=>decide (r.at_=p)
def zkd (rs:List Reading) (own:Str):List Str:=rs.foldl ztV [own]
def zyF (c:Copy) (k n:Nat) (l:List Str) (w:Nat):List Str:=zkd (zeA c (mkP k n w)) (zie l w)
def zoO (c:Copy) (k n:Nat) (l:List Str) (m:Nat):List Str:=(List.range m).flatMap (zyF c k n l)
def zyH (c:Copy) (k n:Nat) (l:List Str):List Str:=(zoO c k n l (l.length+1)).filter fun s=>decide (s≠[])
def zpe (c:Copy) (k:Nat) (ls:List (List Str)) (n:Nat):List (List Str):=(List.range n).map fun i=>zyH c k i ((ls[i]?).getD [])
def zAD (c:Copy) (k:Nat) (x:Chapter):Chapter:=⟨x.id,zpe c k x.lines x.lines.length⟩
def zpX (t:Text) (c:Copy) (n:Nat):List Chapter:=(List.range n).map fun k=>zAD c k ((t.chapters[k]?).getD ⟨0,[]⟩)
def zrh (t:Text) (c:Copy):Text:=⟨zpX t c t.chapters.length⟩
def zns (t:Text) (c:Copy) (i:Nat):Bool:=match c.readings[i]? with
 | some r=>(match zdw t r.at_ with
  | some l=>inB r.kind 1 3 && inB r.at_.word 0 ((l.length:Int)-1+if r.kind=2 then 1 else 0) && zkj r.kind (zie l r.at_.word.toNat) r.word && decide (l≠[])
  | none=>false) && (match i with|0=>true|i+1=>match c.readings[i]? with|some q=>decide (zmi q.at_ r.at_<0) || (decide (zmi q.at_ r.at_=0) && decide (q.kind=2))|none=>true)
 | none=>true
def zmY (t:Text) (c:Copy):Bool:=inB c.id 0 9999 && decide (c.readings.length≤20) && (List.range c.readings.length).all (zns t c) && (zrh t c).chapters.all fun x=>x.lines.all fun l=>inB l.length 1 10
theorem zAB {k: Nat} {ls:List (List Str)} {l:List Str} (h:ls[n]?=some l):zpe c k ls (n+1)=zpe c k ls n++[zyH c k n l]:=by
 simp[zpe,zdb,h]
theorem zAC {t:Text} {x:Chapter} (h:t.chapters[n]?=some x):zpX t c (n+1)=zpX t c n++[zAD c n x]:=by
 simp[zpX,zdb,h]
theorem ztW (c:Copy) (k n:Nat) (l:List Str) (m:Nat):zoO c k n l (m+1)=zoO c k n l m++zyF c k n l m:=by
 simp[zoO,zdb]
theorem zmB (rs:List Reading) (r:Reading) (own:Str):zkd (rs++[r]) own=ztV (zkd rs own) r:=by simp[zkd,zel]
def zCV:Question:=⟨zjN,[]⟩
def zDN (hs:List Head) (k:Nat):Bool:=match hs[k]? with|some h=>zlo h && (decide (k=0) || zgI ((hs[k-1]?).getD zkS) h)|none=>true
def zGg (hs:List Head):Bool:=(List.range hs.length).all (zDN hs)
def zFZ (p:Poll) (i:Nat):Bool:=match p.questions[i]? with
 | some q=>zeb p.text q.at_ && (decide (i=0) || zge ((p.questions[i-1]?).getD zCV).at_ q.at_) && inB q.heads.length 2 3 && zGg q.heads
 | none=>true
def zFQ (p:Poll) (v:Voter) (k:Nat):Bool:=match v.votes[k]?,p.questions[k]? with|some n,some q=>inB n (-1) ((q.heads.length:Int)-1)|_,_=>true
def zFP (p:Poll) (v:Voter):Bool:=(List.range v.votes.length).all (zFQ p v)
def zFR (p:Poll) (v:Voter):Bool:=inB v.id 0 9999 && inB v.wrong 0 6 && decide (v.votes.length=p.questions.length) && zFP p v
def zFS (p:Poll) (i:Nat):Bool:=match p.voters[i]? with|some v=>zFR p v && (p.voters.take i).all fun u=>decide (u.id≠v.id)|none=>true
def zHS (p:Poll):Bool:=decide (p.questions.length≤6) && decide (p.voters.length≤6) && (List.range p.questions.length).all (zFZ p) && (List.range p.voters.length).all (zFS p)
def zzA (p:Poll):Int:=if zcZ p.text p.lexicon≠0 then zcZ p.text p.lexicon else if zHS p=true then 0 else 70
def zFO (v:Voter) (hs:List Int) (k:Nat):Bool:=match v.votes[k]?,hs[k]? with|some a,some b=>decide (0≤a) && decide (a≠b)|_,_=>false
def zEh (v:Voter) (hs:List Int):Nat:=((List.range hs.length).filter (zFO v hs)).length
def zHZ (p:Poll) (hs:List Int) (k:Nat):Bool:=match hs[k]?,p.questions[k]? with|some n,some q=>inB n 0 ((q.heads.length:Int)-1)|_,_=>true
def zHL (p:Poll) (hs:List Int):Bool:=decide (hs.length=p.questions.length) && (List.range hs.length).all (zHZ p hs) && p.voters.all fun v=>decide ((zEh v hs:Int)≤v.wrong)
def zGU:List Nat→List (List Int)
 | []=>[[]]
 | n::ns=>(List.range n).flatMap fun (h:Nat)=>(zGU ns).map fun t=>(h:Int)::t
def zHf (p:Poll):List Nat:=p.questions.map (·.heads.length)
def zoM (p:Poll):List (List Int):=(zGU (zHf p)).filter (zHL p)
def zCn (p:Poll) (so:Bool):Int:=if zzA p≠0 then zzA p else if so=false then 2 else if zoM p=[] then 8 else 0
end Go.Pk

namespace Go.Pk
open Go Go.RowKit
end Go.Pk

namespace Go.Pk
open Go Go.RowKit
variable {n:Nat} {h:Heap} {T:TypeId} {O:List (Nat×Obj)}
def ltL:List Int→List Int→Bool
 | a::s,b::t=>if a=b then ltL s t else decide (a<b)
 | _,_=>false
def zGv (a b:List Int):Bool:=if a.length≠b.length then decide (a.length<b.length) else ltL a b
def zHD (a b l:List Int):Bool:=l.all fun k=>decide (a[k.toNat]?=b[k.toNat]?)
def zFU (ts:List (List Int)) (l:List Int) (i:Nat):Bool:=match ts[i]? with|some t=>(ts.take i).all fun u=>!zHD t u l|none=>true
def zHd (ts:List (List Int)) (l:List Int):Bool:=(List.range ts.length).all (zFU ts l)
def zwR (s:Int) (n:Nat):List Int:=((List.range n).filter fun (i:Nat)=>decide (zIj s (i:Int)=1)).map fun (i:Nat)=>(i:Int)
def zHB (ts:List (List Int)) (n:Nat):Nat→Option (List Int)
 | 0=>none
 | k+1=>if ((match zHB ts n k with|none=>true|some b=>zGv (zwR (k:Int) n) b) && zHd ts (zwR (k:Int) n))=true then some (zwR (k:Int) n) else zHB ts n k
def zGV (p:Poll):List Int:=if zCn p true=0 then (zHB (zoM p) p.questions.length (2 ^ p.questions.length)).getD [] else []
def setAt (ts:List (List Int)) (a0:List Int) (k:Nat):Int:=match a0[k]? with|some h=>if (ts.all fun t=>decide (t[k]?=some h))=true then h else -1|none=>-1
def zIc (ts:List (List Int)) (a0:List Int):List Int:=(List.range a0.length).map (setAt ts a0)
def zAt (ts:List (List Int)):List Int:=match ts[0]? with|some a0=>zIc ts a0|none=>[]
def zAq (p:Poll):List Int:=if zCn p true=0 then zAt (zoM p) else []
section
variable {P:Program} {σ:Env} {w:World} {ty:TypeId} {pos:String} {aft:Array Edge} {g:Option (Nat×Bool)} {dst:Option Tmp}
theorem zqJ {t e:TypeId} {x ix:Operand} {i:Int} {k m: Nat} {vs us:List Value} (hx:ev σ x=.agg vs.toArray) (hi:ev σ ix=.int .i64 i) (hk:i=(k:Int)) (hlt:Nat.blt k n=true) (hu:P.underlying t=some (.array n e)) (ha:∀ w,(isAgg e).run P w=.ok true w) (hz:∀ w,(sizeOf e).run P w=.ok m w) (hv:(vs.drop (k*m)).take m=us):
  Run P σ w ⟨dst,.index t x ix,ty,pos,aft,g⟩ (.agg us.toArray) w:=by
 subst hk hv;have h1:k<n:=by rwa [Nat.blt_eq] at hlt
 simp[Run,execOp,hx,hi,Instr.index,asIntOf,run_underlying hu,h1,part,ha,hz]
end
def orL:List Int→Int
 | []=>0
 | a::l=>if a≠0 then a else orL l
theorem zud {l:List Int} {k:Nat} {a:Int} (h:l[k]?=some a):orL (l.drop k)=if a≠0 then a else orL (l.drop (k+1)):=by rw[zjS h];rfl
section
variable {p:Poll} {i k:Nat} {q q1:Question} {hd h1:Head}
end
section
variable {t:Text} {c:Copy} {x:Lexicon}
theorem zmx (h:zcz t=true):1≤t.chapters.length∧t.chapters.length≤6∧(∀ x∈t.chapters,zeC x=true)∧(t.chapters.map (·.id)).Nodup:=by
 simp only[zcz,inB,zK,zX,zal] at h;exact ⟨by omega,by omega,h.1.2,h.2⟩
theorem zwF {k: Nat} {x:Chapter} (hk:k<n) (h:t.chapters[k]?=some x):(zpX t c n)[k]?=some (zAD c k x):=by
 simp[zpX,List.getElem?_range hk,h]
theorem zHm (a b:Place):orL [zke a.chapter b.chapter,zke a.line b.line,zke a.word b.word]=zmi a b:=by
 simp only[orL,zmi,zwa]
 repeat' split
 all_goals first|rfl|simp_all
end
section
variable {κ α:Type} [DecidableEq κ] {key:α→κ} {xs:List α} {ls:List (κ×List α)}
def zCg (key:α→κ) (k:κ) (xs:List α):List α:=xs.filter fun a=>decide (key a=k)
def zxQ (key:α→κ) (xs:List α) (ls:List (κ×List α)):Prop:=∀ k,zcI ls k=zGc (zCg key k xs)
theorem zGi:zxQ key [] []:=fun _=>rfl
theorem zuj (h:zxQ key xs ls) (k:κ):(zcI ls k).getD []=zCg key k xs:=by rw[h k,zDD]
theorem zFi (h:zxQ key xs ls) (a:α):zxQ key (xs++[a]) (ziL ls (key a) ((zcI ls (key a)).getD []++[a])):=by
 intro k;rw[zio,zuj h,h k];simp only[zCg,zbc,zbo,zgD]
 by_cases e:k=key a
 ·subst e;rw[zab rfl,zab (by simp),zGc,zam (by simp)]
 rw[zam e,zam (by simpa using fun z=>e z.symm),zbL]
theorem zCJ (k:κ) (xs:List α):(zCg key k xs).length≤xs.length:=zak _ _
theorem zFj (h:zxQ key xs ls) {k:κ} {l:List α} (e:zcI ls k=some l):l.length≤xs.length:=by
 have:=zuj h k;rw[e] at this;rw[show l=zCg key k xs from this];exact zCJ k xs
theorem zGj {L:Lay α} {m:List (κ×Value)} {h' : Heap} (hi:zxQ key xs ls) (a:NM L T h m ls O) (hf:∀ k v,zcI m k=some v→Sl L h' v ((zcI ls k).getD [])):zxN L h' m fun k=>zCg key k xs:=by
 intro k;obtain ⟨es,_,a2,_⟩:=a
 rcases a2 k with ⟨b1,_,b3⟩|⟨v,o,l,b1,_,b3,_⟩
 ·refine .inl ⟨b1,?_⟩;have:=zuj hi k;rw[b3] at this;exact this.symm
 refine .inr ⟨v,b1,?_,?_⟩
 ·have e:=hi k;rw[b3,zGc] at e;split at e
  ·cases e
  ·rename_i q;intro z;exact q (by rw[show zCg key k xs=[] from z];rfl)
 have:=hf k v b1;rwa [zuj hi k] at this
theorem NM.ent {L:Lay α} {m:List (κ×Value)} {k:κ} {v z:Value} (a:NM L T h (ziL m k v) ls O):NM L T h (ziL (zoP m k z) k v) ls O:=by
 obtain ⟨es,a1,a2,a3⟩:=a;refine ⟨es,a1,fun k'=>?_,a3⟩;have e:zcI (ziL (zoP m k z) k v) k'=zcI (ziL m k v) k':=by
  rw[zio,zio,zmW]
  by_cases q:k'=k
  ·rw[zab q,zab q]
  ·rw[zam q,zam q,zam q]
 rw[e];exact a2 k'
end
structure NowOk (p:Poll) (now:List Int):Prop where
 len:now.length≤p.questions.length
 ins:∀ k,k<now.length→zHZ p now k=true
 wr:∀ v∈p.voters,(zEh v now:Int)≤v.wrong
end Go.Pk

namespace Go.Pk
open Go Go.RowKit
end Go.Pk

namespace Go.Pk
open Go Go.RowKit
end Go.Pk

namespace Go.Pk
open Go Go.RowKit
section
def zIa (x:Lexicon) (q:Question) (hd:Head):Decision:=⟨zCE x.decisions+1,3,[],q.at_,hd,0⟩
def zIf (p:Poll) (x:Lexicon) (q:Question) (h:Int):Lexicon×Int:=
 if h<0 then (x,0) else if (zIk p.text x q.at_).to=(q.heads[h.toNat]?).getD zkS then (x,0)
 else (zIn p.text x (zIa x q ((q.heads[h.toNat]?).getD zkS)),zIb p.text x (zIa x q ((q.heads[h.toNat]?).getD zkS)))
def zDZ (p:Poll) (s:List Int):Nat→Lexicon×Int
 | 0=>(p.lexicon,0)
 | k+1=>if (zDZ p s k).2=0 then (match p.questions[k]?,s[k]? with
  | some q,some h=>zIf p (zDZ p s k).1 q h
  | _,_=>zDZ p s k) else zDZ p s k
def zCN (p:Poll):Int:=if zCn p true=0 then (zDZ p (zAt (zoM p)) (zAt (zoM p)).length).2 else zCn p true
def zCM (p:Poll):Lexicon:=if zCn p true=0 then (zDZ p (zAt (zoM p)) (zAt (zoM p)).length).1 else zAd
variable {p:Poll} {s:List Int} {k:Nat} {x:Lexicon} {q:Question} {h:Int} {hd:Head}
end
end Go.Pk

namespace Go.Pk
open Go Go.RowKit
end Go.Pk

namespace Go.Pk
open Go Go.RowKit
end Go.Pk

namespace Go.Pk
open Go Go.RowKit
end Go.Pk

namespace Go.Pk
open Go Go.RowKit
structure RotE (p x:Poll):Prop where
 ck:zzA x=zzA p
 ts:zoM x=zoM p
 al:∀ so,zCn x so=zCn p so
 se:zAq x=zAq p
 ak:zGV x=zGV p
 dr:zCM x=zCM p
 de:zCN x=zCN p
end Go.Pk

namespace Go.Pk
open Go Go.RowKit
end Go.Pk

namespace Go.Pk
open Go Go.RowKit
variable {a b:Int} {c m n j i d off off':Nat} {h0 h h2 h3:Heap} {w0 w:World} {o:List (Nat×Obj)} {rest l':List Oper} {r:Reading} {p:Place} {s:Stretch} {e:Edition} {l:List Stretch} {f:Field} {x y ix:Operand} {α β G:Type} {fs:Array Field} {vs cs:List Value} {v zv:Value} {P:Program} {Q:Exit→Env→World→Prop} {σ σ':Env} {ops:Array Oper} {Kw:Env→World→Prop} {C:World→Prop} {t' T ty kt et:TypeId} {bv:Bool} {L:Lay α} {xs:List α} {fr:Nat×Nat} {a':α} {b':β} {KQ:Env→Prop} {pos:String} {aft:Array Edge} {hd:Head}
section
variable {t:Text} {x:Lexicon} {d:Decision}
end
theorem zzR {a b c:Place} (h1:zge a b=true) (h2:zge b c=true):zge a c=true:=by
 rcases a with ⟨c1,l1,w1⟩;rcases b with ⟨c2,l2,w2⟩;rcases c with ⟨c3,l3,w3⟩
 simp only[zge] at *
 by_cases q1:c1=c2 <;> by_cases q2:c2=c3 <;> by_cases q3:l1=l2 <;> by_cases q4:l2=l3 <;> by_cases q5:c1=c3 <;> by_cases q6:l1=l3 <;> simp_all <;> omega
def hdA (t:Text) (x:Lexicon) (q:Question):Head:=(zhz x q.at_ (zbY t q.at_)).to
def hdQ (q:Question) (h:Int):Head:=(q.heads[h.toNat]?).getD zkS
def zIh (p:Poll) (s:List Int) (j:Nat):Bool:=match p.questions[j]?,s[j]? with
 | some q,some h=>decide (0≤h) && decide (hdA p.text p.lexicon q≠hdQ q h)
 | _,_=>false
def zIg (p:Poll) (s:List Int) (k:Nat):Nat:=((List.range k).filter (zIh p s)).length
structure DecI (p:Poll) (s:List Int) (k:Nat) (x:Lexicon):Prop where
 ck:zcZ p.text x=0
 mono:zCE p.lexicon.decisions≤zCE x.decisions
 out:∀ (pl:Place) (w:Str),(∀ (j:Nat) (q:Question) (h:Int),j<k→p.questions[j]?=some q→s[j]?=some h→0≤h→q.at_≠pl)→zhz x pl w=zhz p.lexicon pl w
 ins:∀ (j:Nat) (q:Question) (h:Int),j<k→p.questions[j]?=some q→s[j]?=some h→0≤h→hdA p.text x q=hdQ q h∧(hdA p.text p.lexicon q=hdQ q h→zhz x q.at_ (zbY p.text q.at_)=zhz p.lexicon q.at_ (zbY p.text q.at_))∧(hdA p.text p.lexicon q≠hdQ q h→zCE p.lexicon.decisions<(zhz x q.at_ (zbY p.text q.at_)).number)
 len:x.decisions.length=p.lexicon.decisions.length+zIg p s k
theorem St.front {own:Own} {k:Nat} (st:St h0 w0 h w own) (hk:own[k]?=some o):St h0 w0 h w (o::own.set k []):=by
 obtain ⟨h1,h2⟩:=k_List_getElem__eq_some_iff.1 hk;have hp:own.flatten.Perm (o::own.set k []).flatten:=by
  have e:own=own.take k++o::own.drop (k+1):=by
   conv=>lhs;rw[← zbS k own,zcX h1,h2]
  rw[zce,zab h1]
  conv=>lhs;rw[e]
  simp only[zdf,zfQ,zcM];rw[← zaB,← zaB];exact zfe.append_right _
 exact ⟨st.le,st.new,st.sub,st.below,fun p hq=>st.mine p (hp.mem_iff.2 hq),(hp.map _).nodup_iff.1 st.nodup⟩
theorem St.backAt {rest:Own} {k:Nat} (st:St h0 w0 h w (o::rest)) (hk:rest[k]?=some []):St h0 w0 h w (rest.set k o):=by
 obtain ⟨h1,h2⟩:=k_List_getElem__eq_some_iff.1 hk;have hp:(o::rest).flatten.Perm (rest.set k o).flatten:=by
  have e:rest=rest.take k++[]::rest.drop (k+1):=by
   conv=>lhs;rw[← zbS k rest,zcX h1,h2]
  rw[zce,zab h1]
  conv=>lhs;rw[e]
  simp only[zdf,zfQ,zcM];rw[← zaB,← zaB];exact zfe.append_right _
 exact ⟨st.le,st.new,st.sub,st.below,fun p hq=>st.mine p (hp.mem_iff.2 hq),(hp.map _).nodup_iff.1 st.nodup⟩
section
variable {t:Text} {c:Copy} {k n w:Nat} {l:List Str}
theorem zCl {a b:Place}:zge a b=true↔a.chapter<b.chapter∨(a.chapter=b.chapter∧(a.line<b.line∨(a.line=b.line∧a.word<b.word))):=by
 unfold zge;split
 ·simp only[zX];omega
 split
 ·simp only[zX];omega
 simp only[zX];omega
theorem zuB {a b:Place} (h1:zge a b=false) (h2:zge b a=false):a=b:=by
 have h1':¬ zge a b=true:=by rw[h1];decide
 have h2':¬ zge b a=true:=by rw[h2];decide
 rw[zCl] at h1' h2'
 rcases a with ⟨a1,a2,a3⟩;rcases b with ⟨b1,b2,b3⟩
 simp only[Place.mk.injEq] at *;omega
theorem zHl {a b:Place} (h:zmi a b≤0):zge b a=false:=by
 have:=zof a b;rw[zdi h] at this;simpa using this.symm
def zEM (a b:Reading):Prop:=zge b.at_ a.at_=false∧(a.at_=b.at_→a.kind=2)
theorem zAy (h:zns t c (k+1)=true) {a b:Reading} (ha:c.readings[k]?=some a) (hb:c.readings[k+1]?=some b):zEM a b:=by
 rw[zns,hb] at h;simp only[zK] at h;have h2:=h.2;simp only[ha,zgd,zK,zX] at h2;refine ⟨zHl zW,fun e=>?_⟩
 rcases h2 with h2|h2
 ·have:zmi a.at_ b.at_=0:=by
   rw[e];simp[zmi,zwa,zke]
  omega
 exact h2.2
theorem zAz (h:∀ i,i<c.readings.length→zns t c i=true):∀ (d i:Nat) {a b:Reading},c.readings[i]?=some a→c.readings[i+d+1]?=some b→zEM a b
 | 0,i,a,b,ha,hb=>zAy (h _ (k_List_getElem__eq_some_iff.1 hb).1) ha hb
 | d+1,i,a,b,ha,hb=>by
  have hlt:i+d+1<c.readings.length:=by have:=(k_List_getElem__eq_some_iff.1 hb).1;omega
  have h1:=zAz h d i ha (zn hlt);have h2:zEM c.readings[i+d+1] b:=zAy (h _ (k_List_getElem__eq_some_iff.1 hb).1) (zn hlt) hb;have h3:zge b.at_ a.at_=false:=by
   cases e:zge b.at_ a.at_ with
   | false=>rfl
   | true=>
    have q:zge b.at_ (c.readings[i+d+1]).at_=true:=by
     rcases Classical.em (a.at_=(c.readings[i+d+1]).at_) with q1|q1
     ·rw[← q1];exact e
     ·have q2:zge a.at_ (c.readings[i+d+1]).at_=true:=by
       cases e2:zge a.at_ (c.readings[i+d+1]).at_ with
       | true=>rfl
       | false=>exact absurd (zuB e2 h1.1) q1
      exact zzR e q2
    rw[h2.1] at q;cases q
  refine ⟨h3,fun e=>h1.2 (zuB ?_ h1.1)⟩;rw[e];exact h2.1
theorem zyE (h:∀ i,i<c.readings.length→zns t c i=true) (p:Place) {a:Reading} (ha:(zeA c p)[m]?=some a) (hm:m+1<(zeA c p).length):a.kind=2:=by
 have hp:c.readings.Pairwise zEM:=zdE.2 fun i j hi hj hij=>zAz h (j-i-1) i (zn hi) (by rw[show i+(j-i-1)+1=j by omega];exact zn hj);have hq:(zeA c p).Pairwise zEM:=hp.filter _;obtain ⟨h1,h2⟩:=k_List_getElem__eq_some_iff.1 ha;have h3:=(zdE.1 hq) m (m+1) h1 hm zW;have at1:∀ (i:Nat) (hi:i<(zeA c p).length),((zeA c p)[i]).at_=p:=fun i hi=>by simpa using (zcl.1 (zdB hi)).2
 rw[← h2];exact h3.2 (by rw[at1 _ h1,at1 _ hm])
theorem zEX (k:Int) (a b:Str):(zoz k a b).length≤2:=by
 unfold zoz;split
 ·simp
 split <;> simp
theorem zEy (s:List Str) (r:Reading):(ztV s r).length≤s.length+2:=by
 have:=zEX r.kind (s.getLast?.getD []) r.word;rw[ztV,zj,List.length_dropLast];omega
theorem zAA (own:Str):∀ rs:List Reading,(zkd rs own).length≤2*rs.length+1:=by
 intro rs
 induction rs using zkb with
 | nil=>simp[zkd]
 | snoc rs r ih=>
  have:=zEy (zkd rs own) r;rw[zmB,zj,List.length_singleton];omega
theorem zwC (c:Copy) (p:Place):(zeA c p).length≤c.readings.length:=zak _ _
theorem ztg (hl:c.readings.length≤20):∀ m:Nat,(zoO c k n l m).length≤41*m
 | 0=>by simp[zoO]
 | m+1=>by
  have h1:=ztg hl m;have h2:=zAA (zie l m) (zeA c (mkP k n m));have h3:=zwC c (mkP k n m);rw[ztW,zj,zyF];omega
theorem zwE (h:∀ i,i<c.readings.length→zns t c i=true) (p:Place) (own:Str):∀ j:Nat,j<(zeA c p).length→(zkd ((zeA c p).take j) own).length=j+1
 | 0,_=>by simp[zkd]
 | j+1,hj=>by
  have ih:=zwE h p own j zW;have hk:=zyE h p (zn (show j<(zeA c p).length by omega)) hj;rw[zbg (zn (show j<(zeA c p).length by omega)),zmB,ztV,zj,List.length_dropLast,ih,zoz,zam zW,zab hk];simp
theorem zDw (h:∀ i,i<c.readings.length→zns t c i=true) (hr:r∈c.readings):1≤r.kind∧r.kind≤3:=by
 obtain ⟨i,hi⟩:=k_List_mem_iff_getElem_.1 hr;have h1:=h i (k_List_getElem__eq_some_iff.1 hi).1;rw[zns,hi] at h1;simp only[zK] at h1;have h2:=h1.1;cases e:zdw t r.at_ with
 | none=>rw[e] at h2;cases h2
 | some l=>
  rw[e] at h2;simp only[zK,inB,zX] at h2;omega
theorem zvC (h:r∈zeA c p):r∈c.readings:=(zcl.1 h).1
theorem zwD {s:List Str} {b:Str} (hb:s[s.length-1]?=some b):ztV s r=s.take (s.length-1)++zoz r.kind b r.word:=by
 rw[ztV,List.dropLast_eq_take,zgX,hb];rfl
end
section
variable {t:Text} {c:Copy} {k n m:Nat} {l:List Str} {x:Chapter}
theorem zlF (ht:zcz t=true) (hx:t.chapters[k]?=some x):x.lines.length≤10:=by
 have h:=(zmx ht).2.2.1 x (zD hx);simp only[zeC,inB,zK,zX,zal] at h;omega
theorem zop (ht:zcz t=true) (hx:t.chapters[k]?=some x) (hl:x.lines[n]?=some l):l.length≤10∧∀ a∈l,zgA a=true:=by
 have h:=(zmx ht).2.2.1 x (zD hx);simp only[zeC,inB,zK,zX,zal,zmh] at h;have h2:=h.2 l (zD hl);exact ⟨by omega,h2.2⟩
theorem zGb (ht:zcz t=true) (hx:t.chapters[k]?=some x) (hl:x.lines[n]?=some l) (m:Nat):(zie l m).length≤12:=by
 unfold zie;cases e:l[m]? with
 | none=>simp
 | some a=>exact ztM ((zop ht hx hl).2 a (zD e))
theorem ztU (hl:c.readings.length≤20) (h1:l.length≤10) (h2:m≤l.length+1):(zoO c k n l m).length≤500:=by
 have:=ztg (c:=c) (k:=k) (n:=n) (l:=l) hl m;omega
theorem zyG (hl:c.readings.length≤20) (p:Place) (own:Str) (j:Nat):(zkd ((zeA c p).take j) own).length≤100:=by
 have h1:=zAA own ((zeA c p).take j);have h2:=zwC c p;rw[zt] at h1;omega
theorem zhc {ls:List (List Str)}:(zpe c k ls n).length=n:=by simp[zpe]
theorem zhS:(zpX t c n).length=n:=by simp[zpX]
end
def zvU:Ref:=⟨0,0,0⟩
def zmo:Pair:=⟨0,0⟩
def zGH:CRow:=⟨0,0,0,0,0⟩
def zkY (t:Text) (s:Stretch):Bool:=inB s.chapter 0 ((t.chapters.length:Int)-1)
def ziP (t:Text) (s:Stretch):Bool:=inB s.from_ 0 (((zdt t s.chapter.toNat).length:Int)-1) && inB s.to (s.from_+1) ((zdt t s.chapter.toNat).length:Int)
def zln (s:Stretch):Bool:=inB s.as_ 1 999 && inB s.first 1 999 && decide (s.first+s.to-s.from_-1≤999)
def zdV (t:Text) (s:Stretch):Bool:=zkY t s && ziP t s && zln s
def zgF (t:Text) (e:Edition):Bool:=inB e.id 0 9999 && decide (e.stretches.length≤12) && e.stretches.all (zdV t)
def zeM (t:Text) (e:Edition):Int:=if zcz t=true then (if zgF t e=true then 0 else 20) else 10
def OkS (s:Stretch):Prop:=0≤s.chapter∧s.chapter≤5∧0≤s.from_∧s.from_<s.to∧s.to≤10∧1≤s.as_∧s.as_≤999∧1≤s.first∧s.first≤999
theorem zBF {t:Text} (ht:zcz t=true) (h:zdV t s=true):OkS s:=by
 simp only[zdV,zkY,ziP,zln,inB,zK,zX] at h;have h1:=(zmx ht).2.1;have h2:(zdt t s.chapter.toNat).length≤10:=by
  unfold zdt;cases e:t.chapters[s.chapter.toNat]? with
  | none=>simp
  | some c=>simpa using zlF ht e
 unfold OkS;omega
theorem ziG {t:Text} (h:zeM t e=0):zcz t=true∧e.stretches.length≤12∧∀ s∈e.stretches,zdV t s=true∧OkS s:=by
 unfold zeM at h;split at h
 ·rename_i ht;split at h
  ·rename_i he;simp only[zgF,zK,zX,zal] at he;exact ⟨ht,he.1.2,fun s hs=>⟨he.2 s hs,zBF ht (he.2 s hs)⟩⟩
  ·cases h
 cases h
def zhs (a b:Stretch):Bool:=(decide (a.chapter=b.chapter) && decide (zuf a.from_ b.from_<zBY a.to b.to)) || (decide (a.as_=b.as_) && decide (zuf a.first b.first<zBY (a.first+a.to-a.from_) (b.first+b.to-b.from_)))
def zxa (l:List Stretch) (j:Nat) (s:Stretch):Bool:=match l[j]? with
 | some o=>decide (o=s) || zhs o s
 | none=>false
def clS (l:List Stretch):Nat→Int×Int×Bool
 | 0=>((l.length:Int),0,false)
 | k+1=>match l[k]? with
  | some s=>(match (List.range k).find? (fun j:Nat=>decide ((j:Int)<(clS l k).1) && zxa l j s) with
   | some j=>((j:Int),(k:Int),true)
   | none=>clS l k)
  | none=>clS l k
def zkK (l:List Stretch):Bool:=!decide (l.Pairwise fun a b=>zhs a b=false)
theorem ztn {p:Nat→Bool} (hj:j<n) (hp:p j=true) (h:∀ i,i<j→p i=false):(List.range n).find? p=some j:=by
 rw[List.find?_range_eq_some];exact ⟨hp,zbZ.2 hj,fun i hi=>by rw[h i hi];rfl⟩
theorem zxg {p:Nat→Bool} (h:∀ i,i<n→p i=false):(List.range n).find? p=none:=by
 rw[zdM];intro i hi;rw[h i (zbZ.1 hi)];simp
theorem zsn {k: Nat} {o: Stretch} (hs:l[k]?=some s) (ho:l[j]?=some o) (hj:j<k) (h1:(j:Int)<(clS l k).1) (h2:(decide (o=s) || zhs o s)=true) (h:∀ i,i<j→(decide ((i:Int)<(clS l k).1) && zxa l i s)=false):clS l (k+1)=((j:Int),(k:Int),true):=by
 simp only[clS,hs];rw[ztn (j:=j) hj (by simp only[zxa,ho,h2,Bool.and_true,zX];exact h1) h]
theorem zxo {k:Nat} (hs:l[k]?=some s) (h:∀ i,i<k→(decide ((i:Int)<(clS l k).1) && zxa l i s)=false):clS l (k+1)=clS l k:=by
 conv=>lhs;rw[clS]
 simp only[hs];rw[zxg h]
theorem zBZ (h:OkS s):zhs s s=true:=by
 unfold OkS at h;unfold zhs;rw[zgd];left;rw[zK,zX,zX];exact ⟨rfl,by simp only[zuf,zBY];(repeat' split) <;> omega⟩
theorem zCH (hl:∀ s∈l,OkS s) {o: Stretch} (ho:l[j]?=some o) (hs:s∈l):zxa l j s=zhs o s:=by
 simp only[zxa,ho]
 by_cases e:o=s
 ·subst e;rw[zBZ (hl _ hs)];simp
 simp[e]
theorem zCO {l:List Stretch} (hl:∀ s∈l,OkS s):∀ k,k≤l.length→(clS l k).2.2=zkK (l.take k)∧((clS l k).2.2=false→(clS l k).1=(l.length:Int))
 | 0,_=>by simp[clS,zkK]
 | k+1,hk=>by
  obtain ⟨ih1,ih2⟩:=zCO hl k zW;obtain ⟨s,hs⟩:∃ s,l[k]?=some s:=⟨_,zn zW⟩;have hsm:=zD hs;have e1:zkK (l.take (k+1))=(zkK (l.take k) || (l.take k).any fun o=>zhs o s):=by
   rw[zbg hs,zkK,zkK,zdR];simp only[zfp,zcw,zgd,zbM,zga,zgc,forall_eq,List.pairwise_singleton,true_and];constructor
   ·intro h
    by_cases q:(l.take k).Pairwise fun a b=>zhs a b=false
    ·right;apply Classical.byContradiction;intro h2;refine h ⟨q,fun a ha=>?_⟩;cases e:zhs a s with
     | false=>rfl
     | true=>exact absurd ⟨a,ha,e⟩ h2
    ·exact .inl q
   ·rintro (h|⟨a,ha,e⟩) ⟨h1,h2⟩
    ·exact h h1
    ·rw[h2 a ha] at e;cases e
  rw[e1,← ih1];cases hf:(List.range k).find? (fun j:Nat=>decide ((j:Int)<(clS l k).1) && zxa l j s) with
  | some j=>
   have e2:clS l (k+1)=((j:Int),(k:Int),true):=by simp only[clS,hs,hf]
   rw[e2];refine ⟨?_,fun h=>by cases h⟩;rw[List.find?_range_eq_some] at hf;obtain ⟨h1,h2,_⟩:=hf;simp only[zK,zX] at h1;have hj:=zbZ.1 h2;obtain ⟨o,ho⟩:∃ o,l[j]?=some o:=⟨_,zn zW⟩;have h3:=h1.2;rw[zCH hl ho hsm] at h3;have:((l.take k).any fun o=>zhs o s)=true:=zbM.2 ⟨o,zD (i:=j) (by rw[zaR,zab hj];exact ho),h3⟩;rw[this];simp
  | none=>
   have e2:clS l (k+1)=clS l k:=by simp only[clS,hs,hf]
   rw[e2];refine ⟨?_,ih2⟩;cases hc:(clS l k).2.2 with
   | true=>simp
   | false=>
    rw[zes];refine (zeT.2 fun o ho=>?_).symm;obtain ⟨j,hj⟩:=k_List_mem_iff_getElem_.1 ho;rw[zaR] at hj;split at hj
    ·rename_i hjk;rw[zdM] at hf;have h4:=hf j (zbZ.2 hjk);have h5:=ih2 hc;have h6:(j:Int)<(clS l k).1:=by rw[h5];omega
     simp only[zK,zX,not_and] at h4;have h7:=h4 h6;rw[zCH hl hj hsm] at h7;exact h7
    ·cases hj
theorem zyZ (hl:∀ s∈l,OkS s):(clS l l.length).2.2=zkK l:=by
 have:=(zCO hl l.length (zbR _)).1;rwa [zhU] at this
def atS (s:Stretch) (i:Nat):Pair:=⟨s.chapter,s.from_+(i:Int)⟩
def asS (s:Stretch) (i:Nat):Pair:=⟨s.as_,s.first+(i:Int)⟩
def zys (m:List (Pair×Pair)) (k v:Pair):List (Pair×Pair):=if (zcI m k).isSome=true then m else ziL m k v
def asN (m:List (Pair×Pair)) (s:Stretch) (n:Nat):List (Pair×Pair):=(List.range n).foldl (fun m i=>zys m (atS s i) (asS s i)) m
def zqv (m:List (Pair×Pair)) (s:Stretch) (n:Nat):List (Pair×Pair):=(List.range n).foldl (fun m i=>zys m (asS s i) (atS s i)) m
def zic (s:Stretch):Nat:=(s.to-s.from_).toNat
def asM (l:List Stretch):List (Pair×Pair):=l.foldl (fun m s=>asN m s (zic s)) []
def zta (l:List Stretch):List (Pair×Pair):=l.foldl (fun m s=>zqv m s (zic s)) []
theorem zxI (m:List (Pair×Pair)) (s:Stretch) (n:Nat):asN m s (n+1)=zys (asN m s n) (atS s n) (asS s n):=by rw[asN,zdb,zel];rfl
theorem zxH (m:List (Pair×Pair)) (s:Stretch) (n:Nat):zqv m s (n+1)=zys (zqv m s n) (asS s n) (atS s n):=by rw[zqv,zdb,zel];rfl
theorem zpu (l:List Stretch) (s:Stretch):asM (l++[s])=asN (asM l) s (zic s):=by rw[asM,zel];rfl
theorem znZ (l:List Stretch) (s:Stretch):zta (l++[s])=zqv (zta l) s (zic s):=by rw[zta,zel];rfl
theorem zDG (m:List (Pair×Pair)) (k v q:Pair):zcI (zys m k v) q=(zcI m q).or (if q=k then some v else none):=by
 unfold zys;split
 ·rename_i h
  by_cases e:q=k
  ·subst e;cases h2:zcI m q with
   | none=>rw[h2] at h;cases h
   | some a=>rfl
  ·rw[zam e];cases zcI m q <;> rfl
 rename_i h;rw[zio]
 by_cases e:q=k
 ·subst e;have h2:zcI m q=none:=by cases h2:zcI m q with
   | none=>rfl
   | some a=>rw[h2] at h;exact absurd rfl h
  rw[h2,zab rfl];rfl
 rw[zam e,zam e];cases zcI m q <;> rfl
def zvb (p:Pair) (s:Stretch):Bool:=decide (s.chapter=p.a) && decide (s.from_≤p.b) && decide (p.b<s.to)
def inS (p:Pair) (s:Stretch) (n:Nat):Bool:=decide (s.chapter=p.a) && decide (s.from_≤p.b) && decide (p.b<s.from_+(n:Int))
def zEV (p:Pair) (s:Stretch):Pair:=⟨s.as_,s.first+(p.b-s.from_)⟩
theorem zAQ (m:List (Pair×Pair)) (s:Stretch) (p:Pair):∀ n,zcI (asN m s n) p=(zcI m p).or (if inS p s n=true then some (zEV p s) else none)
 | 0=>by
  have h0:inS p s 0=false:=by
   simp only[inS,zfN,zcw]
   by_cases h1:s.from_≤p.b
   ·right;omega
   ·left;right;exact h1
  rw[h0];simp[asN]
 | n+1=>by
  rw[zxI,zDG,zAQ m s p n,Option.or_assoc];congr 1
  rcases p with ⟨a,b⟩
  simp only[inS,atS,asS,zEV,zK,zX,Pair.mk.injEq]
  by_cases h1:(s.chapter=a∧s.from_≤b)∧b<s.from_+(n:Int)
  ·rw[zab h1,Option.some_or,zab ⟨h1.1,by omega⟩]
  ·rw[zam h1]
   by_cases h2:a=s.chapter∧b=s.from_+(n:Int)
   ·rw[zab h2,zab ⟨⟨h2.1.symm,by omega⟩,by omega⟩];simp only[Option.none_or,zeS,Pair.mk.injEq,true_and];omega
   ·rw[zam h2,zam (fun q=>h1 ⟨q.1,by
     have:¬ b=s.from_+(n:Int):=fun e=>h2 ⟨q.1.1.symm,e⟩;omega⟩)];rfl
theorem zAS {f t: Int} (h:f≤b):b<f+((t-f).toNat:Int)↔b<t:=by omega
theorem zDM (p:Pair):inS p s (zic s)=zvb p s:=by
 rw[zdR];simp only[inS,zvb,zic,zK,zX];constructor
 ·rintro ⟨⟨h1,h2⟩,h3⟩;exact ⟨⟨h1,h2⟩,(zAS h2).1 (zej h3)⟩
 rintro ⟨⟨h1,h2⟩,h3⟩;exact ⟨⟨h1,h2⟩,zdi ((zAS h2).2 h3)⟩
def asF (l:List Stretch) (p:Pair):Option Pair:=(l.find? (zvb p)).map (zEV p)
theorem zAR (l:List Stretch) (p:Pair):zcI (asM l) p=asF l p:=by
 induction l using zkb with
 | nil=>rfl
 | snoc l s ih=>
  rw[zpu,zAQ,ih,zDM,asF,asF,zgS];cases l.find? (zvb p) with
  | some a=>rfl
  | none=>
   simp only[Option.map_none,Option.none_or,zdu,List.find?_nil];cases zvb p s <;> rfl
def zxT (e:Edition) (p:Place):Ref:=match asF e.stretches ⟨p.chapter,p.line⟩ with
 | some q=>⟨q.a,q.b,p.word+1⟩
 | none=>zvU
def zeP (t:Text) (e:Edition):Int:=if zeM t e≠0 then zeM t e else if zkK e.stretches=true then 8 else 0
def zmA (t:Text) (e:Edition) (p:Place):Int:=if zeP t e≠0 then zeP t e else if zeb t p=true then (if (asF e.stretches ⟨p.chapter,p.line⟩).isSome=true then 0 else 6) else 12
def zih (t:Text) (e:Edition) (p:Place):Ref:=if zeP t e=0∧zeb t p=true then zxT e p else zvU
section
variable {t:Text} {c:Copy} {i k:Nat} {r q:Reading}
def zGa (c:Copy) (i:Nat) (r:Reading):Bool:=match i with
 | 0=>true
 | i+1=>match c.readings[i]? with|some q=>decide (zmi q.at_ r.at_<0) || (decide (zmi q.at_ r.at_=0) && decide (q.kind=2))|none=>true
def ziB (t:Text) (r:Reading):Bool:=decide ((zdw t r.at_).getD []≠[]) && inB r.kind 1 3 && inB r.at_.word 0 ((((zdw t r.at_).getD []).length:Int)-1+if r.kind=2 then 1 else 0) && zkj r.kind (zie ((zdw t r.at_).getD []) r.at_.word.toNat) r.word
theorem zpG (hr:c.readings[i]?=some r):zns t c i=(ziB t r && zGa c i r):=by
 rw[zns,hr];simp only[];congr 1;unfold ziB;cases e:zdw t r.at_ with
 | none=>simp
 | some l=>
  simp only[zdK];cases decide (l≠[]) <;> simp
theorem zfI (hr:c.readings[i]?=some r) (h:(ziB t r && zGa c i r)=false):zmY t c=false:=by
 cases e:zmY t c with
 | false=>rfl
 | true=>
  simp only[zmY,zK] at e;have h1:=zal.1 e.1.2 i (zbZ.2 (k_List_getElem__eq_some_iff.1 hr).1);rw[zpG hr,h] at h1;cases h1
theorem zjQ (hi:0<i) (hq:c.readings[i-1]?=some q):zGa c i r=(decide (zmi q.at_ r.at_<0) || (decide (zmi q.at_ r.at_=0) && decide (q.kind=2))):=by
 obtain ⟨j,rfl⟩:∃ j,i=j+1:=⟨i-1,by omega⟩;rw[zfC] at hq;simp[zGa,hq]
theorem zHk (ht:zcz t=true) (p:Place) (w:Nat):(zie ((zdw t p).getD []) w).length≤12:=by
 unfold zie;cases e:((zdw t p).getD [])[w]? with
 | none=>simp
 | some a=>
  cases e2:zdw t p with
  | none=>rw[e2] at e;simp at e
  | some l=>
   rw[e2] at e;have e3:=e2;unfold zdw at e3;split at e3
   ·cases e4:t.chapters[p.chapter.toNat]? with
    | none=>rw[e4] at e3;simp at e3
    | some x=>
     rw[e4] at e3;have h:=(zop ht e4 (by simpa using e3)).2 a (zD e);simpa using ztM h
   ·cases e3
theorem znV (h:¬ (inB c.id 0 9999=true∧c.readings.length≤20)):zmY t c=false:=by
 cases e:zmY t c with
 | false=>rfl
 | true=>
  simp only[zmY,zK,zX] at e;exact absurd ⟨e.1.1.1,e.1.1.2⟩ h
def zqL (x:Chapter):Bool:=x.lines.all fun l=>inB l.length 1 10
theorem ztq {x:Chapter} (hx:(zrh t c).chapters[k]?=some x) (h:zqL x=false):zmY t c=false:=by
 cases e:zmY t c with
 | false=>rfl
 | true=>
  simp only[zmY,zK] at e;have h1:=zal.1 e.2 x (zD hx);rw[zqL] at h;rw[h] at h1;cases h1
theorem zvf (h1:inB c.id 0 9999=true) (h2:c.readings.length≤20) (h3:∀ j,j<c.readings.length→zns t c j=true) (h4:∀ (j:Nat) x,(zrh t c).chapters[j]?=some x→zqL x=true):zmY t c=true:=by
 simp only[zmY,zK,zX,zal,zbZ];refine ⟨⟨⟨h1,h2⟩,h3⟩,fun x hx l hl=>?_⟩;obtain ⟨j,hj⟩:=k_List_mem_iff_getElem_.1 hx;exact zal.1 (h4 j x hj) l hl
end
section
variable {t:Text} {c:Copy} {k n w i:Nat} {l:List Str} {r:Reading}
def zqk (s:List Str×Str) (r:Reading):List Str×Str:=if r.kind=2 then (s.1++[r.word],s.2) else (s.1,r.word)
def zoN (c:Copy) (k n:Nat) (l:List Str) (w m:Nat):List Str×Str:=((c.readings.take m).filter fun r=>decide (r.at_=mkP k n w)).foldl zqk ([],zie l w)
def zzx (s:List Str×Str):List Str:=s.1++if s.2=[] then [] else [s.2]
def zDp (c:Copy) (k n:Nat) (l:List Str) (w:Nat):List Str:=zzx ((zeA c (mkP k n w)).foldl zqk ([],zie l w))
def zqG (c:Copy) (k n:Nat) (l:List Str) (m:Nat):List Str:=(List.range m).flatMap (zDp c k n l)
def zAw (c:Copy) (k n:Nat) (l:List Str):List Str:=zqG c k n l (l.length+1)
theorem zuO:zoN c k n l w 0=([],zie l w):=rfl
theorem zuP (h:c.readings[m]?=some r) (hr:¬ r.at_=mkP k n w):zoN c k n l w (m+1)=zoN c k n l w m:=by
 rw[zoN,zbg h,zbc,zbo,zam (by simpa using hr)];simp[zoN]
theorem zAv (h:c.readings[m]?=some r) (hr:r.at_=mkP k n w):zoN c k n l w (m+1)=zqk (zoN c k n l w m) r:=by
 rw[zoN,zbg h,zbc,zbo,zab (by simpa using hr),zel];rfl
theorem zzk:zzx (zoN c k n l w c.readings.length)=zDp c k n l w:=by rw[zoN,zhU];rfl
theorem zrD (m:Nat):zqG c k n l (m+1)=zqG c k n l m++zDp c k n l m:=by
 simp[zqG,zdb,zfi]
theorem zEK (s:List Str×Str):∀ rs:List Reading,(rs.foldl zqk s).1.length≤s.1.length+rs.length:=by
 intro rs
 induction rs generalizing s with
 | nil=>simp
 | cons r rs ih=>
  have:=ih (zqk s r);rw[zgC,zy];refine zfl this ?_;unfold zqk;split <;> simp <;> omega
theorem znr (m:Nat):(zoN c k n l w m).1.length≤c.readings.length:=by
 have:=zEK ([],zie l w) ((c.readings.take m).filter fun r=>decide (r.at_=mkP k n w));have h2:=zak (fun r:Reading=>decide (r.at_=mkP k n w)) (c.readings.take m);rw[zt] at h2;simp only[zC,zdv] at this;unfold zoN;omega
theorem zEw:(zDp c k n l w).length≤c.readings.length+1:=by
 rw[← zzk,zzx];have:=znr (c:=c) (k:=k) (n:=n) (l:=l) (w:=w) c.readings.length;split <;> simp <;> omega
theorem zpc (m:Nat):(zqG c k n l m).length≤(c.readings.length+1)*m:=by
 induction m with
 | zero=>simp[zqG]
 | succ m ih=>
  rw[zrD,zj,Nat.mul_succ];have:=zEw (c:=c) (k:=k) (n:=n) (l:=l) (w:=m);omega
theorem zDv (h:∀ i,i<c.readings.length→zns t c i=true) {r:Reading} (hr:r∈c.readings):(r.kind=1∧r.word=[])∨((r.kind=2∨r.kind=3)∧r.word≠[]):=by
 obtain ⟨i,hi⟩:=k_List_mem_iff_getElem_.1 hr;have h1:=h i (k_List_getElem__eq_some_iff.1 hi).1;rw[zpG hi] at h1;simp only[ziB,zK] at h1;have h2:=h1.1.2;have h3:=h1.1.1.1.2;simp only[inB,zK,zX] at h3;have hw:∀ s:Str,zgA s=true→s≠[]:=by rintro s hs rfl;exact absurd hs (by decide)
 unfold zkj at h2;split at h2
 ·exact .inl ⟨by assumption,by simpa using h2⟩
 split at h2
 ·exact .inr ⟨.inl (by assumption),hw _ h2⟩
 simp only[zK] at h2;exact .inr ⟨.inr zW,hw _ h2.1⟩
theorem zEL (own:Str) (rs:List Reading) (h:∀ r∈rs,r.kind=2):zkd rs own=rs.map (·.word)++[own]∧rs.foldl zqk ([],own)=(rs.map (·.word),own):=by
 induction rs using zkb with
 | nil=>simp[zkd]
 | snoc rs r ih=>
  obtain ⟨h1,h2⟩:=ih fun r hr=>h r (by simp[hr]);have hk:=h r (by simp);refine ⟨?_,?_⟩
  ·rw[zmB,h1,ztV,zoz,hk];simp
  ·rw[zel,h2];simp[zqk,hk]
theorem zFW (h:∀ i,i<c.readings.length→zns t c i=true):zDp c k n l w=(zyF c k n l w).filter fun s=>decide (s≠[]):=by
 have hp:=fun m a (ha:(zeA c (mkP k n w))[m]?=some a) hm=>zyE h (mkP k n w) ha hm;have hw:∀ r∈zeA c (mkP k n w),(r.kind=1∧r.word=[])∨((r.kind=2∨r.kind=3)∧r.word≠[]):=fun r hr=>zDv h (zvC hr);rw[zDp,zyF];generalize zeA c (mkP k n w)=rs at hp hw
 induction rs using zkb with
 | nil=>
  simp only[zkd,zhZ,zzx,zcM,zbo,zgD]
  by_cases e:zie l w=[] <;> simp[e]
 | snoc rs r _=>
  have h1:∀ q∈rs,q.kind=2:=by
   intro q hq;obtain ⟨m,hm⟩:=k_List_mem_iff_getElem_.1 hq;have hl:=(k_List_getElem__eq_some_iff.1 hm).1;exact hp m q (by rw[zcN hl];exact hm) (by simp;omega)
  obtain ⟨e1,e2⟩:=zEL (zie l w) rs h1;have hf:(rs.map (·.word)).filter (fun s=>decide (s≠[]))=rs.map (·.word):=by
   rw[zeN];intro s hs;obtain ⟨q,hq,rfl⟩:=zbk.1 hs
   rcases hw q (by simp[hq]) with ⟨q1,_⟩|⟨_,q2⟩
   ·rw[h1 q hq] at q1;cases q1
   ·simpa using q2
  rw[zmB,e1,zel,e2,ztV];simp only[List.dropLast_concat,List.getLast?_append,List.getLast?_singleton,zgC,zhZ,Option.some_or,zdK,zbc,hf]
  rcases hw r (by simp) with ⟨q1,q2⟩|⟨q1,q2⟩
  ·simp[zqk,zoz,q1,q2,zzx]
  ·rcases q1 with q1|q1
   ·simp only[zqk,zoz,q1,zzx,if_true]
    by_cases e:zie l w=[] <;> simp[e,q2]
   ·simp[zqk,zoz,q1,q2,zzx]
theorem zCy (h:∀ i,i<c.readings.length→zns t c i=true):zAw c k n l=zyH c k n l:=by
 rw[zAw,zyH,zqG,zoO];generalize l.length+1=m
 induction m with
 | zero=>simp
 | succ m ih=>rw[zdb,zfi,zfi,zbc,ih];simp[zFW h]
theorem zva (ht:zcz t=true) (h:zdw t p=some l):1≤l.length∧l.length≤10:=by
 unfold zdw at h;split at h
 ·cases e4:t.chapters[p.chapter.toNat]? with
  | none=>rw[e4] at h;simp at h
  | some x=>
   rw[e4] at h;have h0:=(zmx ht).2.2.1 x (zD e4);simp only[zeC,zK,zal] at h0;have h1:=h0.2 l (zD (by simpa using h));simp only[zmh,inB,zK,zX] at h1;omega
 cases h
def zod (t:Text) (c:Copy) (p:Place):Str:=match c.readings.find? (fun r=>decide (r.at_=p) && decide (r.kind≠2)) with
 | some r=>r.word
 | none=>zbY t p
def zmD (t:Text) (l:List Copy) (p:Place):Bool:=l.any fun c=>decide (zod t c p≠zbY t p)
def zgv (t:Text) (l:List Copy):List Place:=(zbJ t).filter (zmD t l)
def zgZ (t:Text) (l:List Copy):Int:=if zcz t=true then (if l.length≤5 then (if l.all (zmY t)=true then 0 else 11) else 4) else 10
def zpl (t:Text) (l:List Copy):List Place:=if zgZ t l=0 then zgv t l else []
end
theorem zDX {t:Text} {l:List Copy}:(zgv t l).length≤(zbJ t).length:=zak _ _
def zHJ:Row:=⟨zjN,zvU,0⟩
def znl:VEntry:=⟨zkS,[]⟩
def ztp (c:Cut):Bool:=inB c.width 12 80 && inB c.side 1 3
def znH (c:Cut):Int:=if ztp c=true then 0 else 30
def zpd (r:Records):Int:=orL [zcZ r.text r.lexicon,zeP r.text r.edition,znH r.cut,zgZ r.text r.copies]
def zEn (r:Records) (p:Place):Int:=if p∈zgv r.text r.copies then 1 else 2
def zDn (r:Records) (p:Place):Row:=⟨p,zih r.text r.edition p,zEn r p⟩
def zIe (r:Records) (hd:Head) (w:Str):List Place:=(zds r.text r.lexicon hd).filter fun p=>decide (zbY r.text p=w)
def zyR (r:Records) (hd:Head) (w:Str):Form:=⟨w,(zIe r hd w).map (zDn r)⟩
def zrO (r:Records) (hd:Head):VEntry:=⟨hd,(ziA sLt ((zds r.text r.lexicon hd).map (zbY r.text))).map (zyR r hd)⟩
def zia (r:Records):List VEntry:=(ziA zgI (zeB r.text r.lexicon)).map (zrO r)
theorem zlA {r:Records} (h:zpd r=0):zcZ r.text r.lexicon=0∧zeP r.text r.edition=0∧ztp r.cut=true∧zgZ r.text r.copies=0:=by
 simp only[zpd,orL,ne_eq] at h
 by_cases h1:zcZ r.text r.lexicon=0
 ·by_cases h2:zeP r.text r.edition=0
  ·by_cases h3:znH r.cut=0
   ·by_cases h4:zgZ r.text r.copies=0
    ·refine ⟨h1,h2,?_,h4⟩;unfold znH at h3;split at h3
     ·assumption
     ·cases h3
    ·simp[h1,h2,h3,h4] at h
   ·simp[h1,h2,h3] at h
  ·simp[h1,h2] at h
 simp[h1] at h
theorem ztR {t:Text} (h:zeP t e=0):zeM t e=0∧zkK e.stretches=false:=by
 unfold zeP at h
 by_cases h1:zeM t e=0
 ·rw[zam (by simp[h1])] at h;split at h
  ·cases h
  ·rename_i h2;exact ⟨h1,by simpa using h2⟩
 rw[zab h1] at h;exact absurd h h1
def zsW (a many b more:Int):Bool:=decide (a<b+more) && decide (b<a+many)
def zjq (a b:Stretch):Bool:=(decide (a.chapter=b.chapter) && zsW a.from_ (a.to-a.from_) b.from_ (b.to-b.from_)) || (decide (a.as_=b.as_) && zsW a.first (a.to-a.from_) b.first (b.to-b.from_))
theorem zCa (a b c d:Int):(zuf a b<zBY c d)↔a<c∧a<d∧b<c∧b<d:=by
 unfold zuf zBY;(repeat' split) <;> omega
theorem zxn {a b:Stretch} (ha:OkS a) (hb:OkS b):zjq a b=zhs a b:=by
 unfold OkS at ha hb;rw[zdR];simp only[zjq,zhs,zsW,zgd,zK,zX,zCa];omega
def zma (l:List Stretch) (a b:Nat):Bool:=match l[a]?,l[b]? with
 | some x,some y=>zjq x y
 | _,_=>false
def zyf (l:List Stretch) (a:Nat):Bool:=(List.range l.length).any fun b=>decide (a<b) && zma l a b
def clR (l:List Stretch):Int×Int×Bool:=match (List.range l.length).find? (zyf l) with
 | some a=>(match (List.range l.length).find? (fun b=>decide (a<b) && zma l a b) with
  | some b=>((a:Int),(b:Int),true)
  | none=>(0,0,false))
 | none=>(0,0,false)
theorem zGt {a b:Nat} {x y:Stretch} (hx:l[a]?=some x) (hy:l[b]?=some y) (hab:a<b) (h:zjq x y=true) (h1:∀ a',a'<a→zyf l a'=false) (h2:∀ b',b'<b→(decide (a<b') && zma l a b')=false):clR l=((a:Int),(b:Int),true):=by
 have hb:=(k_List_getElem__eq_some_iff.1 hy).1;have h3:(decide (a<b) && zma l a b)=true:=by simp[zma,hx,hy,h,hab]
 have h4:zyf l a=true:=zbM.2 ⟨b,zbZ.2 hb,h3⟩;rw[clR,ztn zW h4 h1];simp only[];rw[ztn hb h3 h2]
theorem zFu (h:∀ a,a<l.length→zyf l a=false):clR l=(0,0,false):=by rw[clR,zxg h]
theorem zFf {a:Nat} (h:∀ b,b<l.length→(decide (a<b) && zma l a b)=false):zyf l a=false:=by
 rw[zyf,zeT];intro b hb;rw[h b (zbZ.1 hb)];simp
theorem zFe {a b:Nat} {x y:Stretch} (hx:l[a]?=some x) (hy:l[b]?=some y) (hc:zjq x y=false) (h:∀ b',b'<b→(decide (a<b') && zma l a b')=false):∀ b',b'<b+1→(decide (a<b') && zma l a b')=false:=by
 intro b' hb
 rcases zbK (zca hb) with q|q
 ·exact h b' q
 subst q;simp[zma,hx,hy,hc]
theorem zzb (hl:∀ s∈l,OkS s):(clR l).2.2=zkK l:=by
 have key:zkK l=(List.range l.length).any (zyf l):=by
  rw[zdR,zkK];simp only[zfp,zcw,zbM,zbZ];constructor
  ·intro h;apply Classical.byContradiction;intro hn;refine h (zdE.2 fun i j hi hj hij=>?_);cases e:zhs l[i] l[j] with
   | false=>rfl
   | true=>
    exfalso;refine hn ⟨i,hi,zbM.2 ⟨j,zbZ.2 hj,?_⟩⟩;have e1:l[i]?=some l[i]:=zn hi;have e2:l[j]?=some l[j]:=zn hj;simp only[zma,e1,e2,zxn (hl _ (zdB hi)) (hl _ (zdB hj)),e,hij,decide_true,Bool.and_self]
  ·rintro ⟨i,hi,h⟩ hp;obtain ⟨j,hj,h2⟩:=zbM.1 h;have hj:=zbZ.1 hj;have e1:l[i]?=some l[i]:=zn hi;have e2:l[j]?=some l[j]:=zn hj;simp only[zma,e1,e2,zK,zX,zxn (hl _ (zdB hi)) (hl _ (zdB hj))] at h2;rw[zdE.1 hp i j hi hj h2.1] at h2;exact absurd h2.2 (by decide)
 rw[key,clR];cases hf:(List.range l.length).find? (zyf l) with
 | none=>
  refine (zeT.2 fun a ha=>?_).symm;exact zdM.1 hf a ha
 | some a=>
  have ha:=zjc hf;have hm:=zfw hf;have e:(List.range l.length).any (zyf l)=true:=zbM.2 ⟨a,hm,ha⟩;rw[e];obtain ⟨b,hb,h2⟩:=zbM.1 ha;cases hf2:(List.range l.length).find? (fun b=>decide (a<b) && zma l a b) with
  | none=>exact absurd h2 (zdM.1 hf2 b hb)
  | some b=>simp only[hf2]
def znq (t:Text) (e:Edition) (c l:Nat):CRow:=⟨c,l,((asF e.stretches ⟨c,l⟩).getD zmo).a,((asF e.stretches ⟨c,l⟩).getD zmo).b,((ziz t c l).length:Int)⟩
def zvB (t:Text) (e:Edition) (c:Nat):List CRow:=(List.range (zdt t c).length).map (znq t e c)
def zpF (t:Text) (e:Edition):List CRow:=(List.range t.chapters.length).flatMap (zvB t e)
theorem zFC {k:Nat} {p:Pair} (hs:l[k]?=some s) (h:(asF (l.take k) p).isSome=true∨zvb p s=false):asF (l.take (k+1)) p=asF (l.take k) p:=by
 rw[zbg hs,asF,asF,zgS]
 rcases h with h|h
 ·unfold asF at h;cases e:(l.take k).find? (zvb p) with
  | none=>rw[e] at h;cases h
  | some a=>rfl
 simp[zdu,h]
theorem zFB {k:Nat} {p:Pair} (hs:l[k]?=some s) (h1:asF (l.take k) p=none) (h:zvb p s=true):asF (l.take (k+1)) p=some (zEV p s):=by
 rw[zbg hs,asF,zgS];unfold asF at h1;cases e:(l.take k).find? (zvb p) with
 | none=>simp[zdu,h]
 | some a=>rw[e] at h1;cases h1
theorem zGw (hl:∀ s∈l,OkS s) {p q:Pair} (h:asF l p=some q):1≤q.a∧q.a≤999∧1≤q.b∧q.b≤1009:=by
 unfold asF at h;obtain ⟨s,hs,rfl⟩:=zfB.1 h;have h1:=hl s (zfw hs);have h2:=zjc hs;simp only[zvb,zK,zX] at h2;unfold OkS at h1;simp only[zEV];omega
theorem zxJ (hl:∀ s∈l,OkS s) {p:Pair}:((asF l p).getD zmo).a=0↔asF l p=none:=by
 cases h:asF l p with
 | none=>simp[zmo]
 | some q=>have:=zGw hl h;simp;omega
theorem zDm {t:Text}:(zvB t e c).length=(zdt t c).length:=by simp[zvB]
def atR (l:List CRow) (p:Place):CRow:=(l.find? fun x=>decide (x.chapter=p.chapter) && decide (x.line=p.line)).getD zGH
theorem zFx {l:List CRow} {k:Nat} {x:CRow} (hx:l[k]?=some x) (h1:∀ j y,j<k→l[j]?=some y→(decide (y.chapter=p.chapter) && decide (y.line=p.line))=false) (h2:(decide (x.chapter=p.chapter) && decide (x.line=p.line))=true):atR l p=x:=by
 have:l=l.take k++x::l.drop (k+1):=by rw[← zjS hx,zbS]
 rw[atR,this,zgS,zdM.2,zdu,h2]
 ·rfl
 intro y hy;obtain ⟨j,hj⟩:=k_List_mem_iff_getElem_.1 hy;rw[zaR] at hj;split at hj
 ·rw[h1 j y (by assumption) hj];simp
 cases hj
theorem zDk {t:Text} {x:CRow} (h:x∈zpF t e):∃ c l:Nat,c<t.chapters.length∧l<(zdt t c).length∧x=znq t e c l:=by
 unfold zpF zvB at h;obtain ⟨c,hc,h⟩:=zeh.1 h;obtain ⟨l,hl,rfl⟩:=zbk.1 h;exact ⟨c,l,zbZ.1 hc,zbZ.1 hl,rfl⟩
theorem zDl {t:Text} {l: Nat} (hc:c<t.chapters.length) (hl:l<(zdt t c).length):znq t e c l∈zpF t e:=
 zeh.2 ⟨c,zbZ.2 hc,zbk.2 ⟨l,zbZ.2 hl,rfl⟩⟩
theorem zmU {t:Text} (h:zeb t p=true):0≤p.chapter∧0≤p.line∧0≤p.word∧p.chapter.toNat<t.chapters.length∧p.line.toNat<(zdt t p.chapter.toNat).length∧p.word.toNat<(ziz t p.chapter.toNat p.line.toNat).length:=by
 unfold zeb znn at h;split at h
 ·rename_i h0;cases e0:zdw t p with
  | none=>rw[e0] at h;cases h
  | some ln=>
   rw[e0] at h;have e3:=e0;unfold zdw at e3;split at e3
   ·rename_i h1;cases e1:t.chapters[p.chapter.toNat]? with
    | none=>rw[e1] at e3;cases e3
    | some c=>
     rw[e1] at e3;have e2:c.lines[p.line.toNat]?=some ln:=e3;have h3:zdt t p.chapter.toNat=c.lines:=by rw[zdt,e1];rfl
     have h4:ziz t p.chapter.toNat p.line.toNat=ln:=by rw[ziz,h3,e2];rfl
     rw[h3,h4];refine ⟨h1.1,h1.2,h0,(k_List_getElem__eq_some_iff.1 e1).1,(k_List_getElem__eq_some_iff.1 e2).1,?_⟩;cases e5:ln[p.word.toNat]? with
     | none=>simp[e5] at h
     | some a=>exact (k_List_getElem__eq_some_iff.1 e5).1
   ·cases e3
 cases h
theorem zFy {t:Text} (hp:zeb t p=true):atR (zpF t e) p=znq t e p.chapter.toNat p.line.toNat:=by
 obtain ⟨h1,h2,h3,h4,h5,h6⟩:=zmU hp;unfold atR;have hm:=zDl (e:=e) h4 h5;have hq:(decide ((znq t e p.chapter.toNat p.line.toNat).chapter=p.chapter) && decide ((znq t e p.chapter.toNat p.line.toNat).line=p.line))=true:=by
  rw[zK];exact ⟨zdi (zhD h1),zdi (zhD h2)⟩
 cases hf:(zpF t e).find? fun x=>decide (x.chapter=p.chapter) && decide (x.line=p.line) with
 | none=>exact absurd hq (zdM.1 hf _ hm)
 | some x=>
  obtain ⟨c,l,hc,hl,rfl⟩:=zDk (zfw hf);have h7:=zjc hf;rw[zK] at h7;have h8:(c:Int)=p.chapter:=zej h7.1;have h9:(l:Int)=p.line:=zej h7.2;have e1:p.chapter.toNat=c:=by rw[← h8];exact Int.toNat_natCast c
  have e2:p.line.toNat=l:=by rw[← h9];exact Int.toNat_natCast l
  rw[e1,e2];rfl
theorem zFV {t:Text} (hl:∀ s∈e.stretches,OkS s) (h1:0≤p.chapter) (h2:0≤p.line) (h:(znq t e p.chapter.toNat p.line.toNat).as_≠0):zxT e p=⟨(znq t e p.chapter.toNat p.line.toNat).as_,(znq t e p.chapter.toNat p.line.toNat).number,p.word+1⟩∧(asF e.stretches ⟨p.chapter,p.line⟩).isSome=true:=by
 have e1:(⟨(p.chapter.toNat:Int),(p.line.toNat:Int)⟩:Pair)=⟨p.chapter,p.line⟩:=by rw[zhD h1,zhD h2]
 simp only[znq,e1] at h ⊢;rw[zxT];cases hq:asF e.stretches ⟨p.chapter,p.line⟩ with
 | none=>exact absurd ((zxJ hl).2 hq) h
 | some q=>exact ⟨rfl,rfl⟩
theorem zEv {t:Text} (hl:∀ s∈e.stretches,OkS s) (h1:0≤p.chapter) (h2:0≤p.line) (h:(znq t e p.chapter.toNat p.line.toNat).as_=0):zxT e p=zvU∧(asF e.stretches ⟨p.chapter,p.line⟩).isSome=false:=by
 have e1:(⟨(p.chapter.toNat:Int),(p.line.toNat:Int)⟩:Pair)=⟨p.chapter,p.line⟩:=by rw[zhD h1,zhD h2]
 simp only[znq,e1] at h;have:=(zxJ hl).1 h;rw[zxT,this];exact ⟨rfl,rfl⟩
def zup (t:Text) (s:Stretch):Nat→Bool
 | 0=>zkY t s
 | 1=>ziP t s
 | _=>zln s
theorem zEA {t:Text} (ht:zcz t=true) (hb:zkY t s=true) (h:ziP t s=true):0≤s.from_∧s.from_≤10∧0≤s.to∧s.to≤10:=by
 simp only[zkY,ziP,inB,zK,zX] at h hb;have h2:(zdt t s.chapter.toNat).length≤10:=by
  unfold zdt;cases e:t.chapters[s.chapter.toNat]? with
  | none=>simp
  | some c=>simpa using zlF ht e
 omega
theorem zDC (l:List α) (p:α→Bool):(l.filter fun x=>!p x).length=0↔l.all p=true:=by
 rw[List.length_eq_zero_iff,zgP,zal];simp
def zkL (t:Text) (e:Edition):Chart:=⟨e,t,asM e.stretches,zta e.stretches⟩
theorem zza (l:List Stretch):∀ k,k≤l.length→0≤(clS l k).1∧(clS l k).1≤(l.length:Int)
 | 0,_=>by simp[clS]
 | k+1,h=>by
  have ih:=zza l k zW;obtain ⟨s,hs⟩:∃ s,l[k]?=some s:=⟨_,zn zW⟩;simp only[clS,hs];cases hf:(List.range k).find? (fun j:Nat=>decide ((j:Int)<(clS l k).1) && zxa l j s) with
  | none=>exact ih
  | some j=>
   have:=zbZ.1 (zfw hf);simp only[];omega
theorem zpP {m:List (Pair×Pair)} (h:(zcI (asN m s n) ⟨s.chapter,s.from_+(n:Int)⟩).isSome=false):asN m s (n+1)=ziL (asN m s n) ⟨s.chapter,s.from_+(n:Int)⟩ ⟨s.as_,s.first+(n:Int)⟩:=by
 rw[zxI,zys,atS,asS,zam (by rw[h];simp)]
theorem zpQ {m:List (Pair×Pair)} (h:(zcI (asN m s n) ⟨s.chapter,s.from_+(n:Int)⟩).isSome=true):asN m s (n+1)=asN m s n:=by
 rw[zxI,zys,atS,zab h]
theorem zna {m:List (Pair×Pair)} (h:(zcI (zqv m s n) ⟨s.as_,s.first+(n:Int)⟩).isSome=false):zqv m s (n+1)=ziL (zqv m s n) ⟨s.as_,s.first+(n:Int)⟩ ⟨s.chapter,s.from_+(n:Int)⟩:=by
 rw[zxH,zys,atS,asS,zam (by rw[h];simp)]
theorem znb {m:List (Pair×Pair)} (h:(zcI (zqv m s n) ⟨s.as_,s.first+(n:Int)⟩).isSome=true):zqv m s (n+1)=zqv m s n:=by
 rw[zxH,zys,asS,zab h]
def zoB (t:Text) (e:Edition):Int×Int×Int:=if zeM t e≠0 then (0,0,zeM t e) else if (clS e.stretches e.stretches.length).2.2=true then ((clS e.stretches e.stretches.length).1,(clS e.stretches e.stretches.length).2.1,0) else (0,0,6)
theorem zxp (t:Text) (e:Edition):zeM t e=0∨zeM t e=10∨zeM t e=20:=by
 unfold zeM;split
 ·split
  ·exact .inl rfl
  ·exact .inr (.inr rfl)
 exact .inr (.inl rfl)
theorem zBh (t:Text) (e:Edition):((zoB t e).2.2=0→zeP t e=8)∧((zoB t e).2.2=6→zeP t e=0)∧(¬ (zoB t e).2.2=0→¬ (zoB t e).2.2=6→zeP t e=(zoB t e).2.2):=by
 unfold zoB zeP
 rcases zxp t e with h|h|h
 ·have:=zyZ (fun s hs=>((ziG h).2.2 s hs).2);rw[← this];cases (clS e.stretches e.stretches.length).2.2 <;> simp[h]
 ·simp[h]
 simp[h]
def zzl (b:Chart) (p:Place):Ref:=match zcI b.as_ ⟨p.chapter,p.line⟩ with
 | some q=>⟨q.a,q.b,p.word+1⟩
 | none=>zvU
def okC (b:Chart) (p:Place):Bool:=(zcI b.as_ ⟨p.chapter,p.line⟩).isSome
theorem zFX (t:Text) (e:Edition) (p:Place):zzl (zkL t e) p=zxT e p:=by
 (simp only[zzl,zkL,zAR,zxT]) <;> rfl
theorem zHn (t:Text) (e:Edition) (p:Place):okC (zkL t e) p=(asF e.stretches ⟨p.chapter,p.line⟩).isSome:=by
 simp only[okC,zkL,zAR]
def zpW (t:Text) (l:List Edition):Int:=match l.find? (fun e=>decide (zeM t e≠0)) with
 | some e=>zeM t e
 | none=>if l.any (fun e=>zkK e.stretches)=true then 8 else 0
def zvn (t:Text) (l:List Edition):List Chart:=if zpW t l=0 then l.map (zkL t) else []
theorem zwv (t:Text) (e:Edition):zpW t [e]=zeP t e:=by
 simp only[zpW,zeP,zdu,List.find?_nil,List.any_cons,List.any_nil,Bool.or_false]
 by_cases h:zeM t e=0
 ·simp[h]
 simp[h]
theorem zCk (t:Text) (e:Edition):zvn t [e]=if zeP t e=0 then [zkL t e] else []:=by rw[zvn,zwv];rfl
theorem zww {t:Text} {l:List Edition} {k:Nat} (he:l[k]?=some e) (h1:∀ j x,j<k→l[j]?=some x→zeM t x=0) (h2:zeM t e≠0):zpW t l=zeM t e:=by
 have e1:l=l.take k++e::l.drop (k+1):=by rw[← zjS he,zbS]
 have e2:l.find? (fun e=>decide (zeM t e≠0))=some e:=by
  rw[e1,zgS,zdM.2,zdu,zdi h2]
  ·rfl
  ·intro y hy;obtain ⟨j,hj⟩:=k_List_mem_iff_getElem_.1 hy;rw[zaR] at hj;split at hj
   ·simp[h1 j y (by assumption) hj]
   ·cases hj
 rw[zpW,e2]
theorem zzi {t:Text} {l:List Edition} (h:∀ e∈l,zeM t e=0):zpW t l=if l.any (fun e=>zkK e.stretches)=true then 8 else 0:=by
 rw[zpW,zdM.2];intro e he;simp[h e he]
def zjt (t:Text) (e:Edition) (p:Place):Int:=if zeP t e≠0 then zeP t e else if zeb t p=true then 0 else 12
theorem zuR {t:Text} (h:zjt t e p=0):zeP t e=0∧zeb t p=true:=by
 unfold zjt at h
 by_cases h1:zeP t e=0
 ·rw[zam (by simp[h1])] at h;split at h
  ·exact ⟨h1,by assumption⟩
  ·cases h
 rw[zab h1] at h;exact absurd h h1
theorem zvH {t:Text} (h:zjt t e p=0):0≤p.word∧p.word≤1000:=by
 obtain ⟨h1,h2⟩:=zuR h;have ht:=(ziG (ztR h1).1).1;unfold zeb znn at h2;split at h2
 ·cases e0:zdw t p with
  | none=>rw[e0] at h2;cases h2
  | some ln=>
   have:=(zva ht e0).2;rw[e0] at h2;cases e5:ln[p.word.toNat]? with
   | none=>simp[e5] at h2
   | some a=>have:=(k_List_getElem__eq_some_iff.1 e5).1;omega
 cases h2
theorem zyD {t:Text} (h:zjt t e p≠0):zih t e p=zvU∧zmA t e p=zjt t e p:=by
 unfold zjt at h ⊢;unfold zih zmA
 by_cases h1:zeP t e=0
 ·have h1':¬ zeP t e≠0:=fun q=>q h1;rw[zam h1'] at h ⊢;rw[zam h1']
  by_cases h2:zeb t p=true
  ·rw[zab h2] at h;exact absurd rfl h
  ·exact ⟨zam (fun q=>h2 q.2),by rw[zam h2,zam h2]⟩
 exact ⟨zam (fun q=>h1 q.1),by rw[zab h1,zab h1]⟩
theorem zBP {t:Text} (h:zjt t e p=0) (h3:(asF e.stretches ⟨p.chapter,p.line⟩).isSome=false):zih t e p=zvU∧zmA t e p=6:=by
 obtain ⟨h1,h2⟩:=zuR h;have h4:asF e.stretches ⟨p.chapter,p.line⟩=none:=by simpa using h3
 simp[zih,zmA,h1,h2,h4,zxT]
theorem zBO {t:Text} (h:zjt t e p=0) (h3:(asF e.stretches ⟨p.chapter,p.line⟩).isSome=true):zih t e p=zxT e p∧zmA t e p=0:=by
 obtain ⟨h1,h2⟩:=zuR h;simp[zih,zmA,h1,h2,h3]
theorem zvy {t:Text} {c:Copy} (h:∀ (j:Nat) x,c.readings[j]?=some x→(decide (x.at_=p) && decide (x.kind≠2))=false):zod t c p=zbY t p:=by
 rw[zod,zdM.2];intro x hx;obtain ⟨j,hj⟩:=k_List_mem_iff_getElem_.1 hx;rw[h j x hj];simp
theorem zyC {t:Text} {c:Copy} {k:Nat} (hr:c.readings[k]?=some r) (h1:∀ j x,j<k→c.readings[j]?=some x→(decide (x.at_=p) && decide (x.kind≠2))=false) (h2:(decide (r.at_=p) && decide (r.kind≠2))=true):zod t c p=r.word:=by
 have e1:c.readings=c.readings.take k++r::c.readings.drop (k+1):=by rw[← zjS hr,zbS]
 have e2:c.readings.find? (fun r=>decide (r.at_=p) && decide (r.kind≠2))=some r:=by
  rw[e1,zgS,zdM.2,zdu,h2]
  ·rfl
  ·intro y hy;obtain ⟨j,hj⟩:=k_List_mem_iff_getElem_.1 hy;rw[zaR] at hj;split at hj
   ·rw[h1 j y (by assumption) hj];simp
   ·cases hj
 rw[zod,e2]
def zoA (c:Copy):Bool:=decide (30<(c.readings.length:Int)) || c.readings.any fun r=>decide (40<(r.word.length:Int))
theorem zDQ {c:Copy} (h:30<(c.readings.length:Int)):zoA c=true:=by rw[zoA,zdi h];rfl
theorem zCh {c:Copy} (hr:c.readings[i]?=some r) (h:40<(r.word.length:Int)):zoA c=true:=by
 rw[zoA,zgd];right;exact zbM.2 ⟨r,zD hr,by simpa using h⟩
theorem zDP {c:Copy} (h1:¬ 30<(c.readings.length:Int)) (h2:(c.readings.any fun r=>decide (40<(r.word.length:Int)))=false):zoA c=false:=by rw[zoA,zcU h1,h2];rfl
section
variable {P:Program} {σ:Env} {w:World} {ty:TypeId} {pos:String} {aft:Array Edge} {g:Option (Nat×Bool)} {dst:Option Tmp}
theorem zEJ {s:TypeId} {k:Nat} (hx:ev σ x=.agg vs.toArray) (hu:P.underlying s=some (.struct fs)) (hf:fs[k]?=some f) (ha:∀ w,(isAgg f.type).run P w=.ok false w) (hv:vs[f.offset]?=some v):
  Run P σ w ⟨dst,.field s x k,ty,pos,aft,g⟩ v w:=by
 simp[Run,execOp,hx,Instr.field,run_underlying hu,hf,asAgg,part,ha,hv]
end
theorem K {α:Sort _} {a:α}:a=a:=rfl
theorem zch {p:Prop} (h:p:=by kernel_rfl):p:=h
theorem zcn {p:Prop} (h:p:=by first|assumption|(simp[big];done)|(simp[big];omega)|omega):p:=h
theorem zfb {p:Prop} (h:p:=by first|assumption|decide|omega|(dsimp only;omega)|(simp;omega)):p:=h
theorem zbj {p:Prop} (h:p:=by first|omega|(simp;omega)):p:=h
theorem zgn {p:Prop} (h:p:=by first|omega|(simp only[zj,zt,zeQ,zaa,zy,zC];omega)|(simp;omega)):p:=h
theorem zba {p:Prop} (h:p:=by repeat (first|exact zqB _ _ _|exact zlV _ _|refine zpw rfl ?_|refine znf rfl ?_|refine zng rfl ?_|refine zqA rfl ?_)):p:=h
theorem zbB {p:Prop} (h:p:=by first|omega|simp|trivial):p:=h
theorem znh {p:Prop} [Decidable p] (h:decide p=false):¬ p:=of_decide_eq_false h
theorem znP {p:Prop} [Decidable p] (h:decide p=true):p:=zej h
theorem zdl {l:List α} {k:Nat} (h:k<l.length):∃ y,l[k]?=some y:=⟨_,zn h⟩
def zbP (a n:Nat):List Nat:=List.range' a n
theorem zcu (hs:Sub h w):St h w h w []:=St.start hs
theorem zV {c:Operand} {x y:Code} {p:Prop} [Decidable p] (hc:ev σ c=.bool (decide p)) (ht:p→W P n x Q σ w) (hf:¬ p→W P n y Q σ w):W P n (.cond c x y) Q σ w:=zaD hc (fun h=>ht (zej h)) (fun h=>hf (of_decide_eq_false h))
theorem zaK {l:List Oper} {p:Prop} [Decidable p] (hv:σ d=.bool (decide p)) (h1:p→M P n ops l Kw (upd σ d (.bool true)) w) (h2:¬ p→M P n ops l Kw (upd σ d (.bool false)) w):M P n ops l Kw σ w:=zbX hv (fun h=>h1 (zej h)) (fun h=>h2 (of_decide_eq_false h))
theorem ziW {Kw:Env→Prop} {l:List Oper} {p:Prop} [Decidable p] (hv:σ d=.bool (decide p)) (h1:p→zai P n ops C l Kw (upd σ d (.bool true))) (h2:¬ p→zai P n ops C l Kw (upd σ d (.bool false))):zai P n ops C l Kw σ:=zjJ hv (fun h=>h1 (zej h)) (fun h=>h2 (of_decide_eq_false h))
section
variable {P:Program} {n:Nat} {ops:Array Oper} {rest:List Oper} {Kw:Env→World→Prop} {C:World→Prop} {σ:Env} {w:World} {ty:TypeId} {pos:String} {aft:Array Edge} {d:Nat}
theorem zw {id:Nat} {l:List Oper} {y:Code} (h:M P n l.toArray l (fun σ w=>zY (W P n y Q) Q .normal σ w) σ w):W P n (.seq (.region id l.toArray false) y) Q σ w:=zaM (zah h)
theorem D {K':Env→World→Prop} (h:K' σ w):M P n ops [] (fun σ w=>zY K' Q .normal σ w) σ w:=zl (zF h)
end
section
variable {P:Program} {nT:Nat} {opT:Array Oper} {rsT:List Oper} {KT:Env→World→Prop} {CT:World→Prop} {σ:Env} {w:World} {ty:TypeId} {pos:String} {aft:Array Edge} {dT:Nat}
theorem zo {t: TypeId} (hE_:(ev σ x,ev σ y,Nat.blt dT nT)=(.int .i64 a,.int .i64 b,true)) (hb:-9223372036854775808≤a+b∧a+b≤9223372036854775807) (hKT:M P nT opT rsT KT (upd σ dT (.int .i64 (a+b))) w):M P nT opT (⟨some dT,.binOp .add t x y t',ty,pos,aft,none⟩::rsT) KT σ w:=zax rfl (zcA (zcA hE_)) (zkU (zfH hE_) (zfH (zcA hE_)) hb) hKT
theorem zEj {KT:Env→Prop} {t: TypeId} (hx:ev σ x=.int .i64 a) (hy:ev σ y=.int .i64 b) (hb:-9223372036854775808≤a+b∧a+b≤9223372036854775807) (hdT:Nat.blt dT nT=true) (hKT:zai P nT opT CT rsT KT (upd σ dT (.int .i64 (a+b)))):zai P nT opT CT (⟨some dT,.binOp .add t x y t',ty,pos,aft,none⟩::rsT) KT σ:=zbf rfl hdT (fun _ _=>zkU hx hy hb) hKT
theorem za {a:Bool} (hE_:(ev σ x,Nat.blt dT nT)=(.bool a,true)) (hKT:M P nT opT rsT KT (upd σ dT (.bool a)) w):M P nT opT (⟨some dT,.assign x,ty,pos,aft,none⟩::rsT) KT σ w:=zax rfl (zcA hE_) (zvG (zfH hE_)) hKT
theorem ztP {KT:Env→Prop} {a:Bool} (hv:ev σ x=.bool a) (hdT:Nat.blt dT nT=true) (hKT:zai P nT opT CT rsT KT (upd σ dT (.bool a))):zai P nT opT CT (⟨some dT,.assign x,ty,pos,aft,none⟩::rsT) KT σ:=zbf rfl hdT (fun _ _=>zvG hv) hKT
theorem U {k:IntKind} (hE_:(ev σ x,Nat.blt dT nT)=(.int k a,true)) (hKT:M P nT opT rsT KT (upd σ dT (.int k a)) w):M P nT opT (⟨some dT,.assign x,ty,pos,aft,none⟩::rsT) KT σ w:=zax rfl (zcA hE_) (zqj (zfH hE_)) hKT
theorem zyz {KT:Env→Prop} {k:IntKind} (hv:ev σ x=.int k a) (hdT:Nat.blt dT nT=true) (hKT:zai P nT opT CT rsT KT (upd σ dT (.int k a))):zai P nT opT CT (⟨some dT,.assign x,ty,pos,aft,none⟩::rsT) KT σ:=zbf rfl hdT (fun _ _=>zqj hv) hKT
theorem zdD {a:Option Addr} (hv:ev σ x=.slice a m c) (hdT:Nat.blt dT nT=true) (hKT:M P nT opT rsT KT (upd σ dT (.slice a m c)) w):M P nT opT (⟨some dT,.assign x,ty,pos,aft,none⟩::rsT) KT σ w:=zax rfl hdT (zHR hv) hKT
theorem zlx {a:Option Addr} (hv:ev σ x=.pointer a) (hdT:Nat.blt dT nT=true) (hKT:M P nT opT rsT KT (upd σ dT (.pointer a)) w):M P nT opT (⟨some dT,.assign x,ty,pos,aft,none⟩::rsT) KT σ w:=zax rfl hdT (zHQ hv) hKT
theorem zhW {a:Str} (hv:ev σ x=zae a) (hdT:Nat.blt dT nT=true) (hKT:M P nT opT rsT KT (upd σ dT (zae a)) w):M P nT opT (⟨some dT,.assign x,ty,pos,aft,none⟩::rsT) KT σ w:=zax rfl hdT (zCz hv) hKT
theorem zAk {KT:Env→Prop} {a:Str} (hv:ev σ x=zae a) (hdT:Nat.blt dT nT=true) (hKT:zai P nT opT CT rsT KT (upd σ dT (zae a))):zai P nT opT CT (⟨some dT,.assign x,ty,pos,aft,none⟩::rsT) KT σ:=zbf rfl hdT (fun _ _=>zCz hv) hKT
theorem zfj (hv:ev σ x=v) (hdT:Nat.blt dT nT=true) (hKT:M P nT opT rsT KT (upd σ dT v) w):M P nT opT (⟨some dT,.assign x,ty,pos,aft,none⟩::rsT) KT σ w:=zax rfl hdT (zmq hv) hKT
theorem zH (v:Value) (hE_:(ev σ x,Nat.blt dT nT)=(v,true)) (hKT:M P nT opT rsT KT (upd σ dT v) w):M P nT opT (⟨some dT,.assign x,ty,pos,aft,none⟩::rsT) KT σ w:=zax rfl (zcA hE_) (zmq (zfH hE_)) hKT
theorem zAj {KT:Env→Prop} (hv:ev σ x=v) (hdT:Nat.blt dT nT=true) (hKT:zai P nT opT CT rsT KT (upd σ dT v)):zai P nT opT CT (⟨some dT,.assign x,ty,pos,aft,none⟩::rsT) KT σ:=zbf rfl hdT (fun _ _=>zmq hv) hKT
theorem zgL {t: TypeId} {k:IntKind} (hx:ev σ x=.int k a) (hy:ev σ y=.int k b) (hdT:Nat.blt dT nT=true) (hKT:M P nT opT rsT KT (upd σ dT (.bool (decide (a=b)))) w):M P nT opT (⟨some dT,.binOp .eql t x y t',ty,pos,aft,none⟩::rsT) KT σ w:=zax rfl hdT (zGP hx hy) hKT
theorem zwn {KT:Env→Prop} {t: TypeId} {k:IntKind} (hx:ev σ x=.int k a) (hy:ev σ y=.int k b) (hdT:Nat.blt dT nT=true) (hKT:zai P nT opT CT rsT KT (upd σ dT (.bool (decide (a=b))))):zai P nT opT CT (⟨some dT,.binOp .eql t x y t',ty,pos,aft,none⟩::rsT) KT σ:=zbf rfl hdT (fun _ _=>zGP hx hy) hKT
theorem zbl {k:Nat} (v:Value) (hE_:(ev σ x,vs[k]?,Nat.blt dT nT)=(.tuple vs.toArray,some v,true)) (hKT:M P nT opT rsT KT (upd σ dT v) w):M P nT opT (⟨some dT,.extract x k,ty,pos,aft,none⟩::rsT) KT σ w:=zax rfl (zcA (zcA hE_)) (zha (zfH hE_) (zfH (zcA hE_))) hKT
theorem zdm {k:Nat} (hE_:(ev σ x,vs[k]?,Nat.blt dT nT)=(.tuple vs.toArray,some (Value.pointer none),true)) (hKT:M P nT opT rsT KT (upd σ dT (Value.pointer none)) w):M P nT opT (⟨some dT,.extract x k,ty,pos,aft,none⟩::rsT) KT σ w:=zax rfl (zcA (zcA hE_)) (zha (zfH hE_) (zfH (zcA hE_))) hKT
theorem zcv {k:Nat} {av:Addr} (hE_:(ev σ x,vs[k]?,Nat.blt dT nT)=(.tuple vs.toArray,some (Value.pointer (some av)),true)) (hKT:M P nT opT rsT KT (upd σ dT (Value.pointer (some av))) w):M P nT opT (⟨some dT,.extract x k,ty,pos,aft,none⟩::rsT) KT σ w:=zax rfl (zcA (zcA hE_)) (zha (zfH hE_) (zfH (zcA hE_))) hKT
theorem zB {k:Nat} {kv:IntKind} {av:Int} (hE_:(ev σ x,vs[k]?,Nat.blt dT nT)=(.tuple vs.toArray,some (Value.int kv av),true)) (hKT:M P nT opT rsT KT (upd σ dT (Value.int kv av)) w):M P nT opT (⟨some dT,.extract x k,ty,pos,aft,none⟩::rsT) KT σ w:=zax rfl (zcA (zcA hE_)) (zha (zfH hE_) (zfH (zcA hE_))) hKT
theorem zcV {k:Nat} (hE_:(ev σ x,vs[k]?,Nat.blt dT nT)=(.tuple vs.toArray,some (Value.bool bv),true)) (hKT:M P nT opT rsT KT (upd σ dT (Value.bool bv)) w):M P nT opT (⟨some dT,.extract x k,ty,pos,aft,none⟩::rsT) KT σ w:=zax rfl (zcA (zcA hE_)) (zha (zfH hE_) (zfH (zcA hE_))) hKT
theorem zsf {KT:Env→Prop} {k:Nat} (hx:ev σ x=.tuple vs.toArray) (hv:vs[k]?=some v) (hdT:Nat.blt dT nT=true) (hKT:zai P nT opT CT rsT KT (upd σ dT v)):zai P nT opT CT (⟨some dT,.extract x k,ty,pos,aft,none⟩::rsT) KT σ:=zbf rfl hdT (fun _ _=>zha hx hv) hKT
theorem Z {s:TypeId} {k b: Nat} (hu:P.underlying s=some (.struct fs)) (hE_:(ev σ x,fs[k]?,off+f.offset,Nat.blt dT nT)=(.pointer (some ⟨b,off,none⟩),some f,off',true)) (hz:∀ w,(sizeOf f.type).run P w=.ok (m+1) w) (hKT:M P nT opT rsT KT (upd σ dT (.pointer (some ⟨b,off',none⟩))) w):M P nT opT (⟨some dT,.fieldAddr s x k,ty,pos,aft,none⟩::rsT) KT σ w:=zax rfl (zcA (zcA (zcA hE_))) (zqK (zfH hE_) hu (zfH (zcA hE_)) hz (zfH (zcA (zcA hE_)))) hKT
theorem zz {KT:Env→Prop} {s:TypeId} {k b: Nat} (hu:P.underlying s=some (.struct fs)) (hE_:(ev σ x,fs[k]?,off+f.offset,Nat.blt dT nT)=(.pointer (some ⟨b,off,none⟩),some f,off',true)) (hz:∀ w,(sizeOf f.type).run P w=.ok (m+1) w) (hKT:zai P nT opT CT rsT KT (upd σ dT (.pointer (some ⟨b,off',none⟩)))):zai P nT opT CT (⟨some dT,.fieldAddr s x k,ty,pos,aft,none⟩::rsT) KT σ:=zbf rfl (zcA (zcA (zcA hE_))) (fun _ _=>zqK (zfH hE_) hu (zfH (zcA hE_)) hz (zfH (zcA (zcA hE_)))) hKT
theorem zoC {t: TypeId} {k:IntKind} (hx:ev σ x=.int k a) (hy:ev σ y=.int k b) (hdT:Nat.blt dT nT=true) (hKT:M P nT opT rsT KT (upd σ dT (.bool (decide (b≤a)))) w):M P nT opT (⟨some dT,.binOp .geq t x y t',ty,pos,aft,none⟩::rsT) KT σ w:=zax rfl hdT (zHP hx hy) hKT
theorem zhn {t: TypeId} {k:IntKind} (hx:ev σ x=.int k a) (hy:ev σ y=.int k b) (hdT:Nat.blt dT nT=true) (hKT:M P nT opT rsT KT (upd σ dT (.bool (decide (b<a)))) w):M P nT opT (⟨some dT,.binOp .gtr t x y t',ty,pos,aft,none⟩::rsT) KT σ w:=zax rfl hdT (zGO hx hy) hKT
theorem zGL {KT:Env→Prop} {t: TypeId} {k:IntKind} (hx:ev σ x=.int k a) (hy:ev σ y=.int k b) (hdT:Nat.blt dT nT=true) (hKT:zai P nT opT CT rsT KT (upd σ dT (.bool (decide (b<a))))):zai P nT opT CT (⟨some dT,.binOp .gtr t x y t',ty,pos,aft,none⟩::rsT) KT σ:=zbf rfl hdT (fun _ _=>zGO hx hy) hKT
theorem zx {t e:TypeId} {i:Int} {k s b o:Nat} (he:zqz v k s b o) (hu:P.underlying t=some (.slice e)) (hz:∀ w,(sizeOf e).run P w=.ok s w) (hE_:(ev σ x,ev σ ix,i,Nat.blt dT nT)=(v,.int .i64 i,(k:Int),true)) (hKT:M P nT opT rsT KT (upd σ dT (.pointer (some ⟨b,o,none⟩))) w):M P nT opT (⟨some dT,.indexAddr t x ix,ty,pos,aft,none⟩::rsT) KT σ w:=zax rfl (zcA (zcA (zcA hE_))) (zcD he (zfH hE_) (zfH (zcA hE_)) (zfH (zcA (zcA hE_))) hu hz) hKT
theorem zag {KT:Env→Prop} {t e:TypeId} {i:Int} {k s b o:Nat} (he:zqz v k s b o) (hu:P.underlying t=some (.slice e)) (hz:∀ w,(sizeOf e).run P w=.ok s w) (hE_:(ev σ x,ev σ ix,i,Nat.blt dT nT)=(v,.int .i64 i,(k:Int),true)) (hKT:zai P nT opT CT rsT KT (upd σ dT (.pointer (some ⟨b,o,none⟩)))):zai P nT opT CT (⟨some dT,.indexAddr t x ix,ty,pos,aft,none⟩::rsT) KT σ:=zbf rfl (zcA (zcA (zcA hE_))) (fun _ _=>zcD he (zfH hE_) (zfH (zcA hE_)) (zfH (zcA (zcA hE_))) hu hz) hKT
theorem zG {t e:TypeId} (hs:Sl L h v xs) (hu:P.underlying t=some (.slice e)) (hE_:(ev σ x,Nat.blt dT nT)=(v,true)) (hKT:M P nT opT rsT KT (upd σ dT (.int .i64 xs.length)) w):M P nT opT (⟨some dT,.call ⟨.builtin .len,#[x],#[t]⟩,ty,pos,aft,none⟩::rsT) KT σ w:=zax rfl (zcA hE_) (zrE hs (zfH hE_) hu) hKT
theorem ztO {KT:Env→Prop} {t e:TypeId} (hs:Sl L h v xs) (hx:ev σ x=v) (hu:P.underlying t=some (.slice e)) (hdT:Nat.blt dT nT=true) (hKT:zai P nT opT CT rsT KT (upd σ dT (.int .i64 xs.length))):zai P nT opT CT (⟨some dT,.call ⟨.builtin .len,#[x],#[t]⟩,ty,pos,aft,none⟩::rsT) KT σ:=zbf rfl hdT (fun _ _=>zrE hs hx hu) hKT
theorem zlW {t e:TypeId} (hs:OSl L T h v xs o) (hx:ev σ x=v) (hu:P.underlying t=some (.slice e)) (hdT:Nat.blt dT nT=true) (hKT:M P nT opT rsT KT (upd σ dT (.int .i64 xs.length)) w):M P nT opT (⟨some dT,.call ⟨.builtin .len,#[x],#[t]⟩,ty,pos,aft,none⟩::rsT) KT σ w:=zax rfl hdT (zyK hs hx hu) hKT
theorem zDf {KT:Env→Prop} {t e:TypeId} (hs:OSl L T h v xs o) (hx:ev σ x=v) (hu:P.underlying t=some (.slice e)) (hdT:Nat.blt dT nT=true) (hKT:zai P nT opT CT rsT KT (upd σ dT (.int .i64 xs.length))):zai P nT opT CT (⟨some dT,.call ⟨.builtin .len,#[x],#[t]⟩,ty,pos,aft,none⟩::rsT) KT σ:=zbf rfl hdT (fun _ _=>zyK hs hx hu) hKT
theorem zfV {t:TypeId} {s:Str} (hx:ev σ x=zae s) (hu:P.underlying t=some .string) (hdT:Nat.blt dT nT=true) (hKT:M P nT opT rsT KT (upd σ dT (.int .i64 s.length)) w):M P nT opT (⟨some dT,.call ⟨.builtin .len,#[x],#[t]⟩,ty,pos,aft,none⟩::rsT) KT σ w:=zax rfl hdT (zyJ hx hu) hKT
theorem zDe {KT:Env→Prop} {t:TypeId} {s:Str} (hx:ev σ x=zae s) (hu:P.underlying t=some .string) (hdT:Nat.blt dT nT=true) (hKT:zai P nT opT CT rsT KT (upd σ dT (.int .i64 s.length))):zai P nT opT CT (⟨some dT,.call ⟨.builtin .len,#[x],#[t]⟩,ty,pos,aft,none⟩::rsT) KT σ:=zbf rfl hdT (fun _ _=>zyJ hx hu) hKT
theorem zgs {b: Nat} {t:TypeId} (hb:w.heap[b]?=some (.cells cs.toArray T fr)) (hx:ev σ x=.pointer (some ⟨b,off,none⟩)) (hv:cs[off]?=some v) (ha:∀ w,(isAgg t).run P w=.ok false w) (hdT:Nat.blt dT nT=true) (hKT:M P nT opT rsT KT (upd σ dT v) w):M P nT opT (⟨some dT,.load t x,ty,pos,aft,none⟩::rsT) KT σ w:=zax rfl hdT (zlX hb hx hv ha) hKT
theorem zem {b: Nat} {t:TypeId} (hb:w.heap[b]?=some (.cells cs.toArray T fr)) (hx:ev σ x=.pointer (some ⟨b,0,none⟩)) (ha:∀ w,(isAgg t).run P w=.ok true w) (hz:∀ w,(sizeOf t).run P w=.ok m w) (hn:cs.length=m) (hdT:Nat.blt dT nT=true) (hKT:M P nT opT rsT KT (upd σ dT (.agg cs.toArray)) w):M P nT opT (⟨some dT,.load t x,ty,pos,aft,none⟩::rsT) KT σ w:=zax rfl hdT (zvE hb hx ha hz hn) hKT
theorem zmR (hs:Sub h w) {t:TypeId} {b o: Nat} (hc:zaL h b o vs) (hx:ev σ x=.pointer (some ⟨b,o,none⟩)) (ha:∀ w,(isAgg t).run P w=.ok true w) (hz:∀ w,(sizeOf t).run P w=.ok m w) (hn:vs.length=m) (hdT:Nat.blt dT nT=true) (hKT:M P nT opT rsT KT (upd σ dT (.agg vs.toArray)) w):M P nT opT (⟨some dT,.load t x,ty,pos,aft,none⟩::rsT) KT σ w:=zax rfl hdT (zaQ hs hc hx ha hz hn) hKT
theorem E {t:TypeId} {b o: Nat} (hs:Sub h w) (hc:zaL h b o vs) (ha:∀ w,(isAgg t).run P w=.ok true w) (hz:∀ w,(sizeOf t).run P w=.ok m w) (hE_:(ev σ x,vs.length,Nat.blt dT nT)=(.pointer (some ⟨b,o,none⟩),m,true)) (hKT:M P nT opT rsT KT (upd σ dT (.agg vs.toArray)) w):M P nT opT (⟨some dT,.load t x,ty,pos,aft,none⟩::rsT) KT σ w:=zax rfl (zcA (zcA hE_)) (zaQ hs hc (zfH hE_) ha hz (zfH (zcA hE_))) hKT
theorem Y {t:TypeId} (j:Nat) {b: Nat} (hs:Sub h w) (hc:zaL h b off vs) (ha:∀ w,(isAgg t).run P w=.ok false w) (hE_:(ev σ x,off',vs[j]?,Nat.blt dT nT)=(.pointer (some ⟨b,off',none⟩),off+j,some v,true)) (hKT:M P nT opT rsT KT (upd σ dT v) w):M P nT opT (⟨some dT,.load t x,ty,pos,aft,none⟩::rsT) KT σ w:=zax rfl (zcA (zcA (zcA hE_))) (zpY hs hc (zfH hE_) (zfH (zcA hE_)) (zfH (zcA (zcA hE_))) ha) hKT
theorem zr {t:TypeId} (j:Nat) {b: Nat} (us:List Value) (hs:Sub h w) (hc:zaL h b off vs) (ha:∀ w,(isAgg t).run P w=.ok true w) (hz:∀ w,(sizeOf t).run P w=.ok n w) (hE_:(ev σ x,off',(vs.drop j).take n,us.length,Nat.blt dT nT)=(.pointer (some ⟨b,off',none⟩),off+j,us,n,true)) (hKT:M P nT opT rsT KT (upd σ dT (.agg us.toArray)) w):M P nT opT (⟨some dT,.load t x,ty,pos,aft,none⟩::rsT) KT σ w:=zax rfl (zcA (zcA (zcA (zcA hE_)))) (zhK hs hc (zfH hE_) (zfH (zcA hE_)) ha hz (zfH (zcA (zcA hE_))) (zfH (zcA (zcA (zcA hE_))))) hKT
theorem zM {t: TypeId} {k:IntKind} (hE_:(ev σ x,ev σ y,Nat.blt dT nT)=(.int k a,.int k b,true)) (hKT:M P nT opT rsT KT (upd σ dT (.bool (decide (a<b)))) w):M P nT opT (⟨some dT,.binOp .lss t x y t',ty,pos,aft,none⟩::rsT) KT σ w:=zax rfl (zcA (zcA hE_)) (zGN (zfH hE_) (zfH (zcA hE_))) hKT
theorem zGK {KT:Env→Prop} {t: TypeId} {k:IntKind} (hx:ev σ x=.int k a) (hy:ev σ y=.int k b) (hdT:Nat.blt dT nT=true) (hKT:zai P nT opT CT rsT KT (upd σ dT (.bool (decide (a<b))))):zai P nT opT CT (⟨some dT,.binOp .lss t x y t',ty,pos,aft,none⟩::rsT) KT σ:=zbf rfl hdT (fun _ _=>zGN hx hy) hKT
theorem zgm {fn:Fn} {first captured:Array Operand} {fs: List Value} (hf:first.toList.map (ev σ)=fs) (hc:captured.toList.map (ev σ)=cs) (hdT:Nat.blt dT nT=true) (hKT:M P nT opT rsT KT (upd σ dT (.func fn fs.toArray cs.toArray)) w):M P nT opT (⟨some dT,.makeFunc fn first captured,ty,pos,aft,none⟩::rsT) KT σ w:=zax rfl hdT (zAE hf hc) hKT
theorem zrw (hv:ev σ x=v) (hdT:Nat.blt dT nT=true) (hKT:M P nT opT rsT KT (upd σ dT v) w):M P nT opT (⟨some dT,.move x,ty,pos,aft,none⟩::rsT) KT σ w:=zax rfl hdT (znt hv) hKT
theorem zk (v:Value) (hE_:(ev σ x,Nat.blt dT nT)=(v,true)) (hKT:M P nT opT rsT KT (upd σ dT v) w):M P nT opT (⟨some dT,.move x,ty,pos,aft,none⟩::rsT) KT σ w:=zax rfl (zcA hE_) (znt (zfH hE_)) hKT
theorem zbr {KT:Env→Prop} (v:Value) (hE_:(ev σ x,Nat.blt dT nT)=(v,true)) (hKT:zai P nT opT CT rsT KT (upd σ dT v)):zai P nT opT CT (⟨some dT,.move x,ty,pos,aft,none⟩::rsT) KT σ:=zbf rfl (zcA hE_) (fun _ _=>znt (zfH hE_)) hKT
theorem zp {a:Bool} (hE_:(ev σ x,Nat.blt dT nT)=(.bool a,true)) (hKT:M P nT opT rsT KT (upd σ dT (.bool a)) w):M P nT opT (⟨some dT,.move x,ty,pos,aft,none⟩::rsT) KT σ w:=zax rfl (zcA hE_) (znK (zfH hE_)) hKT
theorem zjM {KT:Env→Prop} {a:Bool} (hv:ev σ x=.bool a) (hdT:Nat.blt dT nT=true) (hKT:zai P nT opT CT rsT KT (upd σ dT (.bool a))):zai P nT opT CT (⟨some dT,.move x,ty,pos,aft,none⟩::rsT) KT σ:=zbf rfl hdT (fun _ _=>znK hv) hKT
theorem znJ {f:Fn} {a c:Array Value} (hv:ev σ x=.func f a c) (hdT:Nat.blt dT nT=true) (hKT:M P nT opT rsT KT (upd σ dT (.func f a c)) w):M P nT opT (⟨some dT,.move x,ty,pos,aft,none⟩::rsT) KT σ w:=zax rfl hdT (zHO hv) hKT
theorem N {k:IntKind} (hE_:(ev σ x,Nat.blt dT nT)=(.int k a,true)) (hKT:M P nT opT rsT KT (upd σ dT (.int k a)) w):M P nT opT (⟨some dT,.move x,ty,pos,aft,none⟩::rsT) KT σ w:=zax rfl (zcA hE_) (zho (zfH hE_)) hKT
theorem zew {KT:Env→Prop} {k:IntKind} (hv:ev σ x=.int k a) (hdT:Nat.blt dT nT=true) (hKT:zai P nT opT CT rsT KT (upd σ dT (.int k a))):zai P nT opT CT (⟨some dT,.move x,ty,pos,aft,none⟩::rsT) KT σ:=zbf rfl hdT (fun _ _=>zho hv) hKT
theorem zno {a:Option Addr} (hv:ev σ x=.pointer a) (hdT:Nat.blt dT nT=true) (hKT:M P nT opT rsT KT (upd σ dT (.pointer a)) w):M P nT opT (⟨some dT,.move x,ty,pos,aft,none⟩::rsT) KT σ w:=zax rfl hdT (zks hv) hKT
theorem zGJ {KT:Env→Prop} {a:Option Addr} (hv:ev σ x=.pointer a) (hdT:Nat.blt dT nT=true) (hKT:zai P nT opT CT rsT KT (upd σ dT (.pointer a))):zai P nT opT CT (⟨some dT,.move x,ty,pos,aft,none⟩::rsT) KT σ:=zbf rfl hdT (fun _ _=>zks hv) hKT
theorem zfv {a:Str} (hv:ev σ x=zae a) (hdT:Nat.blt dT nT=true) (hKT:M P nT opT rsT KT (upd σ dT (zae a)) w):M P nT opT (⟨some dT,.move x,ty,pos,aft,none⟩::rsT) KT σ w:=zax rfl hdT (zyI hv) hKT
theorem zCw {KT:Env→Prop} {a:Str} (hv:ev σ x=zae a) (hdT:Nat.blt dT nT=true) (hKT:zai P nT opT CT rsT KT (upd σ dT (zae a))):zai P nT opT CT (⟨some dT,.move x,ty,pos,aft,none⟩::rsT) KT σ:=zbf rfl hdT (fun _ _=>zyI hv) hKT
theorem zeZ {a:List Value} (hv:ev σ x=.tuple a.toArray) (hdT:Nat.blt dT nT=true) (hKT:M P nT opT rsT KT (upd σ dT (.tuple a.toArray)) w):M P nT opT (⟨some dT,.move x,ty,pos,aft,none⟩::rsT) KT σ w:=zax rfl hdT (ztY hv) hKT
theorem zGI {KT:Env→Prop} {a:List Value} (hv:ev σ x=.tuple a.toArray) (hdT:Nat.blt dT nT=true) (hKT:zai P nT opT CT rsT KT (upd σ dT (.tuple a.toArray))):zai P nT opT CT (⟨some dT,.move x,ty,pos,aft,none⟩::rsT) KT σ:=zbf rfl hdT (fun _ _=>ztY hv) hKT
theorem zar {t: TypeId} {k:IntKind} (hE_:(ev σ x,ev σ y,Nat.blt dT nT)=(.int k a,.int k b,true)) (hKT:M P nT opT rsT KT (upd σ dT (.bool (decide (a≠b)))) w):M P nT opT (⟨some dT,.binOp .neq t x y t',ty,pos,aft,none⟩::rsT) KT σ w:=zax rfl (zcA (zcA hE_)) (zGM (zfH hE_) (zfH (zcA hE_))) hKT
theorem zHK {KT:Env→Prop} {t: TypeId} {k:IntKind} (hx:ev σ x=.int k a) (hy:ev σ y=.int k b) (hdT:Nat.blt dT nT=true) (hKT:zai P nT opT CT rsT KT (upd σ dT (.bool (decide (a≠b))))):zai P nT opT CT (⟨some dT,.binOp .neq t x y t',ty,pos,aft,none⟩::rsT) KT σ:=zbf rfl hdT (fun _ _=>zGM hx hy) hKT
theorem zdJ {t:TypeId} {b:Bool} (hx:ev σ x=.bool b) (hdT:Nat.blt dT nT=true) (hKT:M P nT opT rsT KT (upd σ dT (.bool (!b))) w):M P nT opT (⟨some dT,.unOp .not t x,ty,pos,aft,none⟩::rsT) KT σ w:=zax rfl hdT (zpH hx) hKT
theorem zpC {KT:Env→Prop} {t:TypeId} {b:Bool} (hx:ev σ x=.bool b) (hdT:Nat.blt dT nT=true) (hKT:zai P nT opT CT rsT KT (upd σ dT (.bool (!b)))):zai P nT opT CT (⟨some dT,.unOp .not t x,ty,pos,aft,none⟩::rsT) KT σ:=zbf rfl hdT (fun _ _=>zpH hx) hKT
theorem zb {c a b:Operand} (hE_:(ev σ c,ev σ b,Nat.blt dT nT)=(.bool false,(Value.bool bv),true)) (hKT:M P nT opT rsT KT (upd σ dT (Value.bool bv)) w):M P nT opT (⟨some dT,.pick c a b,ty,pos,aft,none⟩::rsT) KT σ w:=zax rfl (zcA (zcA hE_)) (zoe (zfH hE_) (zfH (zcA hE_))) hKT
theorem zbU {KT:Env→Prop} {c a b:Operand} (hE_:(ev σ c,ev σ b,Nat.blt dT nT)=(.bool false,(Value.bool bv),true)) (hKT:zai P nT opT CT rsT KT (upd σ dT (Value.bool bv))):zai P nT opT CT (⟨some dT,.pick c a b,ty,pos,aft,none⟩::rsT) KT σ:=zbf rfl (zcA (zcA hE_)) (fun _ _=>zoe (zfH hE_) (zfH (zcA hE_))) hKT
theorem zd {c a b:Operand} (hE_:(ev σ c,ev σ a,Nat.blt dT nT)=(.bool true,(Value.bool bv),true)) (hKT:M P nT opT rsT KT (upd σ dT (Value.bool bv)) w):M P nT opT (⟨some dT,.pick c a b,ty,pos,aft,none⟩::rsT) KT σ w:=zax rfl (zcA (zcA hE_)) (zsj (zfH hE_) (zfH (zcA hE_))) hKT
theorem zbm {KT:Env→Prop} {c a b:Operand} (hE_:(ev σ c,ev σ a,Nat.blt dT nT)=(.bool true,(Value.bool bv),true)) (hKT:zai P nT opT CT rsT KT (upd σ dT (Value.bool bv))):zai P nT opT CT (⟨some dT,.pick c a b,ty,pos,aft,none⟩::rsT) KT σ:=zbf rfl (zcA (zcA hE_)) (fun _ _=>zsj (zfH hE_) (zfH (zcA hE_))) hKT
theorem zmw {t: TypeId} {a b:Str} (hx:ev σ x=zae a) (hy:ev σ y=zae b) (hdT:Nat.blt dT nT=true) (hKT:M P nT opT rsT KT (upd σ dT (.bool (decide (a=b)))) w):M P nT opT (⟨some dT,.binOp .eql t x y t',ty,pos,aft,none⟩::rsT) KT σ w:=zax rfl hdT (zEC hx hy) hKT
theorem zBC {KT:Env→Prop} {t: TypeId} {a b:Str} (hx:ev σ x=zae a) (hy:ev σ y=zae b) (hdT:Nat.blt dT nT=true) (hKT:zai P nT opT CT rsT KT (upd σ dT (.bool (decide (a=b))))):zai P nT opT CT (⟨some dT,.binOp .eql t x y t',ty,pos,aft,none⟩::rsT) KT σ:=zbf rfl hdT (fun _ _=>zEC hx hy) hKT
theorem zja {t: TypeId} (hx:ev σ x=.int .i64 a) (hy:ev σ y=.int .i64 b) (hb:-9223372036854775808≤a-b∧a-b≤9223372036854775807) (hdT:Nat.blt dT nT=true) (hKT:M P nT opT rsT KT (upd σ dT (.int .i64 (a-b))) w):M P nT opT (⟨some dT,.binOp .sub t x y t',ty,pos,aft,none⟩::rsT) KT σ w:=zax rfl hdT (zpf hx hy hb) hKT
theorem zoW {KT:Env→Prop} {t: TypeId} (hx:ev σ x=.int .i64 a) (hy:ev σ y=.int .i64 b) (hb:-9223372036854775808≤a-b∧a-b≤9223372036854775807) (hdT:Nat.blt dT nT=true) (hKT:zai P nT opT CT rsT KT (upd σ dT (.int .i64 (a-b)))):zai P nT opT CT (⟨some dT,.binOp .sub t x y t',ty,pos,aft,none⟩::rsT) KT σ:=zbf rfl hdT (fun _ _=>zpf hx hy hb) hKT
end
theorem Le.t {h1: Heap} (a:Le h1 h2) (b:Le h2 h3):Le h1 h3:=a.trans b
def skE (n:Nat) (ops:Array Oper):Nat→List Oper→Env→Option (List Oper×Env)
 | 0,l,σ=>some (l,σ)
 | k+1,⟨d,_,_,_,_,some (g,b)⟩::l,σ=>match (ops[g]?).bind (·.dst) with
  | some q=>match Nat.blt q n,zjw n d,σ q with
   | true,true,.bool c=>bif c == b then none else skE n ops k l (updO σ d undef)
   | true,true,.tuple ⟨[]⟩=>skE n ops k l (updO σ d undef)
   | _,_,_=>none
  | none=>none
 | _+1,_,_=>none
theorem zwi {n:Nat} {ops:Array Oper} {G:List Oper→Env→Prop}
  (h1:∀ d op t p a g b l σ q c,(ops[g]?).bind (·.dst)=some q→Nat.blt q n=true→zjw n d=true→σ q=.bool c→(c == b)=false→G l (updO σ d undef)→G (⟨d,op,t,p,a,some (g,b)⟩::l) σ)
  (h2:∀ d op t p a g b l σ q,(ops[g]?).bind (·.dst)=some q→Nat.blt q n=true→zjw n d=true→σ q=undef→G l (updO σ d undef)→G (⟨d,op,t,p,a,some (g,b)⟩::l) σ) :
  ∀ (k:Nat) (l l':List Oper) (σ σ':Env),skE n ops k l σ=some (l',σ')→G l' σ'→G l σ
 | 0,l,l',σ,σ',e,h=>by cases e;exact h
 | k+1,[],_,_,_,e,_=>by cases e
 | k+1,⟨d,op,t,p,a,none⟩::l,_,_,_,e,_=>by cases e
 | k+1,⟨d,op,t,p,a,some (g,b)⟩::l,l',σ,σ',e,h=>by
  simp only[skE] at e;split at e
  ·rename_i q hq;split at e
   ·rename_i c e1 e2 e3;cases e4:c == b with
    | true=>rw[e4] at e;cases e
    | false=>rw[e4] at e;exact h1 _ _ _ _ _ _ _ _ _ _ _ hq e1 e2 e3 e4 (zwi h1 h2 k _ _ _ _ e h)
   ·rename_i e1 e2 e3;exact h2 _ _ _ _ _ _ _ _ _ _ hq e1 e2 e3 (zwi h1 h2 k _ _ _ _ e h)
   ·cases e
  ·cases e
theorem zao {l: List Oper} (k:Nat) (e:skE n ops k l σ=some (l',σ')) (h:M P n ops l' Kw σ' w):M P n ops l Kw σ w:=
 zwi (G:=fun l σ=>M P n ops l Kw σ w) (fun _ _ _ _ _ _ _ _ _ _ _ a b c d e f=>zuG a b d e c f) (fun _ _ _ _ _ _ _ _ _ _ a b c d f=>zyv a b d c f) k l l' σ σ' e h
theorem zgK {l: List Oper} {Kw:Env→Prop} (k:Nat) (e:skE n ops k l σ=some (l',σ')) (h:zai P n ops C l' Kw σ'):zai P n ops C l Kw σ:=
 zwi (G:=fun l σ=>zai P n ops C l Kw σ) (fun _ _ _ _ _ _ _ _ _ _ _ a b c d e f=>zAa a b d e c f) (fun _ _ _ _ _ _ _ _ _ _ a b c d f=>zyt a b d c f) k l l' σ σ' e h
theorem zyc {a: α} {b: β} (h:(a,b)=(a',b')):a=a':=zcE Prod.fst h
theorem zrm {a: α} {b: β} (h:(a,b)=(a',b')):b=b':=zcE Prod.snd h
def zvt (h:Heap) (rd:List (Nat×Kd)):List Nat→(List (Nat×Value)→Prop)→Prop
 | [],k=>k []
 | i::is,k=>match (rd[i]?).bind zul with
  | some (d,p)=>∀ {g} {_:p.fact g h},zvt h rd is (fun vs=>k ((d,p.val g)::vs))
  | none=>zvt h rd is k
theorem zvt.to {h:Heap} {rd:List (Nat×Kd)}:∀ {is:List Nat} {k:List (Nat×Value)→Prop},zvt h rd is k→znk h rd is k
 | [],_,e=>e
 | i::is,k,e=>by
  rw[zvt] at e;rw[znk];split
  ·rename_i d p eq;rw[eq] at e;exact fun g hf=>zvt.to (@e g hf)
  ·rename_i eq;rw[eq] at e;exact zvt.to e
def zDK (rd:List (Nat×Kd)) (o:Oper):List Nat:=(zmF o).map (fun i=>rd.length-1-i)
def ltOf (rd:List (Nat×Kd)) (o:Oper):Bool:=(zmF o).all (fun j=>Nat.blt j rd.length)
def zBa (l:List Oper) (g:Nat):Nat:=((l.toArray[g]?).bind (·.dst)).getD 0
theorem zGk {l:List Oper} {g:Nat} (h:(((l.toArray[g]?).bind (·.dst)).isSome)=true):(l.toArray[g]?).bind (·.dst)=some (zBa l g):=by
 unfold zBa;cases e:(l.toArray[g]?).bind (·.dst) with
 | none=>rw[e] at h;cases h
 | some d=>rfl
section
variable {P:Program} {n:Nat} {l:List Oper} {h0:Heap} {w0:World} {own0:Own} {hr:Heap} {er:Er} {dsts:List Nat} {σ:Env} {Q:Exit→Env→World→Prop} {rd:List (Nat×Kd)} {rc:List (Nat×Oper)} {rest:List Oper}
theorem zbq {o:Oper} (p:PF) (H:∀ h w τ,Le hr h→Sub h w→(inL er.1 rd.length=true→St h0 w0 h w own0)→znk h rd (zDK rd o) (fun vs=>zAc P n l.toArray (known vs (mix (zrn er dsts rd.length) τ σ)) h w o p))
  (k:Drw P n l h0 w0 own0 hr er dsts σ Q ((zjp o,.flt p)::rd) rc rest) (hE:ltOf rd o=true:=by kernel_rfl):Drw P n l h0 w0 own0 hr er dsts σ Q rd rc (o::rest):=zxR _ p _ rfl hE rfl H k
theorem zas {o:Oper} (H:∀ h w τ,Le hr h→Sub h w→(inL er.1 rd.length=true→St h0 w0 h w own0)→znk h rd (zDK rd o) (fun vs=>Run P (known vs (mix (zrn er dsts rd.length) τ σ)) w o v w)) (k:Drw P n l h0 w0 own0 hr er dsts σ Q ((zjp o,.flt (.det v))::rd) rc rest) (hE:(ltOf rd o,o.guard.isNone,zjw n o.dst)=(true,true,true):=by kernel_rfl):Drw P n l h0 w0 own0 hr er dsts σ Q rd rc (o::rest):=
 zFN _ _ rfl (zyc hE) rfl (by have e:=zyc (zrm hE);revert e;cases o.guard <;> simp) (zrm (zrm hE)) H k
theorem zL {o:Oper} (H:∀ {h w τ} {_:Le hr h} {_:Sub h w} {_:inL er.1 rd.length=true→St h0 w0 h w own0},zvt h rd (zDK rd o) (fun vs=>Run P (known vs (mix (zrn er dsts rd.length) τ σ)) w o v w)) (k:Drw P n l h0 w0 own0 hr er dsts σ Q ((zjp o,.flt (.det v))::rd) rc rest) (hE:(ltOf rd o,o.guard.isNone,zjw n o.dst)=(true,true,true):=by kernel_rfl):Drw P n l h0 w0 own0 hr er dsts σ Q rd rc (o::rest):=
 zas (fun h w τ a b c=>zvt.to (@H h w τ a b c)) k hE
section
variable {dst:Option Tmp} {op:Op} {type:TypeId} {pos:String} {after:Array Edge} {g:Nat} {b:Bool}
def gE (n:Nat) (l:List Oper) (rd:List (Nat×Kd)) (o:Oper) (g:Nat):Bool:=ltOf rd o && ((l.toArray[g]?).bind (·.dst)).isSome && Nat.blt (zBa l g) n && zjw n o.dst
theorem zFl {o:Oper} (h:gE n l rd o g=true):ltOf rd o=true∧(l.toArray[g]?).bind (·.dst)=some (zBa l g)∧Nat.blt (zBa l g) n=true∧zjw n o.dst=true:=by
 simp only[gE,zK] at h;exact ⟨h.1.1.1,zGk h.1.1.2,h.1.2,h.2⟩
theorem zjL (H:∀ h w τ,Le hr h→Sub h w→(inL er.1 rd.length=true→St h0 w0 h w own0)→znk h rd (zDK rd ⟨dst,op,type,pos,after,some (g,b)⟩) (fun vs=>known vs (mix (zrn er dsts rd.length) τ σ) (zBa l g)=.bool b∧Run P (known vs (mix (zrn er dsts rd.length) τ σ)) w ⟨dst,op,type,pos,after,none⟩ v w)) (k:Drw P n l h0 w0 own0 hr er dsts σ Q ((zjp ⟨dst,op,type,pos,after,some (g,b)⟩,.flt (.det v))::rd) rc rest) (hE:gE n l rd ⟨dst,op,type,pos,after,some (g,b)⟩ g=true:=by kernel_rfl):Drw P n l h0 w0 own0 hr er dsts σ Q rd rc (⟨dst,op,type,pos,after,some (g,b)⟩::rest):=
 have e:=zFl hE;zFM _ _ rfl e.1 rfl e.2.1 e.2.2.1 e.2.2.2 H k
theorem zgp (H:∀ {h w τ} {_:Le hr h} {_:Sub h w} {_:inL er.1 rd.length=true→St h0 w0 h w own0},zvt h rd (zDK rd ⟨dst,op,type,pos,after,some (g,b)⟩) (fun vs=>known vs (mix (zrn er dsts rd.length) τ σ) (zBa l g)=.bool b∧Run P (known vs (mix (zrn er dsts rd.length) τ σ)) w ⟨dst,op,type,pos,after,none⟩ v w)) (k:Drw P n l h0 w0 own0 hr er dsts σ Q ((zjp ⟨dst,op,type,pos,after,some (g,b)⟩,.flt (.det v))::rd) rc rest) (hE:gE n l rd ⟨dst,op,type,pos,after,some (g,b)⟩ g=true:=by kernel_rfl):Drw P n l h0 w0 own0 hr er dsts σ Q rd rc (⟨dst,op,type,pos,after,some (g,b)⟩::rest):=
 zjL (fun h w τ a b c=>zvt.to (@H h w τ a b c)) k hE
theorem zdZ (H:∀ {h w τ} {_:Le hr h} {_:Sub h w} {_:inL er.1 rd.length=true→St h0 w0 h w own0},zvt h rd (zDK rd ⟨dst,op,type,pos,after,some (g,b)⟩) (fun vs=>known vs (mix (zrn er dsts rd.length) τ σ) (zBa l g)=.bool (!b)))
  (k:Drw P n l h0 w0 own0 hr er dsts σ Q ((zjp ⟨dst,op,type,pos,after,some (g,b)⟩,.flt (.det undef))::rd) rc rest) (hE:gE n l rd ⟨dst,op,type,pos,after,some (g,b)⟩ g=true:=by kernel_rfl):Drw P n l h0 w0 own0 hr er dsts σ Q rd rc (⟨dst,op,type,pos,after,some (g,b)⟩::rest):=
 have e:=zFl hE;zFL _ _ rfl e.1 rfl e.2.1 e.2.2.1 e.2.2.2 (by cases b <;> rfl) (fun h w τ a b c=>zvt.to (@H h w τ a b c)) k
end
def shE (n:Nat) (l:List Oper) (ks:List (Nat×Kd)) (cx:List (Nat×Oper)) (er:Er):Bool:=zwL n 0 l [] && zye l ks && zAu cx && zzw l ks er cx && zuo er cx && zCe er.2.1 er.2.2.1 l
theorem zdy (hs:zoj P n l h0 w0 hr dsts σ Q rd.reverse (rc.reverse.drop er.2.2.2.2) (rc.reverse.take er.2.2.2.2) (zmu er rd.reverse) (zqw er rd.reverse) own0 [])
  (hE:(shE n l rd.reverse rc.reverse er,l.filterMap (·.dst),zsY 0 rd.reverse,rc.reverse.map (fun q=>l[q.1]?))=(true,dsts,rc.reverse.map (·.1),rc.reverse.map (fun q=>some q.2)):=by kernel_rfl):Drw P n l h0 w0 own0 hr er dsts σ Q rd rc []:=by
 have e:=zyc hE;simp only[shE,zK] at e;exact zGF rfl rfl rfl rfl rfl rfl ⟨e.1.1.1.1.1,e.1.1.1.1.2,zyc (zrm hE),zyc (zrm (zrm hE)),e.1.1.1.2,e.1.1.2,e.1.2,e.2,fun q hq=>List.map_inj_left.1 (zrm (zrm (zrm hE))) q hq⟩ hs
end
section
variable {P:Program} {n:Nat} {ops:Array Oper} {Kw K':Env→World→Prop} {Q Q':Exit→Env→World→Prop} {σ:Env} {w:World}
theorem ze (h:Q' .ret σ w):M P n ops [] (fun σ w=>zY (W P n .ret Q') Q .normal σ w) σ w:=D (zky h)
theorem ziZ {own:Own} {l:List Oper} {dsts:List Nat} {id:Nat} (st:St h0 w0 h w own) (hm:P.follows .mixedOrders=true) (hd:Drw P n l h0 w0 own h ([],[],[],[],0) dsts σ Q [] [] l):W P n (.region id l.toArray true) Q σ w:=zgR st hm hd
theorem zaT {t:TypeId} {b: Nat} (j:Nat) (hc:zaL h b off vs) (ha:∀ w,(isAgg t).run P w=.ok false w) (hE:(ev σ x,off',vs[j]?,Nat.blt d n)=(.pointer (some ⟨b,off',none⟩),off+j,some v,true)) (hK:zai P n ops (Cls h w0) rest KQ (upd σ d v)):zai P n ops (Cls h w0) (⟨some d,.load t x,ty,pos,aft,none⟩::rest) KQ σ:=
 zbf rfl (zrm (zrm (zrm hE))) (fun _ hC=>zpY hC.sub hc (zyc hE) (zyc (zrm hE)) (zyc (zrm (zrm hE))) ha) hK
theorem zdp {t:TypeId} {b o: Nat} (hc:zaL h b o vs) (ha:∀ w,(isAgg t).run P w=.ok true w) (hz:∀ w,(sizeOf t).run P w=.ok m w) (hE:(ev σ x,vs.length,Nat.blt d n)=(.pointer (some ⟨b,o,none⟩),m,true)) (hK:zai P n ops (Cls h w0) rest KQ (upd σ d (.agg vs.toArray))):zai P n ops (Cls h w0) (⟨some d,.load t x,ty,pos,aft,none⟩::rest) KQ σ:=
 zbf rfl (zrm (zrm hE)) (fun _ hC=>zaQ hC.sub hc (zyc hE) ha hz (zyc (zrm hE))) hK
theorem zav {id:Nat} {l:List Oper} {y z:Code} (h:M P n l.toArray l (fun σ w=>zY (W P n y (zY (W P n z Q) Q)) (zY (W P n z Q) Q) .normal σ w) σ w):W P n (.seq (.seq (.region id l.toArray false) y) z) Q σ w:=zaM (zw h)
theorem zaS {x y:Code} (h:W P n x (zY (W P n y Q') Q') σ w):W P n .skip (zY (W P n (.seq x y) Q') Q) σ w:=zbO (zF (zaM h))
theorem zgg (h:Kw σ w):W P n .skip (zY Kw Q) σ w:=zbO (zF h)
theorem zaq {id:Nat} (h:Q .ret σ w):Blk id (zY Kw Q) .ret σ w:=h
theorem zaF {id: Nat} {l:List Oper} (h:M P n l.toArray l (fun σ w=>Q' .normal σ w) σ w):Blk id (zY (W P n (.region i l.toArray false) Q') Q) .normal σ w:=zhQ (zF (zah h))
theorem zdx {id:Nat} (h:Q .normal σ w):W P n (.exit id) (zY Kw (zY K' (Blk id Q))) σ w:=zmO (zfu (zfu (zls h)))
end
section
variable {P:Program} {n:Nat} {σ:Env} {w:World}
theorem zHF {c:Code} (mods:List Nat) (vals:G→List (Nat×Value)) (I:G→World→Prop) (h1:W P n c (fun e σ' w'=>e=.normal∧∃ g,Has σ' (vals g)∧zfs mods σ' σ∧I g w') σ w) (h2:∀ g τ w',I g w'→Q .normal (known (vals g) (mix mods τ σ)) w'):W P n c Q σ w:=by
 refine zzU h1 ?_;rintro e σ'' w'' ⟨rfl,g',a1,a2,a3⟩;obtain ⟨τ',hτ'⟩:=zqm a1 a2;rw[hτ'];exact h2 g' τ' w'' a3
theorem zGz {a b c:Code} (mods:List Nat) (vals:G→List (Nat×Value)) (I:G→World→Prop) (h1:W P n a (zY (W P n b (zY (fun σ' w'=>∃ g,Has σ' (vals g)∧zfs mods σ' σ∧I g w') Q)) Q) σ w) (h2:∀ g τ w',I g w'→W P n c Q (known (vals g) (mix mods τ σ)) w'):W P n (.seq a (.seq b c)) Q σ w:=by
 refine zaM (zzU h1 ?_);intro e σ' w' h;cases e with
 | normal=>
  refine zaM (zzU h ?_);intro e σ'' w'' h;cases e with
  | normal=>
   obtain ⟨g,a1,a2,a3⟩:=h;obtain ⟨τ',hτ'⟩:=zqm a1 a2;show W P n c Q σ'' w'';rw[hτ'];exact h2 g τ' w'' a3
  | _=>exact h
 | _=>exact h
end
def zmE (r:Records):Desk:=⟨r,zrl (zgv r.text r.copies)⟩
def zyB (d:Desk) (p:Place):Int:=if (zcI d.doubt p).getD false=true then 1 else 2
def zkc (d:Desk) (p:Place):Row:=⟨p,zih d.recs.text d.recs.edition p,zyB d p⟩
def zuS (d:Desk) (hd:Head) (w:Str):List Place:=(zds d.recs.text d.recs.lexicon hd).filter fun p=>decide (zbY d.recs.text p=w)
def zCK (d:Desk) (hd:Head) (w:Str):Form:=⟨w,(zuS d hd w).map (zkc d)⟩
def znm (d:Desk) (hd:Head):List Str:=ziA sLt ((zds d.recs.text d.recs.lexicon hd).map (zbY d.recs.text))
def zli (d:Desk) (hd:Head):VEntry:=⟨hd,(znm d hd).map (zCK d hd)⟩
def znT (d:Desk):List Head:=ziA zgI (zeB d.recs.text d.recs.lexicon)
def zAh (d:Desk):List VEntry:=(znT d).map (zli d)
theorem zBD (r:Records) (p:Place):zyB (zmE r) p=zEn r p:=by
 simp only[zyB,zmE,zuW,zEn]
 by_cases h:p∈zgv r.text r.copies <;> simp[h]
theorem zDo (r:Records):zkc (zmE r)=zDn r:=by
 funext p;rw[zkc,zDn,zBD];rfl
theorem zBc (r:Records) (hd:Head):zli (zmE r) hd=zrO r hd:=by
 have:zCK (zmE r) hd=zyR r hd:=by funext w;rw[zCK,zyR,zDo];rfl
 rw[zli,zrO,this];rfl
theorem zDc (r:Records):zAh (zmE r)=zia r:=by
 have:zli (zmE r)=zrO r:=by funext hd;exact zBc r hd
 rw[zAh,zia,this];rfl
theorem zBA (d:Desk) (hd:Head):(znm d hd).length≤(zbJ d.recs.text).length:=by
 have h1:=zom ztS ((zds d.recs.text d.recs.lexicon hd).map (zbY d.recs.text));have h2:(zds d.recs.text d.recs.lexicon hd).length≤(zbJ d.recs.text).length:=zak _ _;rw[zaa] at h1;unfold znm;omega
theorem zEP (d:Desk) (hd:Head) (w:Str):(zuS d hd w).length≤(zbJ d.recs.text).length:=
 zfl (zak _ _) (zak _ _)
theorem zCf (d:Desk):(znT d).length≤(zbJ d.recs.text).length:=by
 have h1:=zom znx (zeB d.recs.text d.recs.lexicon);rw[zeB,zaa] at h1;exact h1
theorem zBd {t:Text} {l:List Copy} (h:zgZ t l=0):zpl t l=zgv t l:=zab h
def zmI (t:Text) (e:Edition):Int×Int×Int:=if zeM t e≠0 then (0,0,zeM t e) else if (clR e.stretches).2.2=true then ((clR e.stretches).1,(clR e.stretches).2.1,0) else (0,0,6)
theorem zCb {t:Text} (ht:zcz t=true) (c:Nat):(zdt t c).length≤10:=by
 unfold zdt;cases e:t.chapters[c]? with
 | none=>simp
 | some x=>simpa using zlF ht e
theorem zsi {t:Text} {e:Edition} (ht:zcz t=true):∀ i,((List.range i).flatMap (zvB t e)).length≤10*i
 | 0=>by simp
 | i+1=>by
  have h1:=zsi (e:=e) ht i;have h2:=zCb ht i;have h3:=zDm (t:=t) (e:=e) (c:=i);rw[zdb,zfi,zj];simp only[zhA,List.flatMap_nil,zbL];omega
theorem zEu {t:Text} {l: Nat} {wl: Int} (ha:a=((asF e.stretches ⟨c,l⟩).getD zmo).a) (hb:b=((asF e.stretches ⟨c,l⟩).getD zmo).b) (hw:wl=((ziz t c l).length:Int)):CRow.mk c l a b wl=znq t e c l:=by
 rw[znq,ha,hb,hw]
theorem zFA {k:Nat} {b: Int} (hs:l[k]?=some s) (hl:∀ s∈l,OkS s) (ha:a=((asF (l.take k) ⟨c,n⟩).getD zmo).a) (h0:a=0) (h1:s.chapter=c) (h2:inB (n:Int) s.from_ (s.to-1)=true):s.as_=((asF (l.take (k+1)) ⟨c,n⟩).getD zmo).a∧s.first+(n:Int)-s.from_=((asF (l.take (k+1)) ⟨c,n⟩).getD zmo).b:=by
 have h3:asF (l.take k) ⟨c,n⟩=none:=(zxJ fun x hx=>hl x (List.mem_of_mem_take hx)).1 (by rw[← ha];exact h0);simp only[inB,zK,zX] at h2;rw[zFB hs h3 (by simp only[zvb,zK,zX];omega)];refine ⟨rfl,?_⟩;show _=s.first+((n:Int)-s.from_);omega
theorem zso {k:Nat} (hs:l[k]?=some s) (ha:a=((asF (l.take k) ⟨c,n⟩).getD zmo).a) (hb:b=((asF (l.take k) ⟨c,n⟩).getD zmo).b) (hl:∀ s∈l,OkS s) (h:¬ a=0∨¬ s.chapter=c∨inB (n:Int) s.from_ (s.to-1)=false):a=((asF (l.take (k+1)) ⟨c,n⟩).getD zmo).a∧b=((asF (l.take (k+1)) ⟨c,n⟩).getD zmo).b:=by
 have h2:asF (l.take (k+1)) ⟨c,n⟩=asF (l.take k) ⟨c,n⟩:=by
  refine zFC hs ?_
  rcases h with h|h|h
  ·left;cases e:asF (l.take k) ⟨c,n⟩ with
   | none=>rw[e] at ha;exact absurd ha h
   | some q=>rfl
  ·right;simp[zvb,h]
  ·right;simp only[inB,zfN,zcw] at h;simp only[zvb,zfN,zcw];omega
 rw[h2];exact ⟨ha,hb⟩
theorem zFz {l:List CRow} (h:∀ (j:Nat) y,l[j]?=some y→(decide (y.chapter=p.chapter) && decide (y.line=p.line))=false):atR l p=zGH:=by
 rw[atR,zdM.2]
 ·rfl
 intro y hy;obtain ⟨j,hj⟩:=k_List_mem_iff_getElem_.1 hy;rw[h j y hj];simp
theorem zHg {t:Text} (h1:zeP t e=0) (h2:zeb t p=true):
  ((znq t e p.chapter.toNat p.line.toNat).as_=0→zih t e p=zvU∧zmA t e p=6)∧
  (¬ (znq t e p.chapter.toNat p.line.toNat).as_=0→zih t e p=⟨(znq t e p.chapter.toNat p.line.toNat).as_,(znq t e p.chapter.toNat p.line.toNat).number,p.word+1⟩∧zmA t e p=0):=by
 have hl:=fun s hs=>((ziG (ztR h1).1).2.2 s hs).2;have hp:=zmU h2;have e1:zih t e p=zxT e p:=zab ⟨h1,h2⟩;have e2:zmA t e p=if (asF e.stretches ⟨p.chapter,p.line⟩).isSome=true then 0 else 6:=by rw[zmA,zam (by simp[h1]),zab h2]
 rw[e1,e2];constructor
 ·intro h;obtain ⟨q1,q2⟩:=zEv hl hp.1 hp.2.1 h;rw[q1,q2];exact ⟨rfl,rfl⟩
 ·intro h;obtain ⟨q1,q2⟩:=zFV hl hp.1 hp.2.1 h;rw[q1,q2];exact ⟨rfl,rfl⟩
theorem zBV {t:Text} (h:zdw t r.at_=none):ziB t r=false:=by simp[ziB,h]
theorem zoo {t:Text} {l:List Str} (ht:zcz t=true) (h:zdw t r.at_=some l):ziB t r =
  if r.kind=1 then inB r.at_.word 0 ((l.length:Int)-1) && decide (r.word=[])
  else if r.kind=2 then inB r.at_.word 0 (l.length:Int) && zgA r.word
  else if r.kind=3 then inB r.at_.word 0 ((l.length:Int)-1) && zgA r.word && decide (r.word≠zie l r.at_.word.toNat) else false:=by
 have h1:=(zva ht h).1;have h2:l≠[]:=by rintro rfl;simp at h1
 unfold ziB;rw[h,zdK,zdi h2,zdQ]
 by_cases k1:r.kind=1
 ·rw[zab k1,zam zW,k1];have:inB (1:Int) 1 3=true:=by decide
  rw[this,zdQ,zkj,zab rfl];simp
 ·by_cases k2:r.kind=2
  ·rw[zam k1,zab k2,zab k2,k2];have:inB (2:Int) 1 3=true:=by decide
   rw[this,zdQ,zkj,zam (by decide),zab rfl];congr 2;omega
  ·by_cases k3:r.kind=3
   ·rw[zam k1,zam k2,zam k2,zab k3,k3];have:inB (3:Int) 1 3=true:=by decide
    rw[this,zdQ,zkj,zam (by decide),zam (by decide),Int.add_zero,Bool.and_assoc]
   ·rw[zam k1,zam k2,zam k3];have:inB r.kind 1 3=false:=by simp only[inB,zfN,zcw];omega
    rw[this];simp[k2]
theorem zEQ (a:Place):zmi a a=0:=by rw[zzr];simp[zke]
theorem zER {a b:Place} (h:zmi a b=0):a=b:=by
 rw[zzr] at h
 rcases a with ⟨a1,a2,a3⟩;rcases b with ⟨b1,b2,b3⟩
 simp only[zke] at h;simp only[Place.mk.injEq]
 (repeat' split at h) <;> omega
theorem zua (q r:Place) (k:Int):(decide (zmi q r<0) || (decide (zmi q r=0) && decide (k=2))) = !(zge r q || (decide (r=q) && decide (k≠2))):=by
 have h:=zzq q r;cases e:zge r q with
 | true=>
  rw[e] at h;have h:=zej h;rw[zcU zW,zcU zW];rfl
 | false=>
  rw[e] at h;have h:=of_decide_eq_false h
  by_cases hq:r=q
  ·subst hq;rw[zEQ];simp
  ·have h2:¬ zmi q r=0:=fun h3=>hq (zER h3).symm;rw[zdi (show zmi q r<0 by omega),zcU hq];rfl
section
variable {t:Text} {c:Copy}
theorem zEa {k: Nat} {x:Chapter} {l:List Str} (hx:t.chapters[k]?=some x) (hl:x.lines[n]?=some l) (hA:∀ i,i<c.readings.length→zns t c i=true) (h:inB (zAw c k n l).length 1 10=false):zmY t c=false:=by
 rw[zCy hA] at h;have hk:=(k_List_getElem__eq_some_iff.1 hx).1;have hn:=(k_List_getElem__eq_some_iff.1 hl).1;refine ztq (k:=k) (x:=zAD c k x) (zwF hk hx) ?_;rw[zqL,List.all_eq_false];refine ⟨zyH c k n l,?_,by simp[h]⟩;show _∈zpe c k x.lines x.lines.length;exact zbk.2 ⟨n,zbZ.2 hn,by rw[hl];rfl⟩
theorem zFs (h1:inB c.id 0 9999=true) (h2:c.readings.length≤20) (hA:∀ i,i<c.readings.length→zns t c i=true)
  (h:∀ k n:Nat,k<t.chapters.length→n<(zdt t k).length→inB (zAw c k n (ziz t k n)).length 1 10=true):zmY t c=true:=by
 refine zvf h1 h2 hA fun j x hx=>?_;have hj:j<t.chapters.length:=by have:=(k_List_getElem__eq_some_iff.1 hx).1;simpa [zrh,zpX] using this
 have hy:t.chapters[j]?=some t.chapters[j]:=zn hj;have e1:(zrh t c).chapters[j]?=some (zAD c j t.chapters[j]):=zwF hj hy;rw[e1] at hx;cases hx;rw[zqL,zal];intro l hl;obtain ⟨n,hn,rfl⟩:=zbk.1 (show l∈zpe c j t.chapters[j].lines t.chapters[j].lines.length from hl);have hn:=zbZ.1 hn;have e2:zdt t j=t.chapters[j].lines:=by rw[zdt,hy];rfl
 have e3:=h j n hj (by rw[e2];exact hn);rw[zCy hA,ziz,e2] at e3;exact e3
end
theorem zzz (t:Text) (e:Edition):((zmI t e).2.2=6→zeP t e=0)∧((zmI t e).2.2=0→zeP t e=8)∧(¬ (zmI t e).2.2=0→¬ (zmI t e).2.2=6→zeP t e=(zmI t e).2.2):=by
 unfold zmI zeP
 rcases zxp t e with h|h|h
 ·have hc:=zzb fun s hs=>((ziG h).2.2 s hs).2;rw[h];cases e1:zkK e.stretches <;> rw[e1] at hc <;> simp[hc]
 ·rw[h];simp
 rw[h];simp
def zkT (r:Records) (l:List Place) (p:Place):Row:=⟨p,zih r.text r.edition p,if p∈l then 1 else 2⟩
def znp (l:List VEntry) (hd:Head):Option VEntry:=l.find? fun e=>decide (e.head=hd)
theorem zEr {l:List VEntry} {k:Nat} {e:VEntry} (he:l[k]?=some e) (h1:∀ j y,j<k→l[j]?=some y→¬ y.head=hd) (h2:e.head=hd):znp l hd=some e:=by
 have:l=l.take k++e::l.drop (k+1):=by rw[← zjS he,zbS]
 rw[znp,this,zgS,zdM.2,zdu,zdi h2]
 ·rfl
 intro y hy;obtain ⟨j,hj⟩:=k_List_mem_iff_getElem_.1 hy;rw[zaR] at hj;split at hj
 ·simpa using h1 j y (by assumption) hj
 cases hj
theorem zBK {l:List VEntry} (h:∀ (j:Nat) y,l[j]?=some y→¬ y.head=hd):znp l hd=none:=by
 rw[znp,zdM];intro y hy;obtain ⟨j,hj⟩:=k_List_mem_iff_getElem_.1 hy;simpa using h j y hj
def zmC (r:Records):Bool:=!zmy r.text || !zhr r.lexicon || decide (20<r.edition.stretches.length) || decide (8<r.copies.length) || r.copies.any zoA
theorem zxc {r:Records} (h:zmC r=false):zmy r.text=true∧zhr r.lexicon=true∧r.edition.stretches.length≤20∧r.copies.length≤8∧∀ c∈r.copies,zoA c=false:=by
 simp only[zmC,Bool.or_eq_false_iff,Bool.not_eq_false',zcw,zeT] at h;obtain ⟨⟨⟨⟨h1,h2⟩,h3⟩,h4⟩,h5⟩:=h;exact ⟨h1,h2,by omega,by omega,fun c hc=>by simpa using h5 c hc⟩
theorem zEf {I:List α→Heap→Own→Prop} {Ix:Code→List α→Heap→Own→Prop} {own3 tail:Own} {s:VS} {w4:World} (le:Le h2 h3) (st:St h0 w0 h3 w4 (own3++tail)) (hI:Ix .ret xs h3 own3):zkz I Ix h0 w0 h2 xs tail .ret s w4:=⟨h3,own3,le,st,hI⟩
section
variable {κ υ:Type} {ek:κ→Value} {eu:υ→Value}
variable {P:Program} {n:Nat} {ops:Array Oper} {rest:List Oper} {Kw:Env→World→Prop} {σ:Env} {w w0:World} {h0 h:Heap} {own:Own} {ty:TypeId} {pos:String} {aft:Array Edge} {d:Nat} {dst:Option Tmp} {g:Option (Nat×Bool)}
theorem zka [DecidableEq κ] {t: TypeId} {z: Operand} {m:List (κ×υ)} {k:κ} {u:υ} (st:St h0 w0 h w own) (hM:OM ek eu m o v) (hi:own[i]?=some o) (hn:(m.map (·.1)).Nodup) (hK:KeyG P kt ek) (ht:P.underlying t=some (.map kt et)) (hx:ev σ x=v) (hy:ev σ y=ek k) (hz:ev σ z=eu u) (hk:∀ o' w' own',own'=own.set i o'→OM ek eu (ziL m k u) o' v→((ziL m k u).map (·.1)).Nodup→St h0 w0 h w' own'→M P n ops rest Kw σ w'):
  M P n ops (⟨none,.mapUpdate t x y z,ty,pos,aft,none⟩::rest) Kw σ w:=by
 cases hl:zcI m k with
 | none=>exact zwg st hM hi hn hK.toKeyF ht hl hx hy hz hk
 | some q=>
  obtain ⟨b,es,clock,rfl,rfl,hE,hB,hD⟩:=hM;have hb:=st.get hi;have hg:(getObj b).run P w=.ok (.map es clock) w:=by simp[getObj,Sem.run,hb]
  have hset:∀ es' c',(setObj b (.map es' c')).run P w=.ok () { w with heap:=w.heap.setIfInBounds b (.map es' c') }:=by
   intro es' c';simp[setObj,Sem.run,hb]
  have hc:=hK.check false k w;obtain ⟨j,hf,h2⟩:=zFn hK.toKeyF (k:=k) w hE hl;have hp:ziL m k u=m.map fun p=>if p.1=k then (k,u) else p:=by simp[ziL,hl]
  have hkey:((es[j]?).map (·.key)).getD (ek k)=ek k:=by
   obtain ⟨e,h6,h7,_⟩:=Ent.getP hE h2;rw[← zgu,h6];simpa using h7
  refine zov rfl rfl (w':={ w with heap:=w.heap.setIfInBounds b (.map (es.modify j fun e=>{ e with key:=ek k,val:=eu u }) clock) }) ?_ (hk _ _ _ rfl ⟨b,es.modify j fun e=>{ e with key:=ek k,val:=eu u },clock,rfl,rfl,?_,?_,?_⟩ ?_ (st.set _ hi))
  ·simp only[execOp,hx,hy,hz,Instr.mapUpdate,Sem.run_bind,run_underlying ht,Result.andThen_ok,hg,hc,hf,hkey,Instr.keyThatStays,hK.stays,if_true,hset,Sem.run_pure]
  ·rw[hp,zet];exact hE.modify hn h2
  ·intro e he;rw[zet] at he;obtain ⟨i',hi'⟩:=k_List_mem_iff_getElem_.1 he;rw[zfx] at hi';cases h8:es.toList[i']? with
   | none=>simp[h8] at hi'
   | some e'=>
    simp only[h8,zck] at hi';have:=hB e' (zD h8);split at hi' <;> (cases hi';exact this)
  ·have h9:((es.modify j fun e=>{ e with key:=ek k,val:=eu u }).toList.map (·.born))=es.toList.map (·.born):=by
    rw[zet];apply zeF;intro i';rw[zcy,zcy,zfx];cases es.toList[i']? with
    | none=>simp
    | some e=>simp only[zck];split <;> rfl
   rw[h9];exact hD
  ·rw[hp];have:(m.map fun p=>if p.1=k then (k,u) else p).map (·.1)=m.map (·.1):=by
    rw[zhf];apply zgo;intro p _;simp only[Function.comp];split
    ·rename_i e;exact e.symm
    ·rfl
   rw[this];exact hn
theorem zwh [DecidableEq κ] {t kty: TypeId} {m:List (κ×υ)} {k:κ} (st:St h0 w0 h w own) (hM:OM ek eu m o v) (hi:own[i]?=some o) (hn:(m.map (·.1)).Nodup) (hK:KeyG P kt ek) (ht:P.underlying t=some (.map kt et)) (hx:ev σ x=v) (hy:ev σ y=ek k) (hk:∀ o' w' own',own'=own.set i o'→OM ek eu (zni m k) o' v→((zni m k).map (·.1)).Nodup→St h0 w0 h w' own'→M P n ops rest Kw σ w'):
  M P n ops (⟨none,.call ⟨.builtin .delete,#[x,y],#[t,kty]⟩,ty,pos,aft,none⟩::rest) Kw σ w:=by
 obtain ⟨b,es,clock,rfl,rfl,hE,hB,hD⟩:=hM;have hb:=st.get hi;have hg:(getObj b).run P w=.ok (.map es clock) w:=by simp[getObj,Sem.run,hb]
 have hset:∀ es' c',(setObj b (.map es' c')).run P w=.ok () { w with heap:=w.heap.setIfInBounds b (.map es' c') }:=by
  intro es' c';simp[setObj,Sem.run,hb]
 have hc:=hK.check es.isEmpty k w;have hnd:((zni m k).map (·.1)).Nodup:=(zdC.map _).nodup hn;cases hl:zcI m k with
 | none=>
  have hf:=zGS hK.toKeyF (k:=k) w hE hl;refine zax rfl rfl (v:=.tuple #[]) (w':={ w with heap:=w.heap.setIfInBounds b (.map es clock) }) ?_ (hk _ _ _ rfl ⟨b,es,clock,rfl,rfl,by rw[zyW hl];exact hE,hB,hD⟩ hnd (st.set _ hi));refine zpb rfl (vs:=[.map (some b),ek k]) (by simp[hx,hy]) fun cs=>?_;simp only[builtin,Builtin.delete_,Sem.run_bind,run_underlying ht,Result.andThen_ok,zdI,zeL,List.getElem?_cons_succ,hg,hc,hf,hset,Sem.run_pure]
 | some q=>
  obtain ⟨j,hf,h2⟩:=zFn hK.toKeyF (k:=k) w hE hl;have hes:(es.eraseIdxIfInBounds j).toList=es.toList.eraseIdx j:=by
   unfold Array.eraseIdxIfInBounds;split
   ·simp
   ·rename_i hq;rw[List.eraseIdx_of_length_le (by simpa using hq)]
  have hsub:(es.toList.eraseIdx j).Sublist es.toList:=List.eraseIdx_sublist _ _;refine zax rfl rfl (v:=.tuple #[]) (w':={ w with heap:=w.heap.setIfInBounds b (.map (es.eraseIdxIfInBounds j) clock) }) ?_ (hk _ _ _ rfl ⟨b,es.eraseIdxIfInBounds j,clock,rfl,rfl,?_,?_,?_⟩ hnd (st.set _ hi))
  ·refine zpb rfl (vs:=[.map (some b),ek k]) (by simp[hx,hy]) fun cs=>?_;simp only[builtin,Builtin.delete_,Sem.run_bind,run_underlying ht,Result.andThen_ok,zdI,zeL,List.getElem?_cons_succ,hg,hc,hf,hset,Sem.run_pure]
  ·rw[hes,zto hn h2];exact hE.erase j
  ·intro e he;rw[hes] at he;exact hB e (hsub.subset he)
  ·rw[hes];exact (hsub.map _).nodup hD
theorem zqH [DecidableEq κ] {t: TypeId} {m:List (κ×υ)} {k:κ} {zu:υ} (hK:KeyF P kt ek) (ht:P.underlying t=some (.map kt et)) (hM:OM ek eu m o v) (hw:∀ b ob,o=[(b,ob)]→w.heap[b]?=some ob) (hz:∀ w,(zeroValue et).run P w=.ok zv w) (hzu:zv=eu zu) (hx:ev σ x=v) (hy:ev σ y=ek k):
  Run P σ w ⟨dst,.lookup t x y true,ty,pos,aft,g⟩ (.tuple [eu ((zcI m k).getD zu),.bool (zcI m k).isSome].toArray) w:=by
 obtain ⟨b,es,clock,rfl,rfl,hE,_,_⟩:=hM;have hb:=hw b _ rfl;obtain ⟨j,hf⟩:=zCL hK (k:=k) w hE;have hc:=hK.check es.isEmpty k w;have hg:(getObj b).run P w=.ok (.map es clock) w:=by simp[getObj,Sem.run,hb]
 subst hzu;have:(Instr.lookup t (.map (some b)) (ek k) true).run P w=.ok (.tuple [eu ((zcI m k).getD zu),.bool (zcI m k).isSome].toArray) w:=by
  simp only[Instr.lookup,Sem.run_bind,run_underlying ht,Result.andThen_ok,hg,Sem.run_pure,hc,hf];cases zcI m k with
  | none=>simp[hz]
  | some r=>simp
 simp[Run,execOp,hx,hy,this]
theorem zqI [DecidableEq κ] {t: TypeId} {m:List (κ×υ)} {k:κ} {zu:υ} (hK:KeyF P kt ek) (ht:P.underlying t=some (.map kt et)) (hM:FM ek eu h m v) (hs:Sub h w) (hz:∀ w,(zeroValue et).run P w=.ok zv w) (hzu:zv=eu zu) (hx:ev σ x=v) (hy:ev σ y=ek k):
  Run P σ w ⟨dst,.lookup t x y false,ty,pos,aft,g⟩ (eu ((zcI m k).getD zu)) w:=by
 obtain ⟨o,h1,h2⟩:=hM.om hs;exact ztZ hK ht h1 h2 hz hzu hx hy
theorem zya [DecidableEq κ] {t: TypeId} {m:List (κ×υ)} {k:κ} {zu:υ} (hK:KeyF P kt ek) (ht:P.underlying t=some (.map kt et)) (hM:FM ek eu h m v) (hs:Sub h w) (hz:∀ w,(zeroValue et).run P w=.ok zv w) (hzu:zv=eu zu) (hx:ev σ x=v) (hy:ev σ y=ek k):
  Run P σ w ⟨dst,.lookup t x y true,ty,pos,aft,g⟩ (.tuple [eu ((zcI m k).getD zu),.bool (zcI m k).isSome].toArray) w:=by
 obtain ⟨o,h1,h2⟩:=hM.om hs;exact zqH hK ht h1 h2 hz hzu hx hy
end
end Go.Pk
