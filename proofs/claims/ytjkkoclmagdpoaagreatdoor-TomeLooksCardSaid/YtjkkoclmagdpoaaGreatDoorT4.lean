/- A PART OF THE PROOF: contracts of functions. -/
import Derived.Test.YtjkkoclmagdpoaaGreatDoorT3
import Derived.Laws.Cover1
set_option linter.all false
set_option maxRecDepth 4000
namespace Go.Pk
open Go Go.RowKit
variable {fn:Func} {P:Program} {R:Ending→World→Prop} {u n a2 b2 i:Nat} {v a' b' c c' v2:Value} {σ:Env} {w w0:World} {x:Trip×Found} {a b:Int} {α:Type} {h h0:Heap} {ty t2 T:TypeId} {pos:String} {aft:Array Edge} {g:Option (Nat×Bool)} {dst:Option Tmp} {y:Operand} {ops:Array Oper} {rest:List Oper} {Kw:Env→World→Prop} {l:List (Trip×Found)} {e:VEntry} {p:Place} {r:Records} {m:List (Place×Bool)} {hds:List Value} {fs:Array Field} {f0 f1 f2 f3 f4:Field}
theorem zlg {t v: Nat} (hr:fn.results=#[.tmp t,.tmp u,.tmp v]) (h:R (.returned (.tuple #[σ t,σ u,σ v])) w):zZ fn P R .ret σ w:=
 fun tmps ht=>⟨.tuple #[tmps.getD t undef,tmps.getD u undef,tmps.getD v undef],by simp[results,hr],by rw[ht,ht,ht];exact h⟩
theorem zqx {t v x: Nat} (hr:fn.results=#[.tmp t,.tmp u,.tmp v,.tmp x]) (h:R (.returned (.tuple #[σ t,σ u,σ v,σ x])) w):zZ fn P R .ret σ w:=
 fun tmps ht=>⟨.tuple #[tmps.getD t undef,tmps.getD u undef,tmps.getD v undef,tmps.getD x undef],by simp[results,hr],by rw[ht,ht,ht,ht];exact h⟩
theorem zvV {a b: Value} (h1:a=a') (h2:b=b') (h3:c=c'):Value.tuple #[a,b,c]=Value.tuple #[a',b',c']:=by rw[h1,h2,h3]
theorem zxS {a b d d' : Value} (h1:a=a') (h2:b=b') (h3:c=c') (h4:d=d'):Value.tuple #[a,b,c,d]=Value.tuple #[a',b',c',d']:=by rw[h1,h2,h3,h4]
def zFJ {α:Type} (L:Lay α):Lay α:={ size:=1,R:=fun h vs x=>∃ v,vs=[v]∧Box L h true x v,up:=by rintro _ _ _ _ ⟨v,rfl,f⟩ hl;exact ⟨v,rfl,f.up hl⟩,len:=by rintro _ _ _ ⟨v,rfl,_⟩;rfl,one:=by rintro _ _ _ ⟨v,rfl,f⟩ u hu;simp only[zaV,zbD,zec] at hu;subst hu;obtain ⟨b,vs,rfl,_⟩:=f;rfl }
theorem Sl.box1 {L:Lay α} {xs:List α} (hs:Sl L h v xs):v.cells=([v]:List Value).toArray:=by
 obtain ⟨p,c,rfl,_⟩:=hs;rfl
def zvS (Q:Exit→VS→World→Prop):Exit→VS→World→Prop
 | .goto _,_,_=>False
 | e,s,w=>Q e s w
section
variable {Q:Exit→VS→World→Prop} {s:VS} {w:World}
theorem zvS.exit {id:Nat} (h:Q (.exit id) s w):zvS Q (.exit id) s w:=h
theorem zvS.ret (h:Q .ret s w):zvS Q .ret s w:=h
theorem zGB {F:Fence} {c:Code} (h:V F P n c (zvS Q) s w):V F P n (.scope c) Q s w:=by
 intro m a ha b k cs hro hb hr;have h0:(lone (b.atR a (.code (.scope c)::k)) cs w).fenced P F:=fenced_calm hb hr rfl;obtain ⟨e,a₁,w₁,⟨s',hf,hq⟩,harr⟩:=h m a ha b (.inScope c::k) cs hro hb hr;have st1:step P (lone (b.atR a (.code (.scope c)::k)) cs w)=.next (lone (b.atR a (.code c::.inScope c::k)) cs w):=by
  exact step_lone_go (by simp[stepG,stepG.exec,Frame.atR])
 have st2:step P (lone (b.atR a₁ (.inScope c::k)) cs w₁)=.next (lone (b.atR a₁ k) cs w₁):=by
  exact step_lone_go (by simp[stepG,stepG.exec,Frame.atR])
 cases e with
 | normal=>exact ⟨.normal,a₁,w₁,⟨s',hf,hq⟩,.head h0 st1 (StepsIn.trans harr (.one (fenced_calm hb hr rfl) st2))⟩
 | exit id=>exact ⟨.exit id,a₁,w₁,⟨s',hf,hq⟩,fun k' hk=>.head h0 st1 (harr.1 k' (by simpa [exitTo] using hk)),
   fun hr' hk=>let ⟨k₁,h1,h2⟩:=harr.2 hr' (by simpa [exitTo] using hk);⟨k₁,h1,.head h0 st1 h2⟩⟩
 | goto l=>exact hq.elim
 | ret=>exact ⟨_,a₁,w₁,⟨s',hf,hq⟩,.of_steps (.one h0 st1) harr⟩
 | panic ch=>exact ⟨_,a₁,w₁,⟨s',hf,hq⟩,.of_steps (.one h0 st1) harr⟩
 | outgrown=>exact ⟨_,a₁,w₁,⟨s',hf,hq⟩,.of_steps (.one h0 st1) harr⟩
end
theorem zCR {own:Own} {Dw:Nat} {ds:List Deferred} (k:Nat) (st:St h0 w0 h w own) (hk:own[k]?=some [(Dw,.deferred (some []))]) (hn:∀ w',St h0 w0 h w' (own.set k [(Dw,.deferred none)])→zjz fn P R .ret (ds,σ) w'):zjz fn P R .ret ({ target:=.collected Dw,args:=#[] }::ds,σ) w:=
 ⟨Dw,rfl,st.get hk,hn _ (st.set _ hk)⟩
def W64 (n:Int):Int:=IntKind.i64.wrap n
theorem zCp {n:Int} (h:-9223372036854775808≤n∧n≤9223372036854775807):W64 n=n:=IntWalk.i64_in n h
theorem zGy (a b:Int):W64 (W64 a+b)=W64 (a+b):=by
 simp only[W64,IntKind.wrap_i64];omega
theorem zHj {t t':TypeId} {x: Operand} (hx:ev σ x=.int .i64 a) (hy:ev σ y=.int .i64 b):Run P σ w ⟨dst,.binOp .add t x y t',ty,pos,aft,g⟩ (.int .i64 (W64 (a+b))) w:=by
 simp[Run,execOp,hx,hy,eqGuard,binOp,Op.intArith,W64]
theorem zHh {x z: Operand} {ats:Array TypeId} {k:IntKind} {c: Int} (hx:ev σ x=.int k a) (hy:ev σ y=.int k b) (hz:ev σ z=.int k c):Run P σ w ⟨dst,.call ⟨.builtin .max,#[x,y,z],ats⟩,ty,pos,aft,g⟩ (.int k (zuf (zuf a b) c)) w:=by
 refine zpb rfl (vs:=[.int k a,.int k b,.int k c]) (by simp[hx,hy,hz]) fun cs=>?_;simp[builtin,run_max_int3,zuf]
theorem zvR {a b: Nat} {t: TypeId} {T2: TypeId} (hr:fn.results=#[.cell a t,.cell a2 t2,.tmp u]) (hp:σ a=.pointer (some ⟨b,0,none⟩)) (hp2:σ a2=.pointer (some ⟨b2,0,none⟩)) (ha:∀ w,(isAgg t).run P w=.ok false w) (ha2:∀ w,(isAgg t2).run P w=.ok false w) (hb:w.heap[b]?=some (.cells #[v] T)) (hb2:w.heap[b2]?=some (.cells #[v2] T2)) (h:R (.returned (.tuple #[v,v2,σ u])) w):zZ fn P R .ret σ w:=by
 intro tmps ht;refine ⟨.tuple #[v,v2,tmps.getD u undef],?_,by rw[ht];exact h⟩;have hc:w.cell? ⟨b,0,none⟩=some v:=by simp[World.cell?,hb]
 have hc2:w.cell? ⟨b2,0,none⟩=some v2:=by simp[World.cell?,hb2]
 have hp':tmps.getD a undef=.pointer (some ⟨b,0,none⟩):=by rw[ht,hp]
 have hp2':tmps.getD a2 undef=.pointer (some ⟨b2,0,none⟩):=by rw[ht,hp2]
 simp only[zbb] at hp' hp2';simp[results,hr,hp',hp2',asAddr,loadVar,ha,ha2,hc,hc2]
theorem znE {a a3 a4 b b3 b4: Nat} {t t3 t4: TypeId} {v3 v4: Value} {T2 T3 T4: TypeId} (hr:fn.results=#[.cell a t,.cell a2 t2,.cell a3 t3,.cell a4 t4]) (hp:σ a=.pointer (some ⟨b,0,none⟩)) (hp2:σ a2=.pointer (some ⟨b2,0,none⟩)) (hp3:σ a3=.pointer (some ⟨b3,0,none⟩)) (hp4:σ a4=.pointer (some ⟨b4,0,none⟩)) (ha:∀ w,(isAgg t).run P w=.ok false w) (ha2:∀ w,(isAgg t2).run P w=.ok false w) (ha3:∀ w,(isAgg t3).run P w=.ok false w) (ha4:∀ w,(isAgg t4).run P w=.ok false w) (hb:w.heap[b]?=some (.cells #[v] T)) (hb2:w.heap[b2]?=some (.cells #[v2] T2)) (hb3:w.heap[b3]?=some (.cells #[v3] T3)) (hb4:w.heap[b4]?=some (.cells #[v4] T4)) (h:R (.returned (.tuple #[v,v2,v3,v4])) w):zZ fn P R .ret σ w:=by
 intro tmps ht;refine ⟨_,?_,h⟩;have hc:w.cell? ⟨b,0,none⟩=some v:=by simp[World.cell?,hb]
 have hc2:w.cell? ⟨b2,0,none⟩=some v2:=by simp[World.cell?,hb2]
 have hc3:w.cell? ⟨b3,0,none⟩=some v3:=by simp[World.cell?,hb3]
 have hc4:w.cell? ⟨b4,0,none⟩=some v4:=by simp[World.cell?,hb4]
 have hp':tmps.getD a undef=.pointer (some ⟨b,0,none⟩):=by rw[ht,hp]
 have hp2':tmps.getD a2 undef=.pointer (some ⟨b2,0,none⟩):=by rw[ht,hp2]
 have hp3':tmps.getD a3 undef=.pointer (some ⟨b3,0,none⟩):=by rw[ht,hp3]
 have hp4':tmps.getD a4 undef=.pointer (some ⟨b4,0,none⟩):=by rw[ht,hp4]
 simp only[zbb] at hp' hp2' hp3' hp4';simp[results,hr,hp',hp2',hp3',hp4',asAddr,loadVar,ha,ha2,ha3,ha4,hc,hc2,hc3,hc4]
theorem zsd {own:Own} (st:St h0 w0 h w own) {t:TypeId} {x: Operand} {b:Nat} (hb:h b=some (.cells [v].toArray T)) (hx:ev σ x=.pointer (some ⟨b,0,none⟩)) (hy:ev σ y=v) (h1:v.oneCell'=true) (hz:∀ w,(sizeOf t).run P w=.ok 1 w) (hk:M P n ops rest Kw σ w):M P n ops (⟨none,.store t x y,ty,pos,aft,none⟩::rest) Kw σ w:=by
 have hw:=st.sub b _ hb;refine zov rfl rfl (zwA hw hx hy h1 hz (by simp)) ?_;have e:w.heap.setIfInBounds b (.cells ([v].set 0 v).toArray T)=w.heap:=by
  apply Array.ext
  ·simp
  ·intro i h1 h2;rw[Array.getElem_setIfInBounds];split
   ·rename_i e;subst e;rw[zcr h2] at hw;simpa using (zeO hw).symm
   ·rfl
 rw[e];exact hk
def zon (l:List Form):Nat:=(l.map fun f=>f.rows.length).sum
def zjG (l:List VEntry):Nat:=(l.map fun e=>e.forms.length).sum
def ziJ (l:List VEntry):Nat:=(l.map fun e=>zon e.forms).sum
theorem zwr (g:α→Nat) {l:List α} {e:α} (h:l[i]?=some e):((l.take (i+1)).map g).sum=((l.take i).map g).sum+g e:=by
 rw[zbg h];simp
theorem zrM {l:List VEntry} (h:l[i]?=some e):zjG (l.take (i+1))=zjG (l.take i)+e.forms.length:=zwr _ h
theorem znR {l:List VEntry} (h:l[i]?=some e):ziJ (l.take (i+1))=ziJ (l.take i)+zon e.forms:=zwr _ h
theorem zqF {l:List Form} {f:Form} (h:l[i]?=some f):zon (l.take (i+1))=zon (l.take i)+f.rows.length:=zwr _ h
theorem zBE {α:Type} (g:α→Nat) {b:Nat}:∀ {l:List α},(∀ e∈l,g e≤b)→(l.map g).sum≤l.length*b
 | [],_=>by simp
 | e::l,h=>by
  have h1:=zBE g (l:=l) fun x hx=>h x (zcH _ hx);have h2:=h e zct;simp only[zbQ,List.sum_cons,zy,zhL,Nat.one_mul];omega
theorem zol (g:α→Nat) (l:List α) (i:Nat):((l.take i).map g).sum≤(l.map g).sum:=by
 have:(l.map g).sum=((l.take i).map g).sum+((l.drop i).map g).sum:=by
  rw[← List.sum_append,← zaz,zbS]
 omega
theorem zyQ {l:List VEntry} (h8:l.length≤800) (hF:∀ e∈l,e.forms.length≤800) (i:Nat):zjG (l.take i)≤640000:=by
 have h1:=zol (fun e:VEntry=>e.forms.length) l i;have h2:=zBE (fun e:VEntry=>e.forms.length) hF;have h3:l.length*800≤800*800:=zcb _ h8;unfold zjG;omega
def zuk (e:VEntry):Bool:=decide (800<e.forms.length) || decide (100<e.head.stem.length)
def zrK (f:Form):Bool:=decide (100<f.word.length) || decide (800<f.rows.length)
def zrJ (e:VEntry):Bool:=e.forms.any zrK
def ziy (v:Volume):Bool:=decide (800<v.entries.length) || v.entries.any zuk || decide (800<zjG v.entries) || v.entries.any zrJ || decide (800<ziJ v.entries)
theorem zFk {l:List VEntry} (h:l.any zuk=false):∀ e∈l,e.forms.length≤800:=fun e he=>by
 have:=zeT.1 h e he;simp[zuk] at this;omega
theorem zDS {l:List Form} (h:l.any zrK=false):∀ f∈l,f.rows.length≤800:=fun f hf=>by
 have:=zeT.1 h f hf;simp[zrK] at this;omega
theorem zEs {l:List VEntry} (h:l.any zrJ=false):ziJ l≤zjG l*800:=by
 induction l with
 | nil=>simp[ziJ,zjG]
 | cons e l ih=>
  simp only[List.any_cons,Bool.or_eq_false_iff] at h;have h1:=ih h.2;have h2:zon e.forms≤e.forms.length*800:=zBE _ (zDS h.1);simp only[ziJ,zjG,zbQ,List.sum_cons] at h1 ⊢;omega
theorem zkJ {v:Volume} (h:ziy v=false):v.entries.length≤800∧(∀ e∈v.entries,e.forms.length≤800∧e.head.stem.length≤100)∧zjG v.entries≤800∧(∀ e∈v.entries,∀ f∈e.forms,f.word.length≤100∧f.rows.length≤800)∧ziJ v.entries≤800:=by
 simp only[ziy,zrJ,zuk,zrK,Bool.or_eq_false_iff,zcw,zeT,Bool.not_eq_true] at h;obtain ⟨⟨⟨⟨h1,h2⟩,h3⟩,h4⟩,h5⟩:=h;refine ⟨by omega,fun e he=>?_,by omega,fun e he f hf=>?_,by omega⟩
 ·have:=h2 e he;omega
 have:=h4 e he f hf;omega
def zlw (v:Volume):Bool:=decide (v.entries.length≤700) && decide (zjG v.entries≤700) && decide (ziJ v.entries≤700)
def zvX (e:VEntry) (f:Form) (i k m:Nat):Trip×Found:=(⟨i,k,m⟩,⟨e.head,f.word,(f.rows[m]?).getD zHJ⟩)
def zor (e:VEntry) (i k:Nat):List (Trip×Found):=match e.forms[k]? with
 | some f=>(List.range f.rows.length).map (zvX e f i k)
 | none=>[]
def zvd (v:Volume) (i:Nat):List (Trip×Found):=match v.entries[i]? with
 | some e=>(List.range e.forms.length).flatMap (zor e i)
 | none=>[]
def zfz (v:Volume):List (Trip×Found):=(List.range v.entries.length).flatMap (zvd v)
def T0 (v:Volume) (i:Nat):List (Trip×Found):=(List.range i).flatMap (zvd v)
def T1 (v:Volume) (e:VEntry) (i k:Nat):List (Trip×Found):=T0 v i++(List.range k).flatMap (zor e i)
def T2 (v:Volume) (e:VEntry) (f:Form) (i k m:Nat):List (Trip×Found):=T1 v e i k++(List.range m).map (zvX e f i k)
section
variable {v:Volume} {e:VEntry} {f:Form} {y:Row} {i k m:Nat}
theorem zGE:T1 v e i 0=T0 v i:=by simp[T1]
theorem zGD:T2 v e f i k 0=T1 v e i k:=by simp[T2]
theorem zre (hy:f.rows[m]?=some y):T2 v e f i k (m+1)=T2 v e f i k m++[(⟨i,k,m⟩,⟨e.head,f.word,y⟩)]:=by
 rw[T2,zdb,zaz,← zaB];simp[T2,zvX,hy]
theorem zxK (hf:e.forms[k]?=some f) (hm:m=f.rows.length):T2 v e f i k m=T1 v e i (k+1):=by
 rw[T2,T1,T1,zeR,← zaB,hm];simp[zor,hf]
theorem zzX (he:v.entries[i]?=some e) (hk:k=e.forms.length):T1 v e i k=T0 v (i+1):=by
 rw[T1,T0,T0,zeR,hk];simp[zvd,he]
theorem zzZ (hi:i=v.entries.length):T0 v i=zfz v:=by rw[hi];rfl
theorem zDT (e:VEntry) (i k:Nat):(zor e i k).length=((e.forms[k]?).map fun f=>f.rows.length).getD 0:=by
 unfold zor;cases e.forms[k]? <;> simp
theorem zvc (e:VEntry) (i:Nat):∀ k≤e.forms.length,((List.range k).flatMap (zor e i)).length=zon (e.forms.take k)
 | 0,_=>by simp[zon]
 | k+1,h=>by
  obtain ⟨f,hf⟩:∃ f,e.forms[k]?=some f:=⟨_,zn zW⟩;rw[zeR,zj,zvc e i k zW,zqF hf,zDT,hf];rfl
def zff (r:Records) (v:Volume):Int:=if zpd r≠0 then zpd r else if zlw v=true then 0 else 100
theorem zzY (v:Volume):∀ i≤v.entries.length,(T0 v i).length=ziJ (v.entries.take i)
 | 0,_=>by simp[T0,ziJ]
 | i+1,h=>by
  obtain ⟨e,he⟩:∃ e,v.entries[i]?=some e:=⟨_,zn zW⟩;have h1:=zzY v i zW;rw[T0] at h1 ⊢;rw[zeR,zj,h1,znR he,show zvd v i=(List.range e.forms.length).flatMap (zor e i) by simp[zvd,he],zvc e i _ (zbR _),zS (zbR _)]
theorem zkr (v:Volume):(zfz v).length=ziJ v.entries:=by
 have:=zzY v v.entries.length (zbR _);rw[zS (zbR _)] at this;exact this
theorem zFH (he:v.entries[i]?=some e) (hf:e.forms[k]?=some f) (hm:m<f.rows.length) (hy:f.rows[m]?=some y):(zfz v)[(T2 v e f i k m).length]?=some (⟨i,k,m⟩,⟨e.head,f.word,y⟩):=by
 obtain ⟨R1,e1⟩:=zpk (zvd v) (k_List_getElem__eq_some_iff.1 he).1;obtain ⟨R2,e2⟩:=zpk (zor e i) (k_List_getElem__eq_some_iff.1 hf).1;obtain ⟨R3,e3⟩:=zuV (zvX e f i k) hm;have h1:zvd v i=(List.range e.forms.length).flatMap (zor e i):=by simp[zvd,he]
 have h2:zor e i k=(List.range f.rows.length).map (zvX e f i k):=by simp[zor,hf]
 have h3:zfz v=T2 v e f i k m++(zvX e f i k m::(R3++(R2++R1))):=by
  rw[zfz,e1,h1,e2,h2,e3,T2,T1,T0];simp
 rw[h3,zdg (zbR _)];simp[zvX,hy]
theorem zFI (he:v.entries[i]?=some e) (hf:e.forms[k]?=some f) (hm:m≤f.rows.length):(T2 v e f i k m).length≤ziJ v.entries:=by
 rcases zbK hm with h|h
 ·obtain ⟨y,hy⟩:∃ y,f.rows[m]?=some y:=⟨_,zn h⟩;have:=(k_List_getElem__eq_some_iff.1 (zFH (v:=v) he hf h hy)).1;rw[zkr] at this;omega
 have h1:=(k_List_getElem__eq_some_iff.1 he).1;have h2:=(k_List_getElem__eq_some_iff.1 hf).1;have a1:(T2 v e f i k m).length=ziJ (v.entries.take i)+zon (e.forms.take (k+1)):=by
  rw[zxK hf h,T1,zj,zzY v i zW,zvc e i _ zW]
 have a2:zon (e.forms.take (k+1))≤zon e.forms:=zol _ _ _;have a3:=znR he;have a4:ziJ (v.entries.take (i+1))≤ziJ v.entries:=zol _ _ _;omega
end
theorem zDi {v:Volume} {k: Nat} (he:v.entries[i]?=some e) (hk:k≤e.forms.length):ziJ (v.entries.take i)+zon (e.forms.take k)≤ziJ v.entries:=by
 have a2:zon (e.forms.take k)≤zon e.forms:=zol _ _ _;have a3:=znR he;have a4:ziJ (v.entries.take (i+1))≤ziJ v.entries:=zol _ _ _;omega
theorem zCi (l:List VEntry) (i:Nat):zjG (l.take i)≤zjG l:=zol _ _ _
theorem zBN (l:List VEntry) (i:Nat):ziJ (l.take i)≤ziJ l:=zol _ _ _
theorem zEW {c: Int}:zuf a b≤c↔a≤c∧b≤c:=by unfold zuf;split <;> omega
theorem zDd (v:Volume):decide (zuf (zuf (v.entries.length:Int) (zjG v.entries:Int)) (ziJ v.entries:Int)≤700)=zlw v:=by
 rw[zlw,zdR];simp only[zEW,zX,zK];omega
def znu (l:List (Trip×Found)):Nat:=(l.filter fun x=>decide (x.2.row.sure=1)).length
theorem zuT {t:Trip} {x:Found} (h:x.row.sure=1):znu (l++[(t,x)])=znu l+1:=by simp[znu,h]
theorem zwM {t:Trip} {x:Found} (h:¬ x.row.sure=1):znu (l++[(t,x)])=znu l:=by simp[znu,h]
theorem zAL (l:List (Trip×Found)):znu l≤l.length:=zak _ _
theorem zES (h:x.2.row.sure=1):znu (l++[x])=znu l+1:=zuT (t:=x.1) h
theorem zET (h:¬ x.2.row.sure=1):znu (l++[x])=znu l:=zwM (t:=x.1) h
def zBv (x:Found):Prop:=x.head.stem.length≤281474976710656∧(0≤x.head.mark∧x.head.mark≤255)∧x.word.length≤281474976710656∧(0≤x.row.sure∧x.row.sure≤255)
def zfU (l:List (Trip×Found)) (p:Place):List Trip:=(l.filter fun x=>decide (x.2.row.at_=p)).map (·.1)
theorem zxf {t:Trip} {x:Found} (h:x.row.at_=p):zfU (l++[(t,x)]) p=zfU l p++[t]:=by simp[zfU,h]
theorem zyS {t:Trip} {x:Found} (h:¬ x.row.at_=p):zfU (l++[(t,x)]) p=zfU l p:=by simp[zfU,h]
theorem znU (l:List (Trip×Found)) (p:Place):(zfU l p).length≤l.length:=by
 rw[zfU,zaa];exact zak _ _
theorem zGX (v:Volume) (h:i≤v.entries.length):(T0 v i).length≤ziJ v.entries:=by
 rw[zzY v i h];exact zol _ _ _
def zid (r:Records) (v:Volume) (p:Place):Trip×Int:=if zff r v≠0 then (⟨0,0,0⟩,zff r v) else if zeb r.text p=true then (match (zfU (zfz v) p)[0]? with|some t=>(t,0)|none=>(⟨0,0,0⟩,6)) else (⟨0,0,0⟩,12)
def zEk (r:Records) (v:Volume) (lo hi:Int):List Place:=(zbJ r.text).filter fun p=>decide (lo≤((zfU (zfz v) p).length:Int)) && decide (((zfU (zfz v) p).length:Int)≤hi)
def zjs (r:Records) (v:Volume) (lo hi:Int):List Place:=if zff r v=0 then zEk r v lo hi else []
def zGh (wd:Str) (x:Row) (f:Form):Bool:=f.rows.any fun y=>decide (f.word=wd) && decide (y=x)
def zFh (e:VEntry) (wd:Str) (x:Row):Bool:=e.forms.any (zGh wd x)
def zvY (l:List VEntry) (hd:Head) (wd:Str) (x:Row):Bool:=zFh ((znp l hd).getD znl) wd x
def zkp (r:Records) (l:List (Trip×Found)):List Trip:=(l.filter fun x=>!zvY (zia r) x.2.head x.2.word x.2.row).map (·.1)
def zox (r:Records) (v:Volume):List Trip:=if zff r v=0 then zkp r (zfz v) else []
theorem ztc {t:Trip} {x:Found} (h:zvY (zia r) x.head x.word x.row=false):zkp r (l++[(t,x)])=zkp r l++[t]:=by simp[zkp,h]
theorem zuJ {t:Trip} {x:Found} (h:zvY (zia r) x.head x.word x.row=true):zkp r (l++[(t,x)])=zkp r l:=by simp[zkp,h]
theorem zqg (r:Records) (l:List (Trip×Found)):(zkp r l).length≤l.length:=by
 rw[zkp,zaa];exact zak _ _
def zHc:Found:=⟨zkS,[],zHJ⟩
def zzt (v:Volume) (k:Nat):Trip×Found:=((zfz v)[k]?).getD (⟨0,0,0⟩,zHc)
theorem zCC {v:Volume} {k:Nat} (h:(zfz v)[k]?=some x):zzt v k=x:=by rw[zzt,h];rfl
theorem zBb {k:Nat} (h:l[k]?=some x) (hp:∀ q∈l.take k,¬ q.2.row.at_=p) (hx:x.2.row.at_=p):(zfU l p)[0]?=some x.1:=by
 have e:l=l.take k++x::l.drop (k+1):=by rw[← zjS h,zbS]
 rw[e,zfU,zbc,zgP.2 (by simpa using hp),zbo,zab (by simpa using hx)];simp
theorem zCj (hp:∀ q∈l,¬ q.2.row.at_=p):zfU l p=[]:=by
 rw[zfU,zgP.2 (by simpa using hp)];rfl
theorem zDR {m0: List (Place×Bool)} {ws:List Place} {w:Place} (hm:∀ k,zcI m k=if k∈ws then none else zcI m0 k):∀ k,zcI (zni m w) k=if k∈ws++[w] then none else zcI m0 k:=by
 intro k;rw[zuY,hm]
 by_cases e:k=w
 ·subst e;simp
 rw[zam e];simp[e]
def atF (x:Trip×Found):Place:=x.2.row.at_
theorem zxd {t:Text} (hm:∀ k,zcI m k=if k∈l.map atF then none else zcI (zrl (zbJ t)) k) (hp:p∈zbJ t):(zcI m p).getD false=(decide ((0:Int)≤((zfU l p).length:Int)) && decide (((zfU l p).length:Int)≤0)):=by
 rw[hm];have h1:p∈l.map atF↔zfU l p≠[]:=by
  rw[zbk,zfU,ne_eq,List.map_eq_nil_iff,zgP];constructor
  ·rintro ⟨x,hx,rfl⟩ q;exact q x hx (by simp[atF])
  ·intro q
   by_cases h:∃ a,a∈l∧atF a=p
   ·exact h
   ·exact absurd (fun a ha=>by simp only[zX];intro e;exact h ⟨a,ha,e⟩) q
 by_cases h:p∈l.map atF
 ·rw[zab h];have h2:=k_List_length_pos_iff.2 (h1.1 h);have h3:¬ ((zfU l p).length:Int)≤0:=by omega
  rw[show (decide ((0:Int)≤((zfU l p).length:Int)) && decide (((zfU l p).length:Int)≤0))=false by rw[zfN];exact .inr (zcU h3)];rfl
 rw[zam h];have h2:zfU l p=[]:=by
  by_cases q:zfU l p=[]
  ·exact q
  ·exact absurd (h1.2 q) h
 simp[h2,zuW,hp]
theorem znO {m:List (Place×Int)} (hm:∀ k,(zcI m k).getD 0=((zfU l k).length:Int)) {m2:List (Place×Int)} (h2:∀ k,zcI m2 k=if k=x.2.row.at_ then some ((zcI m x.2.row.at_).getD 0+1) else zcI m k):∀ k,(zcI m2 k).getD 0=((zfU (l++[x]) k).length:Int):=by
 intro k;rw[h2]
 by_cases e:k=x.2.row.at_
 ·subst e;rw[zab rfl,zdK,hm,show l++[x]=l++[(x.1,x.2)] from rfl,zxf rfl];simp
 rw[zam e,hm,show l++[x]=l++[(x.1,x.2)] from rfl,zyS (fun q=>e q.symm)]
def zlj (v:Volume):Int×Int×Int:=if zlw v=true then ((ziJ v.entries:Int),(znu (zfz v):Int),0) else (0,0,100)
theorem zDE {v:Volume} {x:Found}:x∈(zfz v).map (·.2)↔∃ e∈v.entries,∃ f∈e.forms,∃ y∈f.rows,x=⟨e.head,f.word,y⟩:=by
 simp only[zbk,zfz,zeh,zbZ];constructor
 ·rintro ⟨q,⟨i,hi,hq⟩,rfl⟩;have he:=zn hi;rw[zvd,he] at hq;obtain ⟨k,hk,hq⟩:=zeh.1 hq;have hk:=zbZ.1 hk;have hf:=zn hk;rw[zor,hf] at hq;obtain ⟨m,hm,rfl⟩:=zbk.1 hq;have hm:=zbZ.1 hm;have hy:=zn hm;exact ⟨_,zdB hi,_,zdB hk,_,zdB hm,by rw[zvX,hy];rfl⟩
 rintro ⟨e,he,f,hf,y,hy,rfl⟩;obtain ⟨i,hi⟩:=k_List_mem_iff_getElem_.1 he;obtain ⟨k,hk⟩:=k_List_mem_iff_getElem_.1 hf;obtain ⟨m,hm⟩:=k_List_mem_iff_getElem_.1 hy;refine ⟨zvX e f i k m,⟨i,(k_List_getElem__eq_some_iff.1 hi).1,?_⟩,by rw[zvX,hm];rfl⟩;rw[zvd,hi];refine zeh.2 ⟨k,zbZ.2 (k_List_getElem__eq_some_iff.1 hk).1,?_⟩;rw[zor,hk];exact zbk.2 ⟨m,zbZ.2 (k_List_getElem__eq_some_iff.1 hm).1,rfl⟩
theorem zFg {wd:Str} {x:Row}:zFh e wd x=true↔∃ f∈e.forms,f.word=wd∧x∈f.rows:=by
 simp only[zFh,zGh,zbM,zK,zX];constructor
 ·rintro ⟨f,hf,y,hy,h1,rfl⟩;exact ⟨f,hf,h1,hy⟩
 rintro ⟨f,hf,h1,h2⟩;exact ⟨f,hf,x,h2,h1,rfl⟩
def zHC (r:Records):List (Found×Bool):=zrl ((zfz (Volume.mk (zia r))).map (·.2))
theorem zwm (r:Records) (x:Found):(zcI (zHC r) x).getD false=zvY (zia r) x.head x.word x.row:=by
 have key:x∈(zfz (Volume.mk (zia r))).map (·.2)↔zvY (zia r) x.head x.word x.row=true:=by
  rw[zDE,zvY,zFg];have hd:∀ e∈zia r,znp (zia r) e.head=some e:=by
   intro e he;obtain ⟨hd,hm,rfl⟩:=zbk.1 he;cases hf:znp (zia r) (zrO r hd).head with
   | none=>exact absurd (show decide ((zrO r hd).head=(zrO r hd).head)=true from zdi rfl) (zdM.1 hf _ he)
   | some e'=>
    have h1:=zjc hf;have h2:e'.head=hd:=zej h1;obtain ⟨h',_,rfl⟩:=zbk.1 (zfw hf);have h3:h'=hd:=h2;rw[h3]
  constructor
  ·rintro ⟨e,he,f,hf,y,hy,rfl⟩;rw[hd e he];exact ⟨f,hf,rfl,hy⟩
  ·rintro ⟨f,hf,hw,hy⟩;cases hs:znp (zia r) x.head with
   | none=>rw[hs] at hf;cases hf
   | some e=>
    rw[hs] at hf;have h1:=zjc hs;have h2:e.head=x.head:=zej h1;exact ⟨e,zfw hs,f,hf,x.row,hy,by rw[h2,hw]⟩
 rw[zHC,zuW,zdR,← key]
 by_cases h:x∈(zfz (Volume.mk (zia r))).map (·.2)
 ·rw[zab h];simp[h]
 rw[zam h];simp[h]
theorem zrN {α:Type} (g:α→Int) (f:Nat→List α) (hf:∀ i,(f i).Nodup) (hg:∀ i,∀ x∈f i,g x=(i:Int)):∀ n,((List.range n).flatMap f).Nodup
 | 0=>by simp
 | n+1=>by
  rw[zeR,zcx];refine ⟨zrN g f hf hg n,hf n,fun a ha b hb e=>?_⟩;subst e;obtain ⟨i,hi,ha⟩:=zeh.1 ha;have h1:=hg i a ha;have h2:=hg n a hb;have:=zbZ.1 hi;omega
theorem zEt (v:Volume):((zfz v).map (·.1)).Nodup:=by
 rw[zfz,List.map_flatMap];refine zrN (·.a) _ (fun i=>?_) (fun i x hx=>?_) _
 ·rw[zvd];split
  ·rename_i e he;rw[List.map_flatMap];refine zrN (·.b) _ (fun k=>?_) (fun k x hx=>?_) _
   ·rw[zor];split
    ·rw[zhf];exact List.pairwise_map.2 (List.Pairwise.imp (fun hne e=>hne (by simp[zvX] at e;omega)) List.nodup_range)
    ·simp
   ·rw[zor] at hx;split at hx
    ·rw[zhf] at hx;obtain ⟨m,_,rfl⟩:=zbk.1 hx;rfl
    ·simp at hx
  ·simp
 rw[zvd] at hx;split at hx
 ·rw[List.map_flatMap] at hx;obtain ⟨k,_,hx⟩:=zeh.1 hx;rw[zor] at hx;split at hx
  ·rw[zhf] at hx;obtain ⟨m,_,rfl⟩:=zbk.1 hx;rfl
  ·simp at hx
 simp at hx
theorem zDj {v:Volume} (h:x∈zfz v):0≤x.1.a:=by
 obtain ⟨i,_,h⟩:=zeh.1 h;rw[zvd] at h;split at h
 ·obtain ⟨k,_,h⟩:=zeh.1 h;rw[zor] at h;split at h
  ·obtain ⟨m,_,rfl⟩:=zbk.1 h;simp[zvX]
  ·cases h
 cases h
def znw (r:Records) (l:List (Trip×Found)):Trip:=((zkp r l).getLast?).getD ⟨-1,0,0⟩
theorem zDI (h:zvY (zia r) x.2.head x.2.word x.2.row=false):znw r (l++[x])=x.1:=by
 rw[znw,show l++[x]=l++[(x.1,x.2)] from rfl,ztc h];simp
theorem zFc (h:zvY (zia r) x.2.head x.2.word x.2.row=true):znw r (l++[x])=znw r l:=by
 rw[znw,show l++[x]=l++[(x.1,x.2)] from rfl,zuJ h];rfl
theorem zCW (h:zvY (zia r) x.2.head x.2.word x.2.row=false):zkp r (l++[x])=zkp r l++[x.1]:=ztc (t:=x.1) h
theorem zCX (h:zvY (zia r) x.2.head x.2.word x.2.row=true):zkp r (l++[x])=zkp r l:=zuJ (t:=x.1) h
theorem zDJ {v:Volume} {pre:List (Trip×Found)} (hp:pre=(zfz v).take pre.length) (hx:(zfz v)[pre.length]?=some x):¬ x.1=znw r pre:=by
 intro e;have hm:=zD hx;cases hl:(zkp r pre).getLast? with
 | none=>rw[znw,hl] at e;have:=zDj hm;rw[e] at this;exact absurd this (by decide)
 | some t=>
  rw[znw,hl] at e;have ht:t∈zkp r pre:=zii hl;obtain ⟨y,hy,rfl⟩:=zbk.1 ht;have hy:=(zcl.1 hy).1;have hs:zfz v=pre++x::(zfz v).drop (pre.length+1):=by
   conv=>lhs;rw[← zbS pre.length (zfz v),← hp,zjS hx]
  have hn:=zEt v;rw[hs,zaz,zbQ,zcx] at hn;exact hn.2.2 y.1 (zbk.2 ⟨y,hy,rfl⟩) x.1 zct e.symm
def zEg:Lay Value:={ size:=1,R:=fun _ vs x=>vs=[x]∧x.oneCell'=true,up:=(fun h _=>h),len:=(by rintro _ _ _ ⟨rfl,_⟩;rfl),one:=(by rintro _ _ _ ⟨rfl,h⟩ u hu;simp only[zgc] at hu;rw[hu];exact h) }
theorem St.none {own:Own} {k b:Nat} {o:Obj} (st:St h0 w0 h w own) (hk:own[k]?=some [(b,o)]):h b=none:=
 (st.mine (b,o) (List.mem_flatten.2 ⟨_,zD hk,by simp⟩)).2.1
section
variable {α:Type} {L:Lay α} {T:TypeId} {h:Heap} {v:Value} {xs:List (List α)} {o:List (Nat×Obj)}
theorem OSl.raw (e:OSl (LSl L) T h v xs o):∃ hds,OSl zEg T h v hds o∧hds.length=xs.length∧∀ (i:Nat) (hd:Value) (x:List α),hds[i]?=some hd→xs[i]?=some x→Sl L h hd x:=by
 obtain ⟨cs,e1,e2⟩:=e;have hsz:(LSl L).size=1:=rfl;have hl:cs.length=xs.length:=by rw[e1.1,hsz,zif]
 have hc:∀ (i:Nat) (x:List α),xs[i]?=some x→∃ hd,cs[i]?=some hd∧Sl L h hd x:=by
  intro i x hx;have hr:=e1.2 i x hx;have hi:=(k_List_getElem__eq_some_iff.1 hx).1;have e3:List.take 1 (List.drop (i*1) cs)=[cs[i]'zW]:=by
   rw[zif,zcX zW];rfl
  rw[hsz,e3] at hr;refine ⟨_,zn zW,?_⟩;simpa [LSl] using hr
 refine ⟨cs,⟨cs,⟨by simp[zEg],fun i x hx=>?_⟩,?_⟩,hl,fun i hd x h1 h2=>?_⟩
 ·obtain ⟨hi,rfl⟩:=k_List_getElem__eq_some_iff.1 hx;obtain ⟨hd,q1,q2⟩:=hc i _ (zn zW);have q3:cs[i]=hd:=by rw[zn hi] at q1;exact zeO q1
  refine ⟨?_,by rw[q3];exact q2.one⟩;show List.take 1 (List.drop (i*1) cs)=[cs[i]];rw[zif,zcX hi];rfl
 ·rcases e2 with ⟨p,q,z⟩|⟨g,cap,cur,q1,q2,q3,q4,q5,q6⟩
  ·subst q;exact .inl ⟨p,zee (by simpa using hl),z⟩
  ·exact .inr ⟨g,cap,cur,by rw[q1,hl],q2,by rw[hl];exact q3,q4,by rw[q5];rfl,by rw[hl];exact q6⟩
 obtain ⟨hd',q1,q2⟩:=hc i x h2;rw[h1] at q1;cases q1;exact q2
theorem OSl.unraw (e:OSl zEg T h v hds o) (hl:hds.length=xs.length) (hh:∀ (i:Nat) (hd:Value) (x:List α),hds[i]?=some hd→xs[i]?=some x→Sl L h hd x):OSl (LSl L) T h v xs o:=by
 obtain ⟨cs,e1,e2⟩:=e;refine ⟨cs,⟨by rw[e1.1,hl];rfl,fun i x hx=>?_⟩,?_⟩
 ·have hi:=(k_List_getElem__eq_some_iff.1 hx).1;obtain ⟨hd,q⟩:∃ hd,hds[i]?=some hd:=⟨_,zn zW⟩;obtain ⟨r1,_⟩:=e1.2 i hd q;have:=hh i hd x q hx;show (LSl L).R h (List.take 1 (List.drop (i*1) cs)) x;rw[show List.take 1 (List.drop (i*1) cs)=[hd] from r1];simpa [LSl] using this
 rcases e2 with ⟨p,q,z⟩|⟨g,cap,cur,q1,q2,q3,q4,q5,q6⟩
 ·subst q;exact .inl ⟨p,zee (by simpa using hl.symm),z⟩
 exact .inr ⟨g,cap,cur,by rw[q1,hl],q2,by rw[← hl];exact q3,q4,by rw[q5];rfl,by rw[← hl];exact q6⟩
theorem zEz {h':Heap} {hd:Value} {x:List α} (l:Le h h') (hl:hds.length=xs.length) (hh:∀ (i:Nat) (hd:Value) (x:List α),hds[i]?=some hd→xs[i]?=some x→Sl L h hd x) (hx:Sl L h' hd x):
  (hds++[hd]).length=(xs++[x]).length∧∀ (i:Nat) (hd':Value) (x':List α),(hds++[hd])[i]?=some hd'→(xs++[x])[i]?=some x'→Sl L h' hd' x':=by
 refine ⟨by simp[hl],fun i hd' x' e1 e2=>?_⟩
 rcases zAZ e1 with e1|⟨e1,rfl⟩
 ·have:=(k_List_getElem__eq_some_iff.1 e1).1;rw[zcN zW] at e2;exact (hh i hd' x' e1 e2).up l
 ·rcases zAZ e2 with e2|⟨_,rfl⟩
  ·have:=(k_List_getElem__eq_some_iff.1 e2).1;omega
  ·exact hx
end
theorem zyx {own:Own} {ty' : TypeId} {pos' : String} {aft' : Array Edge} {d:Nat} (st:St h0 w0 h w own) {e t:TypeId} {z: Value} {x: Operand} (hz:∀ w,(zeroValue e).run P w=.ok z w) (hc:z.cells=[c].toArray) (hd:Nat.blt d n=true) (hx:x=.tmp d) (hy:∀ b,ev (upd σ d (.pointer (some ⟨b,0,none⟩))) y=v) (h1:v.oneCell'=true) (hs:∀ w,(sizeOf t).run P w=.ok 1 w) (hk:∀ b w' h',Le h h'→zaL h' b 0 [v]→St h0 w0 h' w' own→M P n ops rest Kw (upd σ d (.pointer (some ⟨b,0,none⟩))) w'):
  M P n ops (⟨some d,.alloc e,ty,pos,aft,none⟩::⟨none,.store t x y,ty',pos',aft',none⟩::rest) Kw σ w:=by
 refine zaf st hz hc hd fun b w1 st1=>?_;subst hx;refine zeH st1 (k:=own.length) (b:=b) (off:=0) (cs:=[c]) (T:=e) (by simp) (by simp[ev,upd]) (hy b) h1 hs (by simp) (cs':=[v]) rfl rfl fun w2 st2=>?_;have e1:(own++[[(b,Obj.cells [c].toArray e)]]).set own.length [(b,.cells [v].toArray e)]=own++[[(b,.cells [v].toArray e)]]:=by simp
 rw[e1] at st2;obtain ⟨h',hle,hb,st3⟩:=st2.freeze (k:=own.length) (b:=b) (o:=.cells [v].toArray e) (by simp);have e2:(own++[[(b,Obj.cells [v].toArray e)]]).set own.length []=own++[[]]:=by simp
 rw[e2] at st3;exact hk b w2 h' hle (zaL.of hb) ⟨st3.le,st3.new,st3.sub,st3.below,fun p hp=>st3.mine p (by simpa using hp),by simpa using st3.nodup⟩
theorem zAx {W:World} {t:TypeId} (hu:P.underlying t=some (.struct fs)) (hc:P.cellsOf t=3) (h0:fs[0]?=some f0) (o0:f0.offset=0) (n0:P.cellsOf f0.type=1) (r0:zdr P W f0.type zeg) (h1:fs[1]?=some f1) (o1:f1.offset=1) (n1:P.cellsOf f1.type=1) (r1:zdr P W f1.type zeg) (h2:fs[2]?=some f2) (o2:f2.offset=2) (n2:P.cellsOf f2.type=1) (r2:zdr P W f2.type zeg):zdr P W t zdO:=by
 intro H enc sp held fuel cs d ps h hw;obtain ⟨hl,hf⟩:=zfL hu hc h hw
 match cs,hl with
 | [c0,c1,c2],_=>
 obtain ⟨x0,e0⟩:=hf 0 f0 h0 r0;rw[o0,n0] at e0;simp only[zfZ] at e0;cases (show [c0]=[_] from e0);obtain ⟨x1,e1⟩:=hf 1 f1 h1 r1;rw[o1,n1] at e1;simp only[zfZ] at e1;cases (show [c1]=[_] from e1);obtain ⟨x2,e2⟩:=hf 2 f2 h2 r2;rw[o2,n2] at e2;simp only[zfZ] at e2;cases (show [c2]=[_] from e2);exact ⟨⟨x0,x1,x2⟩,rfl⟩
theorem zxZ {W:World} {t:TypeId} (hu:P.underlying t=some (.struct fs)) (hc:P.cellsOf t=2) (h0:fs[0]?=some f0) (o0:f0.offset=0) (n0:P.cellsOf f0.type=1) (r0:zdr P W f0.type zeg) (h1:fs[1]?=some f1) (o1:f1.offset=1) (n1:P.cellsOf f1.type=1) (r1:zdr P W f1.type (LSl (LSl zea))):zdr P W t zaN:=by
 intro H enc sp held fuel cs d ps h hw;obtain ⟨hl,hf⟩:=zfL hu hc h hw
 match cs,hl with
 | [c0,c1],_=>
 obtain ⟨x0,e0⟩:=hf 0 f0 h0 r0;rw[o0,n0] at e0;simp only[zfZ] at e0;cases (show [c0]=[_] from e0);obtain ⟨x1,e1⟩:=hf 1 f1 h1 r1;rw[o1,n1] at e1;simp only[zfZ] at e1;obtain ⟨v1,q1,g1⟩:=e1;cases q1;exact ⟨⟨x0,x1⟩,⟨_,rfl,g1⟩⟩
theorem zBQ {W:World} {t:TypeId} (hu:P.underlying t=some (.struct fs)) (hc:P.cellsOf t=1) (h0:fs[0]?=some f0) (o0:f0.offset=0) (n0:P.cellsOf f0.type=1) (r0:zdr P W f0.type (LSl zaN)):zdr P W t zBw:=by
 intro H enc sp held fuel cs d ps h hw;obtain ⟨hl,hf⟩:=zfL hu hc h hw
 match cs,hl with
 | [c0],_=>
 obtain ⟨x0,e0⟩:=hf 0 f0 h0 r0;rw[o0,n0] at e0;simp only[zfZ] at e0;obtain ⟨v0,q0,g0⟩:=e0;cases q0;exact ⟨⟨x0⟩,⟨_,rfl,g0⟩⟩
theorem zBS {W:World} {t:TypeId} (hu:P.underlying t=some (.struct fs)) (hc:P.cellsOf t=2) (h0:fs[0]?=some f0) (o0:f0.offset=0) (n0:P.cellsOf f0.type=1) (r0:zdr P W f0.type zea) (h1:fs[1]?=some f1) (o1:f1.offset=1) (n1:P.cellsOf f1.type=1) (r1:zdr P W f1.type LU8):zdr P W t zhb:=by
 intro H enc sp held fuel cs d ps h hw;obtain ⟨hl,hf⟩:=zfL hu hc h hw
 match cs,hl with
 | [c0,c1],_=>
 obtain ⟨x0,e0⟩:=hf 0 f0 h0 r0;rw[o0,n0] at e0;simp only[zfZ] at e0;obtain ⟨q0,g0⟩:=e0;cases q0;obtain ⟨x1,e1⟩:=hf 1 f1 h1 r1;rw[o1,n1] at e1;simp only[zfZ] at e1;obtain ⟨q1,g1⟩:=e1;cases q1;exact ⟨⟨x0,x1⟩,⟨rfl,g0,g1⟩⟩
theorem zBR {W:World} {t:TypeId} (hu:P.underlying t=some (.struct fs)) (hc:P.cellsOf t=3) (h0:fs[0]?=some f0) (o0:f0.offset=0) (n0:P.cellsOf f0.type=1) (r0:zdr P W f0.type zea) (h1:fs[1]?=some f1) (o1:f1.offset=1) (n1:P.cellsOf f1.type=1) (r1:zdr P W f1.type zea) (h2:fs[2]?=some f2) (o2:f2.offset=2) (n2:P.cellsOf f2.type=1) (r2:zdr P W f2.type zeg):zdr P W t zeE:=by
 intro H enc sp held fuel cs d ps h hw;obtain ⟨hl,hf⟩:=zfL hu hc h hw
 match cs,hl with
 | [c0,c1,c2],_=>
 obtain ⟨x0,e0⟩:=hf 0 f0 h0 r0;rw[o0,n0] at e0;simp only[zfZ] at e0;obtain ⟨q0,g0⟩:=e0;cases q0;obtain ⟨x1,e1⟩:=hf 1 f1 h1 r1;rw[o1,n1] at e1;simp only[zfZ] at e1;obtain ⟨q1,g1⟩:=e1;cases q1;obtain ⟨x2,e2⟩:=hf 2 f2 h2 r2;rw[o2,n2] at e2;simp only[zfZ] at e2;cases (show [c2]=[_] from e2);exact ⟨⟨x0,x1,x2⟩,⟨rfl,g0,g1⟩⟩
theorem zwB {W:World} {t:TypeId} (hu:P.underlying t=some (.struct fs)) (hc:P.cellsOf t=9) (h0:fs[0]?=some f0) (o0:f0.offset=0) (n0:P.cellsOf f0.type=1) (r0:zdr P W f0.type zeg) (h1:fs[1]?=some f1) (o1:f1.offset=1) (n1:P.cellsOf f1.type=1) (r1:zdr P W f1.type LU8) (h2:fs[2]?=some f2) (o2:f2.offset=2) (n2:P.cellsOf f2.type=1) (r2:zdr P W f2.type zea) (h3:fs[3]?=some f3) (o3:f3.offset=3) (n3:P.cellsOf f3.type=3) (r3:zdr P W f3.type zdO) (h4:fs[4]?=some f4) (o4:f4.offset=6) (n4:P.cellsOf f4.type=2) (r4:zdr P W f4.type zhb) {f5:Field} (h5:fs[5]?=some f5) (o5:f5.offset=8) (n5:P.cellsOf f5.type=1) (r5:zdr P W f5.type zeg):zdr P W t zaG:=by
 intro H enc sp held fuel cs d ps h hw;obtain ⟨hl,hf⟩:=zfL hu hc h hw
 match cs,hl with
 | [c0,c1,c2,c3,c4,c5,c6,c7,c8],_=>
 obtain ⟨x0,e0⟩:=hf 0 f0 h0 r0;rw[o0,n0] at e0;simp only[zfZ] at e0;cases (show [c0]=[_] from e0);obtain ⟨x1,e1⟩:=hf 1 f1 h1 r1;rw[o1,n1] at e1;simp only[zfZ] at e1;obtain ⟨q1,g1⟩:=e1;cases q1;obtain ⟨x2,e2⟩:=hf 2 f2 h2 r2;rw[o2,n2] at e2;simp only[zfZ] at e2;obtain ⟨q2,g2⟩:=e2;cases q2;obtain ⟨x3,e3⟩:=hf 3 f3 h3 r3;rw[o3,n3] at e3;simp only[zfZ] at e3;have q3:=e3;cases (show [c3,c4,c5]=_ from q3);obtain ⟨x4,e4⟩:=hf 4 f4 h4 r4;rw[o4,n4] at e4;simp only[zfZ] at e4;obtain ⟨q4,g4_0,g4_1⟩:=e4;cases (show [c6,c7]=_ from q4);obtain ⟨x5,e5⟩:=hf 5 f5 h5 r5;rw[o5,n5] at e5;simp only[zfZ] at e5;cases (show [c8]=[_] from e5);exact ⟨⟨x0,x1,x2,x3,x4,x5⟩,⟨rfl,g1,g2,g4_0,g4_1⟩⟩
theorem zxX {W:World} {t:TypeId} (hu:P.underlying t=some (.struct fs)) (hc:P.cellsOf t=2) (h0:fs[0]?=some f0) (o0:f0.offset=0) (n0:P.cellsOf f0.type=1) (r0:zdr P W f0.type (LSl zeE)) (h1:fs[1]?=some f1) (o1:f1.offset=1) (n1:P.cellsOf f1.type=1) (r1:zdr P W f1.type (LSl zaG)):zdr P W t zxP:=by
 intro H enc sp held fuel cs d ps h hw;obtain ⟨hl,hf⟩:=zfL hu hc h hw
 match cs,hl with
 | [c0,c1],_=>
 obtain ⟨x0,e0⟩:=hf 0 f0 h0 r0;rw[o0,n0] at e0;simp only[zfZ] at e0;obtain ⟨v0,q0,g0⟩:=e0;cases q0;obtain ⟨x1,e1⟩:=hf 1 f1 h1 r1;rw[o1,n1] at e1;simp only[zfZ] at e1;obtain ⟨v1,q1,g1⟩:=e1;cases q1;exact ⟨⟨x0,x1⟩,⟨_,_,rfl,g0,g1⟩⟩
theorem zxW {W:World} {t:TypeId} (hu:P.underlying t=some (.struct fs)) (hc:P.cellsOf t=5) (h0:fs[0]?=some f0) (o0:f0.offset=0) (n0:P.cellsOf f0.type=3) (r0:zdr P W f0.type zdO) (h1:fs[1]?=some f1) (o1:f1.offset=3) (n1:P.cellsOf f1.type=1) (r1:zdr P W f1.type LU8) (h2:fs[2]?=some f2) (o2:f2.offset=4) (n2:P.cellsOf f2.type=1) (r2:zdr P W f2.type zea):zdr P W t zgz:=by
 intro H enc sp held fuel cs d ps h hw;obtain ⟨hl,hf⟩:=zfL hu hc h hw
 match cs,hl with
 | [c0,c1,c2,c3,c4],_=>
 obtain ⟨x0,e0⟩:=hf 0 f0 h0 r0;rw[o0,n0] at e0;simp only[zfZ] at e0;have q0:=e0;cases (show [c0,c1,c2]=_ from q0);obtain ⟨x1,e1⟩:=hf 1 f1 h1 r1;rw[o1,n1] at e1;simp only[zfZ] at e1;obtain ⟨q1,g1⟩:=e1;cases q1;obtain ⟨x2,e2⟩:=hf 2 f2 h2 r2;rw[o2,n2] at e2;simp only[zfZ] at e2;obtain ⟨q2,g2⟩:=e2;cases q2;exact ⟨⟨x0,x1,x2⟩,⟨rfl,g1,g2⟩⟩
theorem zBU {W:World} {t:TypeId} (hu:P.underlying t=some (.struct fs)) (hc:P.cellsOf t=2) (h0:fs[0]?=some f0) (o0:f0.offset=0) (n0:P.cellsOf f0.type=1) (r0:zdr P W f0.type zeg) (h1:fs[1]?=some f1) (o1:f1.offset=1) (n1:P.cellsOf f1.type=1) (r1:zdr P W f1.type (LSl zgz)):zdr P W t zhl:=by
 intro H enc sp held fuel cs d ps h hw;obtain ⟨hl,hf⟩:=zfL hu hc h hw
 match cs,hl with
 | [c0,c1],_=>
 obtain ⟨x0,e0⟩:=hf 0 f0 h0 r0;rw[o0,n0] at e0;simp only[zfZ] at e0;cases (show [c0]=[_] from e0);obtain ⟨x1,e1⟩:=hf 1 f1 h1 r1;rw[o1,n1] at e1;simp only[zfZ] at e1;obtain ⟨v1,q1,g1⟩:=e1;cases q1;exact ⟨⟨x0,x1⟩,⟨_,rfl,g1⟩⟩
theorem zpE {H:Type} {enc:TypeId×Value→H} {W:World} {base:Nat} {sp:Nat→Bool} {held:Bool} {t:TypeId} {fuel:Nat} {q:List MemPlace} (hu:P.underlying t=some (.int .i64)) (h:DataW.trod enc P W base sp held fuel t [v]=some (.lit (.int .i64 b),q)):v=.int .i64 b:=by
 obtain ⟨n,e1,e2,_⟩:=DataW.trod_int hu h;simp_all
theorem zDt {W:World} {t:TypeId} (hu:P.underlying t=some (.struct fs)) (hc:P.cellsOf t=3) (h0:fs[0]?=some f0) (o0:f0.offset=0) (n0:P.cellsOf f0.type=1) (r0:zdr P W f0.type zeg) (h1:fs[1]?=some f1) (o1:f1.offset=1) (n1:P.cellsOf f1.type=1) (r1:zdr P W f1.type zeg) (h2:fs[2]?=some f2) (o2:f2.offset=2) (n2:P.cellsOf f2.type=1) (r2:zdr P W f2.type zeg):zdr P W t zHH:=by
 intro H enc sp held fuel cs d ps h hw;obtain ⟨hl,hf⟩:=zfL hu hc h hw
 match cs,hl with
 | [c0,c1,c2],_=>
 obtain ⟨x0,e0⟩:=hf 0 f0 h0 r0;rw[o0,n0] at e0;simp only[zfZ] at e0;cases (show [c0]=[_] from e0);obtain ⟨x1,e1⟩:=hf 1 f1 h1 r1;rw[o1,n1] at e1;simp only[zfZ] at e1;cases (show [c1]=[_] from e1);obtain ⟨x2,e2⟩:=hf 2 f2 h2 r2;rw[o2,n2] at e2;simp only[zfZ] at e2;cases (show [c2]=[_] from e2);exact ⟨⟨x0,x1,x2⟩,rfl⟩
theorem zxU {W:World} {t:TypeId} (hu:P.underlying t=some (.struct fs)) (hc:P.cellsOf t=5) (h0:fs[0]?=some f0) (o0:f0.offset=0) (n0:P.cellsOf f0.type=1) (r0:zdr P W f0.type zeg) (h1:fs[1]?=some f1) (o1:f1.offset=1) (n1:P.cellsOf f1.type=1) (r1:zdr P W f1.type zeg) (h2:fs[2]?=some f2) (o2:f2.offset=2) (n2:P.cellsOf f2.type=1) (r2:zdr P W f2.type zeg) (h3:fs[3]?=some f3) (o3:f3.offset=3) (n3:P.cellsOf f3.type=1) (r3:zdr P W f3.type zeg) (h4:fs[4]?=some f4) (o4:f4.offset=4) (n4:P.cellsOf f4.type=1) (r4:zdr P W f4.type zeg):zdr P W t zcp:=by
 intro H enc sp held fuel cs d ps h hw;obtain ⟨hl,hf⟩:=zfL hu hc h hw
 match cs,hl with
 | [c0,c1,c2,c3,c4],_=>
 obtain ⟨x0,e0⟩:=hf 0 f0 h0 r0;rw[o0,n0] at e0;simp only[zfZ] at e0;cases (show [c0]=[_] from e0);obtain ⟨x1,e1⟩:=hf 1 f1 h1 r1;rw[o1,n1] at e1;simp only[zfZ] at e1;cases (show [c1]=[_] from e1);obtain ⟨x2,e2⟩:=hf 2 f2 h2 r2;rw[o2,n2] at e2;simp only[zfZ] at e2;cases (show [c2]=[_] from e2);obtain ⟨x3,e3⟩:=hf 3 f3 h3 r3;rw[o3,n3] at e3;simp only[zfZ] at e3;cases (show [c3]=[_] from e3);obtain ⟨x4,e4⟩:=hf 4 f4 h4 r4;rw[o4,n4] at e4;simp only[zfZ] at e4;cases (show [c4]=[_] from e4);exact ⟨⟨x0,x1,x2,x3,x4⟩,rfl⟩
theorem zxY {W:World} {t:TypeId} (hu:P.underlying t=some (.struct fs)) (hc:P.cellsOf t=2) (h0:fs[0]?=some f0) (o0:f0.offset=0) (n0:P.cellsOf f0.type=1) (r0:zdr P W f0.type zeg) (h1:fs[1]?=some f1) (o1:f1.offset=1) (n1:P.cellsOf f1.type=1) (r1:zdr P W f1.type (LSl zcp)):zdr P W t zqy:=by
 intro H enc sp held fuel cs d ps h hw;obtain ⟨hl,hf⟩:=zfL hu hc h hw
 match cs,hl with
 | [c0,c1],_=>
 obtain ⟨x0,e0⟩:=hf 0 f0 h0 r0;rw[o0,n0] at e0;simp only[zfZ] at e0;cases (show [c0]=[_] from e0);obtain ⟨x1,e1⟩:=hf 1 f1 h1 r1;rw[o1,n1] at e1;simp only[zfZ] at e1;obtain ⟨v1,q1,g1⟩:=e1;cases q1;exact ⟨⟨x0,x1⟩,⟨_,rfl,g1⟩⟩
theorem zDu {W:World} {t:TypeId} (hu:P.underlying t=some (.struct fs)) (hc:P.cellsOf t=2) (h0:fs[0]?=some f0) (o0:f0.offset=0) (n0:P.cellsOf f0.type=1) (r0:zdr P W f0.type zeg) (h1:fs[1]?=some f1) (o1:f1.offset=1) (n1:P.cellsOf f1.type=1) (r1:zdr P W f1.type LU8):zdr P W t zHI:=by
 intro H enc sp held fuel cs d ps h hw;obtain ⟨hl,hf⟩:=zfL hu hc h hw
 match cs,hl with
 | [c0,c1],_=>
 obtain ⟨x0,e0⟩:=hf 0 f0 h0 r0;rw[o0,n0] at e0;simp only[zfZ] at e0;cases (show [c0]=[_] from e0);obtain ⟨x1,e1⟩:=hf 1 f1 h1 r1;rw[o1,n1] at e1;simp only[zfZ] at e1;obtain ⟨q1,g1⟩:=e1;cases q1;exact ⟨⟨x0,x1⟩,⟨rfl,g1⟩⟩
theorem zDs {W:World} {t:TypeId} (hu:P.underlying t=some (.struct fs)) (hc:P.cellsOf t=7) (h0:fs[0]?=some f0) (o0:f0.offset=0) (n0:P.cellsOf f0.type=3) (r0:zdr P W f0.type zdO) (h1:fs[1]?=some f1) (o1:f1.offset=3) (n1:P.cellsOf f1.type=3) (r1:zdr P W f1.type zHH) (h2:fs[2]?=some f2) (o2:f2.offset=6) (n2:P.cellsOf f2.type=1) (r2:zdr P W f2.type LU8):zdr P W t zqf:=by
 intro H enc sp held fuel cs d ps h hw;obtain ⟨hl,hf⟩:=zfL hu hc h hw
 match cs,hl with
 | [c0,c1,c2,c3,c4,c5,c6],_=>
 obtain ⟨x0,e0⟩:=hf 0 f0 h0 r0;rw[o0,n0] at e0;simp only[zfZ] at e0;have q0:=e0;cases (show [c0,c1,c2]=_ from q0);obtain ⟨x1,e1⟩:=hf 1 f1 h1 r1;rw[o1,n1] at e1;simp only[zfZ] at e1;have q1:=e1;cases (show [c3,c4,c5]=_ from q1);obtain ⟨x2,e2⟩:=hf 2 f2 h2 r2;rw[o2,n2] at e2;simp only[zfZ] at e2;obtain ⟨q2,g2⟩:=e2;cases q2;exact ⟨⟨x0,x1,x2⟩,⟨rfl,g2⟩⟩
theorem zBT {W:World} {t:TypeId} (hu:P.underlying t=some (.struct fs)) (hc:P.cellsOf t=2) (h0:fs[0]?=some f0) (o0:f0.offset=0) (n0:P.cellsOf f0.type=1) (r0:zdr P W f0.type zea) (h1:fs[1]?=some f1) (o1:f1.offset=1) (n1:P.cellsOf f1.type=1) (r1:zdr P W f1.type (LSl zqf)):zdr P W t zlT:=by
 intro H enc sp held fuel cs d ps h hw;obtain ⟨hl,hf⟩:=zfL hu hc h hw
 match cs,hl with
 | [c0,c1],_=>
 obtain ⟨x0,e0⟩:=hf 0 f0 h0 r0;rw[o0,n0] at e0;simp only[zfZ] at e0;obtain ⟨q0,g0⟩:=e0;cases q0;obtain ⟨x1,e1⟩:=hf 1 f1 h1 r1;rw[o1,n1] at e1;simp only[zfZ] at e1;obtain ⟨v1,q1,g1⟩:=e1;cases q1;exact ⟨⟨x0,x1⟩,⟨_,rfl,g0,g1⟩⟩
theorem zzo {W:World} {t:TypeId} (hu:P.underlying t=some (.struct fs)) (hc:P.cellsOf t=3) (h0:fs[0]?=some f0) (o0:f0.offset=0) (n0:P.cellsOf f0.type=2) (r0:zdr P W f0.type zhb) (h1:fs[1]?=some f1) (o1:f1.offset=2) (n1:P.cellsOf f1.type=1) (r1:zdr P W f1.type (LSl zlT)):zdr P W t zev:=by
 intro H enc sp held fuel cs d ps h hw;obtain ⟨hl,hf⟩:=zfL hu hc h hw
 match cs,hl with
 | [c0,c1,c2],_=>
 obtain ⟨x0,e0⟩:=hf 0 f0 h0 r0;rw[o0,n0] at e0;simp only[zfZ] at e0;obtain ⟨q0,g0_0,g0_1⟩:=e0;cases (show [c0,c1]=_ from q0);obtain ⟨x1,e1⟩:=hf 1 f1 h1 r1;rw[o1,n1] at e1;simp only[zfZ] at e1;obtain ⟨v1,q1,g1⟩:=e1;cases q1;exact ⟨⟨x0,x1⟩,⟨_,rfl,g0_0,g0_1,g1⟩⟩
theorem zzn {W:World} {t:TypeId} (hu:P.underlying t=some (.struct fs)) (hc:P.cellsOf t=1) (h0:fs[0]?=some f0) (o0:f0.offset=0) (n0:P.cellsOf f0.type=1) (r0:zdr P W f0.type (LSl zev)):zdr P W t zCS:=by
 intro H enc sp held fuel cs d ps h hw;obtain ⟨hl,hf⟩:=zfL hu hc h hw
 match cs,hl with
 | [c0],_=>
 obtain ⟨x0,e0⟩:=hf 0 f0 h0 r0;rw[o0,n0] at e0;simp only[zfZ] at e0;obtain ⟨v0,q0,g0⟩:=e0;cases q0;exact ⟨⟨x0⟩,⟨_,rfl,g0⟩⟩
theorem zxV {W:World} {t:TypeId} (hu:P.underlying t=some (.struct fs)) (hc:P.cellsOf t=8) (h0:fs[0]?=some f0) (o0:f0.offset=0) (n0:P.cellsOf f0.type=1) (r0:zdr P W f0.type zBw) (h1:fs[1]?=some f1) (o1:f1.offset=1) (n1:P.cellsOf f1.type=1) (r1:zdr P W f1.type (LSl zhl)) (h2:fs[2]?=some f2) (o2:f2.offset=2) (n2:P.cellsOf f2.type=2) (r2:zdr P W f2.type zxP) (h3:fs[3]?=some f3) (o3:f3.offset=4) (n3:P.cellsOf f3.type=2) (r3:zdr P W f3.type zqy) (h4:fs[4]?=some f4) (o4:f4.offset=6) (n4:P.cellsOf f4.type=2) (r4:zdr P W f4.type zHI):zdr P W t zBx:=by
 intro H enc sp held fuel cs d ps h hw;obtain ⟨hl,hf⟩:=zfL hu hc h hw
 match cs,hl with
 | [c0,c1,c2,c3,c4,c5,c6,c7],_=>
 obtain ⟨x0,e0⟩:=hf 0 f0 h0 r0;rw[o0,n0] at e0;simp only[zfZ] at e0;obtain ⟨w0_0,q0,g0_0⟩:=e0;cases (show [c0]=_ from q0);obtain ⟨x1,e1⟩:=hf 1 f1 h1 r1;rw[o1,n1] at e1;simp only[zfZ] at e1;obtain ⟨v1,q1,g1⟩:=e1;cases q1;obtain ⟨x2,e2⟩:=hf 2 f2 h2 r2;rw[o2,n2] at e2;simp only[zfZ] at e2;obtain ⟨w2_0,w2_1,q2,g2_0,g2_1⟩:=e2;cases (show [c2,c3]=_ from q2);obtain ⟨x3,e3⟩:=hf 3 f3 h3 r3;rw[o3,n3] at e3;simp only[zfZ] at e3;obtain ⟨w3_0,q3,g3_0⟩:=e3;cases (show [c4,c5]=_ from q3);obtain ⟨x4,e4⟩:=hf 4 f4 h4 r4;rw[o4,n4] at e4;simp only[zfZ] at e4;obtain ⟨q4,g4_0⟩:=e4;cases (show [c6,c7]=_ from q4);exact ⟨⟨x0,x1,x2,x3,x4⟩,⟨_,_,_,_,_,rfl,g0_0,g1,g2_0,g2_1,g3_0,g4_0⟩⟩
end Go.Pk

namespace Go.Pk
open Go Go.RowKit Go.ChangeShapes Go.WideShapes Go.ChangeAt
section
variable {P:Program} {W:World} {t:TypeId}
end
end Go.Pk

namespace Go.Pk
open Go Go.RowKit
end Go.Pk
