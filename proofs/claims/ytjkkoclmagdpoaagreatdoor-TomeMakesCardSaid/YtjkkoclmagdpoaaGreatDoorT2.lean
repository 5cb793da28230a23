/- A PART OF THE PROOF: contracts of functions, each walked once (much of it printed by a program of the author's own). -/
import Derived.Test.YtjkkoclmagdpoaaGreatDoorT1
import Derived.Laws.CopyRow
import Derived.WideKeyEntry
import Derived.Lib.Bytealg
import Derived.Test.YtjkkoclmagdpoaaGreatDoorT0
import Derived.Shelf.SlSortCmp.NoneTotal
set_option linter.unusedSimpArgs false
set_option linter.unusedVariables false
set_option maxRecDepth 4000
namespace Go.Pk
open Go Go.RowKit
variable {cs vs us:List Value} {α:Type} {xs:List α} {k j s b m off u a:Nat} {i:Int} {y x hi_ lo:Operand} {v z:Value} {o:List (Nat×Obj)} {L:Lay α} {T e ty:TypeId} {y0:α} {fn:Func} {P:Program} {R:Ending→World→Prop} {σ:Env} {w:World} {h:Heap} {dst:Option Tmp} {pos:String} {g:Option (Nat×Bool)} {aft:Array Edge}
section
variable {α:Type} {L:Lay α} {T:TypeId} {h:Heap}
def zmW:Value→Nat→Value
 | .slice p _ c,k=>.slice p k c
 | v,_=>v
def zje (s:Nat):Value→Nat→Value
 | .slice p n c,k=>.slice (if c=k then p else p.map (·.add (k*s))) (n-k) (c-k)
 | v,_=>v
theorem Enc.take {xs:List α} (e:Enc L h cs xs) (hk:k≤xs.length):Enc L h (cs.take (k*L.size)) (xs.take k):=by
 have hle:k*L.size≤cs.length:=by rw[e.1];exact Nat.mul_le_mul_right _ hk
 refine ⟨by rw[List.length_take,List.length_take,Nat.min_eq_left hle,Nat.min_eq_left hk],fun i x hi=>?_⟩;have hik:i<k:=by
  rw[List.getElem?_take] at hi;split at hi
  ·assumption
  ·cases hi
 rw[List.getElem?_take,if_pos hik] at hi;have hr:=e.2 i x hi;have h1:i*L.size+L.size≤k*L.size:=by rw[← Nat.succ_mul];exact Nat.mul_le_mul_right _ hik
 rw[List.drop_take,List.take_take,Nat.min_eq_left zU];exact hr
theorem Enc.drop {xs:List α} (e:Enc L h cs xs) (k:Nat):Enc L h (cs.drop (k*L.size)) (xs.drop k):=by
 refine ⟨by rw[List.length_drop,List.length_drop,e.1,Nat.sub_mul],fun i x hi=>?_⟩;rw[List.getElem?_drop] at hi;have hr:=e.2 _ x hi;rw[List.drop_drop,← Nat.add_mul];exact hr
theorem Enc.set {xs:List α} {i:Nat} {y:α} (e:Enc L h cs xs) (hi:i<xs.length) (hr:L.R h vs y):Enc L h (cs.take (i*L.size)++vs++cs.drop ((i+1)*L.size)) (xs.set i y):=by
 rw[List.set_eq_take_append_cons_drop,if_pos hi];have h1:=((e.take (Nat.le_of_lt hi)).append (Enc.one1 hr)).append (e.drop (i+1));rw[List.append_assoc (xs.take i)] at h1;exact h1
theorem OSl.take {v:Value} {xs:List α} {o:List (Nat×Obj)} (e:OSl L T h v xs o) {k:Nat} (hk:k≤xs.length):OSl L T h (zmW v k) (xs.take k) o:=by
 obtain ⟨cs,e1,⟨⟨p,rfl⟩,rfl,rfl⟩|⟨g,cap,cur,rfl,rfl,hnc,hcm,hsz,htk⟩⟩:=e
 ·have:k=0:=by simpa using hk
  subst this;exact ⟨[],⟨by simp,by simp⟩,.inl ⟨⟨p,rfl⟩,by simp,rfl⟩⟩
 have hl:(xs.take k).length=k:=by rw[List.length_take,Nat.min_eq_left hk]
 refine ⟨_,e1.take hk,.inr ⟨g,cap,cur,by rw[hl];rfl,rfl,by omega,hcm,hsz,?_⟩⟩;rw[hl,← htk,List.take_take,Nat.min_eq_left (Nat.mul_le_mul_right _ hk)]
theorem zlz.drop {o: Nat} (e:zlz v (k+j) s b o) (hc:∀ p n c,v=.slice p n c→n≤c):zlz (zje s v k) j s b o:=by
 obtain ⟨off,n,c,rfl,hlt,rfl⟩:=e;have:=hc _ _ _ rfl;refine ⟨off+k*s,n-k,c-k,?_,by omega,by rw[Nat.add_mul];omega⟩;simp only[zje];rw[if_neg zU];simp[zfr]
theorem zlz.drop' {o: Nat} (e:zlz v m s b o) (hm:m=k+j) (hc:∀ p n c,v=.slice p n c→n≤c):zlz (zje s v k) j s b o:=by
 subst hm;exact e.drop hc
theorem OSl.caps {xs:List α} (e:OSl L T h v xs o):∀ p n c,v=.slice p n c→n≤c:=by
 rintro p n c rfl;obtain ⟨cs,e1,⟨⟨q,e2⟩,rfl,rfl⟩|⟨g,cap,cur,e2,rfl,hnc,hcm,hsz,htk⟩⟩:=e
 ·cases e2;exact Nat.le_refl _
 cases e2;exact hnc
theorem OSl.len {xs:List α} (e:OSl L T h v xs o):∀ p n c,v=.slice p n c→n=xs.length:=by
 rintro p n c rfl;obtain ⟨q,c',e2⟩:=e.form;cases e2;rfl
end
section
variable {P:Program} {n:Nat} {ops:Array Oper} {rest:List Oper} {K:Env→World→Prop} {σ:Env} {w w0:World} {h0 h:Heap} {own:Own} {ty:TypeId} {pos:String} {aft:Array Edge} {d:Nat} {dst:Option Tmp} {g:Option (Nat×Bool)}
theorem zgq {t: TypeId} (hO:OSl L T h v xs o) (hx:ev σ x=v) (hi:ev σ hi_=.int .i64 i) (hk:i=(k:Int)) (hle:k≤xs.length) (hu:P.underlying t=some (.slice e)) (hz:∀ w,(sizeOf e).run P w=.ok m w):
  Run P σ w ⟨dst,.slice t x none (some hi_) none,ty,pos,aft,g⟩ (zmW v k) w:=by
 subst hk;obtain ⟨p,c,rfl⟩:=hO.form;have hc:=hO.caps _ _ _ rfl;have h1:k≤c:=by omega
 cases p <;> simp[Run,execOp,hx,hi,Instr.sliceAt,Instr.slice,run_underlying hu,Instr.sliceBounds,Instr.sliceBound,asIntOf,hz,h1,zmW];rename_i a;intro _;cases a;rfl
theorem zgm {t: TypeId} (hO:OSl L T h v xs o) (hx:ev σ x=v) (hi:ev σ lo=.int .i64 i) (hk:i=(k:Int)) (hle:k≤xs.length) (hu:P.underlying t=some (.slice e)) (hz:∀ w,(sizeOf e).run P w=.ok m w):
  Run P σ w ⟨dst,.slice t x (some lo) none none,ty,pos,aft,g⟩ (zje m v k) w:=by
 subst hk;obtain ⟨p,c,rfl⟩:=hO.form;have h1:k≤xs.length:=hle;simp[Run,execOp,hx,hi,Instr.sliceAt,Instr.slice,run_underlying hu,Instr.sliceBounds,Instr.sliceBound,asIntOf,hz,h1,zje]
theorem zrf {t: TypeId} {len: Nat} (hx:ev σ x=zje s v k) (hl:∃ p c,v=.slice p len c) (hu:P.underlying t=some (.slice e)):
  Run P σ w ⟨dst,.call ⟨.builtin .len,#[x],#[t]⟩,ty,pos,aft,g⟩ (.int .i64 ((len-k:Nat):Int)) w:=by
 obtain ⟨p,c,rfl⟩:=hl;exact zsl hx hu
theorem zoC:∀ (us pre:List Value) (cs:List Value),us.length≤cs.length→zio (pre++cs) pre.length us=pre++us++cs.drop us.length
 | [],pre,cs,_=>by simp[zio]
 | u::us,pre,[],h=>by simp at h
 | u::us,pre,c::cs,h=>by
  have ih:=zoC us (pre++[u]) cs (by simpa using h);simp only[List.length_append,List.length_cons,List.length_nil,Nat.zero_add] at ih;rw[zio,List.set_append_right _ _ (Nat.le_refl _),Nat.sub_self,List.set_cons_zero];rw[show pre++u::cs=pre++[u]++cs by simp,ih];simp
theorem zqZ (h:off+us.length≤cs.length):zio cs off us=cs.take off++us++cs.drop (off+us.length):=by
 have h1:=zoC us (cs.take off) (cs.drop off) (by rw[List.length_drop];omega);rw[List.take_append_drop,List.length_take,Nat.min_eq_left zU,List.drop_drop] at h1;exact h1
theorem zqk {i: Nat} {t:TypeId} (st:St h0 w0 h w own) (hO:OSl L T h v xs o) (hk:own[k]?=some o) (hi:i<xs.length) (he:zlz v i L.size b off) (hx:ev σ x=.pointer (some ⟨b,off,none⟩)) (hy:ev σ y=.agg us.toArray) (hR:L.R h us y0) (hz:∀ w,(sizeOf t).run P w=.ok us.length w) (hK:∀ o' w' own',own'=own.set k o'→OSl L T h v (xs.set i y0) o'→St h0 w0 h w' own'→E P n ops rest K σ w'):E P n ops (⟨none,.store t x y,ty,pos,aft,none⟩::rest) K σ w:=by
 obtain ⟨cs,e1,⟨⟨p,rfl⟩,rfl,rfl⟩|⟨gb,cap,cur,rfl,rfl,hnc,hcm,hsz,htk⟩⟩:=hO
 ·simp at hi
 ·obtain ⟨off0,n',c',e2,hlt,rfl⟩:=he;cases e2;have hul:=L.len hR;have h1:(i+1)*L.size≤xs.length*L.size:=Nat.mul_le_mul_right _ hi;have h2:xs.length*L.size≤cap*L.size:=Nat.mul_le_mul_right _ hnc;rw[Nat.succ_mul] at h1;have hcl:cur.toList.length=cap*L.size:=by rw[Array.length_toList,hsz]
  have ho:(0+i*L.size)+us.length≤cur.toList.length:=by rw[hcl];have hul':us.length=L.size:=hul;omega
  have hk':own[k]?=some [(b,.cells cur.toList.toArray T)]:=by simpa using hk
  have hsp:=zqZ ho;refine zbE st hk' hx hy (by rw[List.all_eq_true];exact fun u hu=>L.one hR u hu) hz (by simpa using ho) hsp rfl fun w' st'=>?_;have hlen:(cur.toList.take (0+i*L.size)).length=i*L.size:=by rw[List.length_take,hcl];omega
  refine hK _ _ _ rfl ⟨_,e1.set hi hR,.inr ⟨b,cap,_,by rw[List.length_set],rfl,by rw[List.length_set];exact hnc,hcm,?_,?_⟩⟩ st'
  ·simp only[List.size_toArray,List.length_append,hlen,List.length_drop,hcl];omega
  ·rw[List.length_set,← htk];have e3:(i+1)*L.size=i*L.size+L.size:=Nat.succ_mul _ _;have hul':us.length=L.size:=hul;rw[List.take_take,Nat.min_eq_left zU,e3,List.drop_take];rw[List.take_append,List.take_of_length_le (l:=cur.toList.take (0+i*L.size)++us) (by rw[List.length_append,hlen];omega),List.length_append,hlen,hul',Nat.zero_add]
theorem zoK {i: Nat} {u:Value} {t:TypeId} (st:St h0 w0 h w own) (hO:OSl L T h v xs o) (hk:own[k]?=some o) (hi:i<xs.length) (he:zlz v i L.size b off) (hx:ev σ x=.pointer (some ⟨b,off,none⟩)) (hy:ev σ y=u) (hR:L.R h [u] y0) (hz:∀ w,(sizeOf t).run P w=.ok 1 w) (hK:∀ o' w' own',own'=own.set k o'→OSl L T h v (xs.set i y0) o'→St h0 w0 h w' own'→E P n ops rest K σ w'):E P n ops (⟨none,.store t x y,ty,pos,aft,none⟩::rest) K σ w:=by
 obtain ⟨cs,e1,⟨⟨p,rfl⟩,rfl,rfl⟩|⟨gb,cap,cur,rfl,rfl,hnc,hcm,hsz,htk⟩⟩:=hO
 ·simp at hi
 ·obtain ⟨off0,n',c',e2,hlt,rfl⟩:=he;cases e2;have hul:=L.len hR;have h1:(i+1)*L.size≤xs.length*L.size:=Nat.mul_le_mul_right _ hi;have h2:xs.length*L.size≤cap*L.size:=Nat.mul_le_mul_right _ hnc;rw[Nat.succ_mul] at h1;have hcl:cur.toList.length=cap*L.size:=by rw[Array.length_toList,hsz]
  have hs1:L.size=1:=by rw[← hul];rfl
  have ho:(0+i*L.size)+[u].length≤cur.toList.length:=by rw[hcl];have hul':[u].length=L.size:=hul;omega
  have hk':own[k]?=some [(b,.cells cur.toList.toArray T)]:=by simpa using hk
  have hsp:=zqZ ho;have hlen:(cur.toList.take (0+i*L.size)).length=i*L.size:=by rw[List.length_take,hcl];omega
  have hlt':0+i*L.size<cur.toList.length:=by have h9:[u].length=1:=rfl;omega
  refine zci st hk' hx hy (L.one hR u (by simp)) hz (by simpa using hlt') rfl rfl fun w' st'=>?_;refine hK _ _ _ rfl ⟨_,e1.set hi hR,.inr ⟨b,cap,_,by rw[List.length_set],rfl,by rw[List.length_set];exact hnc,hcm,?_,?_⟩⟩ st'
  ·simp[hsz]
  ·have hset:cur.toList.set (0+i*L.size) u=cur.toList.take (0+i*L.size)++[u]++cur.toList.drop (0+i*L.size+[u].length):=by
    rw[← hsp];rfl
   rw[List.length_set,← htk];have e3:(i+1)*L.size=i*L.size+L.size:=Nat.succ_mul _ _;rw[List.take_take,Nat.min_eq_left zU,e3,List.drop_take];have hul':[u].length=L.size:=hul;show (cur.toList.set (0+i*L.size) u).take (xs.length*L.size)=_;rw[hset,List.take_append,List.take_of_length_le (l:=cur.toList.take (0+i*L.size)++[u]) (by rw[List.length_append,hlen];omega),List.length_append,hlen,hul',Nat.zero_add]
def zzl (s:Nat):Value→Nat→Nat→Value
 | .slice p _ c,l,m=>.slice (if c=l then p else p.map (·.add (l*s))) (m-l) (c-l)
 | v,_,_=>v
theorem zzx {own:Own} (hk:own[k]?=some o):own.set k o=own:=by
 apply List.ext_getElem?;intro q;rw[List.getElem?_set];split
 ·rename_i e4;subst e4;split
  ·exact hk.symm
  ·rename_i h5;rw[List.getElem?_eq_none zU]
 rfl
theorem zuc {l: Nat} {t: TypeId} (st:St h0 w0 h w own) (hO:OSl L T h v xs o) (hk:own[k]?=some o) (hlm:l≤m) (hmc:∀ p n c,v=.slice p n c→m≤c) (hx:ev σ x=zzl L.size v l m) (ht:P.underlying t=some (.slice e)) (hz:∀ w,(zeroValue e).run P w=.ok z w) (hzs:z.cells.size=L.size) (hz1:∀ u∈z.cells.toList,u.oneCell'=true) (hK:∀ o' w' own',own'=own.set k o'→(∀ j,j≤l→j≤xs.length→OSl L T h (zmW v j) (xs.take j) o')→St h0 w0 h w' own'→E P n ops rest K σ w'):E P n ops (⟨none,.call ⟨.builtin .clear,#[x],#[t]⟩,ty,pos,aft,none⟩::rest) K σ w:=by
 have hset:=zzx hk;have run (v':Value) (w':World) (hv:zzl L.size v l m=v') (hr:(Builtin.clear_ #[t] ty #[v']).run P w=.ok (.tuple #[]) w'):Run P σ w ⟨none,.call ⟨.builtin .clear,#[x],#[t]⟩,ty,pos,aft,none⟩ (.tuple #[]) w':=by
  refine znq rfl (vs:=[v']) (by simp[hx,hv]) fun cs=>?_;simp only[builtin,Sem.run_bind,hr,Result.andThen_ok,Sem.run_pure]
 obtain ⟨cs,e1,⟨⟨p,rfl⟩,rfl,rfl⟩|⟨gb,cap,cur,rfl,rfl,hnc,hcm,hsz,htk⟩⟩:=hO
 ·have hm0:m-l=0:=by have:=hmc _ _ _ rfl;omega
  refine zar rfl rfl (run _ w rfl ?_) (hK [] w _ rfl (fun j _ hj=>?_) (by rw[hset];exact st))
  ·simp only[zzl,hm0];split <;> cases p <;> simp[Builtin.clear_,run_underlying ht]
  ·have:j=0:=by simpa using hj
   subst this;exact ⟨[],⟨by simp,by simp⟩,.inl ⟨⟨p,rfl⟩,by simp,rfl⟩⟩
 ·have hmc:=hmc _ _ _ rfl;have hcl:cur.toList.length=cap*L.size:=by rw[Array.length_toList,hsz]
  have fin:∀ (cur':Array Value) w',cur'.size=cap*L.size→cur'.toList.take (l*L.size)=cur.toList.take (l*L.size)→St h0 w0 h w' (own.set k [(gb,.cells cur' T)])→E P n ops rest K σ w':=by
   intro cur' w' h1 h2 s;refine hK _ w' _ rfl (fun j hjl hj=>⟨_,e1.take hj,.inr ⟨gb,cap,cur',?_,rfl,?_,hcm,h1,?_⟩⟩) s
   ·rw[List.length_take,Nat.min_eq_left hj];rfl
   ·rw[List.length_take,Nat.min_eq_left hj];omega
   ·have h3:=congrArg (List.take (j*L.size)) h2;rw[List.take_take,List.take_take,Nat.min_eq_left (Nat.mul_le_mul_right _ hjl)] at h3;rw[List.length_take,Nat.min_eq_left hj,h3,← htk,List.take_take,Nat.min_eq_left (Nat.mul_le_mul_right _ hj)]
  by_cases h0:m-l=0
  ·refine zar rfl rfl (run _ w rfl ?_) (fin cur w hsz rfl (by rw[hset];exact st));simp only[zzl,h0];split <;> simp[Builtin.clear_,run_underlying ht]
  ·have hgw:=st.get hk;have hfit:l*L.size+(List.length (Builtin.zeroCells z.cells (m-l)).toList)≤cur.size:=by
    rw[Array.length_toList,size_zeroCells,hzs,hsz];have h2:(l+(m-l))*L.size≤cap*L.size:=Nat.mul_le_mul_right _ zU;rw[Nat.add_mul] at h2;exact h2
   have hst:=run_storeCells_at P gb (l*L.size) T (Builtin.zeroCells z.cells (m-l)).toList 0 cur w hgw (by simpa using hfit) ?_
   ·simp only[Nat.add_zero] at hst;refine zar rfl rfl (run (.slice ((some (⟨gb,0,none⟩:Addr)).map (·.add (l*L.size))) (m-l) (cap-l)) (w.setRow gb (cur.toList.take (l*L.size)++(Builtin.zeroCells z.cells (m-l)).toList++cur.toList.drop (l*L.size+(Builtin.zeroCells z.cells (m-l)).toList.length)).toArray) (by simp only[zzl];rw[if_neg (by omega:¬ cap=l)]) ?_) (fin (cur.toList.take (l*L.size)++(Builtin.zeroCells z.cells (m-l)).toList++cur.toList.drop (l*L.size+(Builtin.zeroCells z.cells (m-l)).toList.length)).toArray _ ?_ ?_ ?_)
    ·obtain ⟨q,hm⟩:∃ q,m-l=q+1:=⟨m-l-1,by omega⟩;rw[hm] at hst;simp[Builtin.clear_,run_underlying ht,hm,hz,zfr,hst]
    ·rw[List.size_toArray,List.length_append,List.length_append,List.length_take,List.length_drop,hcl];omega
    ·rw[List.append_assoc,List.take_append,List.length_take,hcl];rw[List.take_take,Nat.min_self,show l*L.size-min (l*L.size) (cap*L.size)=0 by have:=Nat.mul_le_mul_right L.size (show l≤cap by omega);omega,List.take_zero,List.append_nil]
    ·have:=st.set (.cells (cur.toList.take (l*L.size)++(Builtin.zeroCells z.cells (m-l)).toList++cur.toList.drop (l*L.size+(Builtin.zeroCells z.cells (m-l)).toList.length)).toArray T) hk;refine this.same ?_ rfl rfl rfl (Nat.le_refl _);apply Array.ext_getElem?;intro q;have hlt:=zek hgw
     by_cases ej:q=gb
     ·subst ej;rw[setRow_heap w _ cur _ T _ hgw];simp[hlt]
     ·rw[setRow_other w gb q _ ej];simp[Ne.symm ej]
   ·intro u hu;refine hz1 u ?_;simp only[Builtin.zeroCells,Array.toList_map,List.mem_map] at hu;obtain ⟨q,hq,rfl⟩:=hu;have hq2:q<(m-l)*z.cells.size:=by simpa using hq
    have hpos:0<z.cells.size:=by
     rcases Nat.eq_zero_or_pos z.cells.size with e0|e0
     ·rw[e0] at hq2;omega
     ·exact e0
    have hm:=Nat.mod_lt q hpos;rw[getElem!_pos z.cells _ hm];exact Array.getElem_mem_toList hm
theorem zjM {t: TypeId} (st:St h0 w0 h w own) (hO:OSl L T h v xs o) (hk:own[k]?=some o) (hj:j≤xs.length) (hx:ev σ x=zje L.size v j) (ht:P.underlying t=some (.slice e)) (hz:∀ w,(zeroValue e).run P w=.ok z w) (hzs:z.cells.size=L.size) (hz1:∀ u∈z.cells.toList,u.oneCell'=true) (hK:∀ o' w' own',own'=own.set k o'→OSl L T h (zmW v j) (xs.take j) o'→St h0 w0 h w' own'→E P n ops rest K σ w'):E P n ops (⟨none,.call ⟨.builtin .clear,#[x],#[t]⟩,ty,pos,aft,none⟩::rest) K σ w:=by
 obtain ⟨p,c,rfl⟩:=hO.form;refine zuc (l:=j) (m:=xs.length) st hO hk hj (fun p n c e=>?_) hx ht hz hzs hz1 (fun o' w' own' e1 f s=>hK o' w' own' e1 (f j (Nat.le_refl _) hj) s);have:=hO.len _ _ _ e;have:=hO.caps _ _ _ e;omega
theorem Sl.ofCells (hc:zay h b off cs) (hE:Enc L h cs xs) (hb:xs.length≤big):Sl L h (.slice (some ⟨b,off,none⟩) xs.length xs.length) xs:=by
 refine ⟨_,xs.length,rfl,⟨hb,Nat.le_refl _⟩,.inr ⟨b,off,rfl,fun i x hi=>⟨_,?_,hE.2 i x hi⟩⟩⟩;obtain ⟨row,T,fr,hb,hh⟩:=hc;refine ⟨row,T,fr,hb,fun j u hj=>?_⟩;rw[List.getElem?_take] at hj;split at hj
 ·rw[List.getElem?_drop] at hj;have:=hh _ _ hj;rw[Nat.add_assoc];exact this
 cases hj
theorem zrd {len: Nat} {t: TypeId} (hx:ev σ x=.pointer (some ⟨b,off,none⟩)) (hu:P.underlying t=some (.array len e)) (hz:∀ w,(sizeOf e).run P w=.ok m w):
  Run P σ w ⟨dst,.slice t x none none none,ty,pos,aft,g⟩ (.slice (some ⟨b,off,none⟩) len len) w:=by
 by_cases h:len=0 <;> simp[Run,execOp,hx,Instr.sliceAt,run_underlying hu,Instr.sliceBounds,hz,Instr.sureAddr,zfr,h]
theorem zvZ {s:TypeId} {fs:Array Field} {f:Field} (hx:ev σ x=.agg vs.toArray) (hu:P.underlying s=some (.struct fs)) (hf:fs[k]?=some f) (ha:∀ w,(isAgg f.type).run P w=.ok true w) (hz:∀ w,(sizeOf f.type).run P w=.ok m w) (hv:(vs.drop f.offset).take m=us) (hl:us.length=m):
  Run P σ w ⟨dst,.field s x k,ty,pos,aft,g⟩ (.agg us.toArray) w:=by
 subst hv;simp[Run,execOp,hx,Instr.field,run_underlying hu,hf,asAgg,part,ha,hz]
theorem zbP {P:Program} {n: Nat} {t:TypeId} {σ:Env} {w:World} (hr:fn.results=#[.cell a t,.tmp u]) (hp:σ a=.pointer (some ⟨b,0,none⟩)) (ha:∀ w,(isAgg t).run P w=.ok true w) (hz:∀ w,(sizeOf t).run P w=.ok n w) (hn:cs.length=n) (hb:w.heap[b]?=some (.cells cs.toArray T)) (h:R (.returned (.tuple #[.agg cs.toArray,σ u])) w):zY fn P R .ret σ w:=by
 intro tmps ht;refine ⟨_,?_,h⟩;subst hn;have hl:=run_loadCells_list (P:=P) (w:=w) ⟨b,0,none⟩ cs (fun j v hj=>by rw[zfr];simp[World.cell?,hb,hj]);have hp':tmps.getD a undef=.pointer (some ⟨b,0,none⟩):=by rw[ht,hp]
 have hu:=ht u;simp only[Array.getD_eq_getD_getElem?] at hp' hu;simp[results,hr,hp',hu,asAddr,loadVar,ha,hz,hl]
theorem ztn {P:Program} {n: Nat} {t:TypeId} {σ:Env} {w:World} {h:Heap} (hr:fn.results=#[.cell a t,.tmp u]) (hp:σ a=.pointer (some ⟨b,0,none⟩)) (ha:∀ w,(isAgg t).run P w=.ok true w) (hz:∀ w,(sizeOf t).run P w=.ok n w) (hn:cs.length=n) (hs:Sub h w) (hb:zay h b 0 cs) (hR:R (.returned (.tuple #[.agg cs.toArray,σ u])) w):zY fn P R .ret σ w:=by
 intro tmps ht;refine ⟨_,?_,hR⟩;subst hn;have hl:=run_loadCells_list (P:=P) (w:=w) ⟨b,0,none⟩ cs (fun j v hj=>by rw[zfr];exact hb.cell hs hj);have hp':tmps.getD a undef=.pointer (some ⟨b,0,none⟩):=by rw[ht,hp]
 have hu:=ht u;simp only[Array.getD_eq_getD_getElem?] at hp' hu;simp[results,hr,hp',hu,asAddr,loadVar,ha,hz,hl]
end
theorem ztY {n:Nat} {ops:Array Oper} {C:World→Prop} {rest:List Oper} {K:Env→Prop} {op:Op} {type:TypeId} {after:Array Edge} {g d:Nat} {b:Bool} (hg:(ops[g]?).bind (·.dst)=some d) (hd:Nat.blt d n=true) (hv:σ d=undef) (hdst:zgM n dst=true) (h:zaA P n ops C rest K (updO σ dst undef)):zaA P n ops C (⟨dst,op,type,pos,after,some (g,b)⟩::rest) K σ:=by
 intro a ha;unfold wpQuiet;rw[if_neg (by simp[Region.wanted,zoz ha hg hd hv])];exact h _ (ha.put hdst _)
theorem OSl.whole {h0: Heap} {w0: World} {own:Own} (st:St h0 w0 h w own) (e:OSl L T h v xs o) (hk:own[k]?=some o) (hb:xs.length≤281474976710656):Le h (ziC w)∧Sl L (ziC w) v xs:=by
 have hle:Le h (ziC w):=fun b o hb=>st.sub b o hb;refine ⟨hle,?_⟩;obtain ⟨cs,e1,⟨⟨p,rfl⟩,rfl,rfl⟩|⟨g,cap,cur,rfl,rfl,hnc,_,hsz,htk⟩⟩:=e
 ·exact ⟨p,0,rfl,⟨Nat.zero_le _,Nat.zero_le _⟩,.inl rfl⟩
 have hg:=st.get hk;refine ⟨_,cap,rfl,⟨hb,hnc⟩,.inr ⟨g,0,rfl,fun i x hi=>⟨_,⟨cur,T,_,hg,fun j u hj=>?_⟩,L.up (e1.2 i x hi) hle⟩⟩⟩;have hjl:j<L.size:=by
  rw[List.getElem?_take] at hj;split at hj
  ·assumption
  ·cases hj
 rw[List.getElem?_take,if_pos hjl,List.getElem?_drop,← htk,List.getElem?_take] at hj;split at hj
 ·rw[Nat.zero_add];simpa using hj
 cases hj
theorem St.thaw {h' : Heap} {w' : World} (s:St (ziC w) w h' w' []) (hs:Sub h w):St h w h w' []:=
 ⟨Le.refl h,fun _ _=>rfl,fun b o hb=>s.sub b o (s.le b o (hs b o hb)),s.below,by simp,by simp⟩
theorem Sl.take {α:Type} {L:Lay α} {h:Heap} {v:Value} {xs:List α} (e:Sl L h v xs) {k:Nat} (hk:k≤xs.length):Sl L h (zmW v k) (xs.take k):=by
 obtain ⟨p,c,rfl,⟨hb,hc⟩,hh⟩:=e;have hl:(xs.take k).length=k:=by rw[List.length_take,Nat.min_eq_left hk]
 refine ⟨p,c,by rw[hl];rfl,⟨by omega,by omega⟩,?_⟩
 rcases hh with rfl|⟨b,off,rfl,hh⟩
 ·exact .inl (by simp)
 refine .inr ⟨b,off,rfl,fun i x hi=>hh i x ?_⟩;rw[List.getElem?_take] at hi;split at hi
 ·exact hi
 cases hi
theorem Sl.drop {α:Type} {L:Lay α} {h:Heap} {v:Value} {xs:List α} (e:Sl L h v xs) {k:Nat} (hk:k≤xs.length):Sl L h (zje L.size v k) (xs.drop k):=by
 obtain ⟨p,c,rfl,⟨hb,hc⟩,hh⟩:=e;have hl:(xs.drop k).length=xs.length-k:=List.length_drop;refine ⟨_,_,by rw[hl];rfl,⟨by omega,by omega⟩,?_⟩
 rcases hh with rfl|⟨b,off,rfl,hh⟩
 ·exact .inl (by simp)
 by_cases h1:c=k
 ·exact .inl (List.drop_eq_nil_of_le zU)
 rw[if_neg h1];refine .inr ⟨b,off+k*L.size,by simp[zfr],fun i x hi=>?_⟩;rw[List.getElem?_drop] at hi;obtain ⟨vs,h2,h3⟩:=hh _ x hi;refine ⟨vs,?_,h3⟩;rw[Nat.add_assoc,← Nat.add_mul];exact h2
theorem Sl.caps (e:Sl L h v xs):∀ p n c,v=.slice p n c→n≤c:=by
 rintro p n c rfl;obtain ⟨q,c',e2,⟨_,hc⟩,_⟩:=e;cases e2;exact hc
theorem zfH {t: TypeId} (hO:Sl L h v xs) (hx:ev σ x=v) (hi:ev σ hi_=.int .i64 i) (hk:i=(k:Int)) (hle:k≤xs.length) (hu:P.underlying t=some (.slice e)) (hz:∀ w,(sizeOf e).run P w=.ok m w):
  Run P σ w ⟨dst,.slice t x none (some hi_) none,ty,pos,aft,g⟩ (zmW v k) w:=by
 subst hk;obtain ⟨p,c,rfl⟩:=hO.form;have hc:=hO.caps _ _ _ rfl;have h1:k≤c:=by omega
 cases p <;> simp[Run,execOp,hx,hi,Instr.sliceAt,Instr.slice,run_underlying hu,Instr.sliceBounds,Instr.sliceBound,asIntOf,hz,h1,zmW];rename_i a;intro _;cases a;rfl
theorem zfv {t: TypeId} (hO:Sl L h v xs) (hx:ev σ x=v) (hi:ev σ lo=.int .i64 i) (hk:i=(k:Int)) (hle:k≤xs.length) (hu:P.underlying t=some (.slice e)) (hz:∀ w,(sizeOf e).run P w=.ok m w):
  Run P σ w ⟨dst,.slice t x (some lo) none none,ty,pos,aft,g⟩ (zje m v k) w:=by
 subst hk;obtain ⟨p,c,rfl⟩:=hO.form;have h1:k≤xs.length:=hle;simp[Run,execOp,hx,hi,Instr.sliceAt,Instr.slice,run_underlying hu,Instr.sliceBounds,Instr.sliceBound,asIntOf,hz,h1,zje]
end Go.Pk

namespace Go.Pk
def inB (n lo hi:Int):Bool:=decide (lo≤n) && decide (n≤hi)
def isL (c:UInt8):Bool:=decide (97≤(c.toNat:Int)) && decide ((c.toNat:Int)≤122)
def zed (s:Str) (lo:Int):Bool:=s.all isL && inB s.length lo 12
def zdI (s:Str):Bool:=zed s 1
def ziz (l:List Str):Bool:=inB l.length 1 10 && l.all zdI
def zcN (c:Chapter):Bool:=inB c.id 0 9999 && inB c.lines.length 1 10 && c.lines.all ziz
def zbF (t:Text):Bool:=inB t.chapters.length 1 6 && t.chapters.all zcN && decide (t.chapters.map (·.id)).Nodup
def zcc (t:Text) (p:Place):Option (List Str):=
 if 0≤p.chapter∧0≤p.line then (t.chapters[p.chapter.toNat]?).bind fun c=>c.lines[p.line.toNat]? else none
def zjw (t:Text) (p:Place):Option Str:=
 if 0≤p.word then (zcc t p).bind fun l=>l[p.word.toNat]? else none
def zcz (t:Text) (p:Place):Bool:=(zjw t p).isSome
def zdw (a b:Place):Bool:=
 if a.chapter≠b.chapter then decide (a.chapter<b.chapter) else if a.line≠b.line then decide (a.line<b.line) else decide (a.word<b.word)
def ziH (r:Rule):Bool:=zed r.cut 1 && zed r.put 0 && decide (r.cut≠r.put) && inB r.least 1 12
def zhK (h:Head):Bool:=zdI h.stem && inB h.mark 0 3
def zfK:Place:=⟨0,0,0⟩
def zhb:Head:=⟨[],0⟩
def zeK:Decision:=⟨0,0,[],zfK,zhb,0⟩
def zaZ (t:Text) (d:Decision):Bool:=
 inB d.number 1 999 &&
 (if d.kind=1 then zdI d.form && decide (d.at_=zfK) && zhK d.to && decide (d.of_=0)
  else if d.kind=2 then zdI d.form && zcz t d.at_ && zhK d.to && decide (d.of_=0)
  else if d.kind=3 then decide (d.form=[]) && zcz t d.at_ && zhK d.to && decide (d.of_=0)
  else if d.kind=4 then decide (d.form=[]) && decide (d.at_=zfK) && decide (d.to=zhb) && inB d.of_ 1 (d.number-1)
  else false)
def zdm (t:Text) (x:Lexicon):Bool:=
 decide (x.rules.length≤12) && decide (x.decisions.length≤20) && x.rules.all ziH && x.decisions.all (zaZ t) && decide (x.decisions.map (·.number)).Nodup
def zbG (t:Text) (x:Lexicon):Int:=if zbF t=false then 10 else if zdm t x=false then 40 else 0
def zhN (r:Rule) (w:Str):Option Str:=
 if r.cut.length≤w.length∧r.least≤((w.length-r.cut.length:Nat):Int)∧w.drop (w.length-r.cut.length)=r.cut∧w.length-r.cut.length+r.put.length≤12 then some (w.take (w.length-r.cut.length)++r.put) else none
def zgp (rs:List Rule) (w:Str):Option Str:=rs.findSome? (zhN · w)
def zec (rs:List Rule):Nat→Str→List Str
 | 0,w=>[w]
 | n+1,w=>match zgp rs w with
  | none=>[w]
  | some s=>w::zec rs n s
theorem zno (r:Rule) (rs:List Rule) (w:Str):zgp (r::rs) w=match zhN r w with|some s=>some s|none=>zgp rs w:=by
 simp only[zgp,List.findSome?_cons];cases zhN r w <;> rfl
theorem zqW {rs:List Rule} {n m:Nat} {w s:Str} (hn:n=m+1) (h:zgp rs w=some s):zec rs n w=w::zec rs m s:=by
 subst hn;simp[zec,h]
theorem zqX {rs:List Rule} {n:Nat} {w:Str} (h:zgp rs w=none):zec rs n w=[w]:=by
 cases n <;> simp[zec,h]
theorem zhA {α:Type} {xs:List α} {k:Nat} {y:α} (h:xs[k]?=some y):xs.drop k=y::xs.drop (k+1):=by
 obtain ⟨h1,h2⟩:=List.getElem?_eq_some_iff.1 h;rw[List.drop_eq_getElem_cons h1,h2]
theorem zsv {r:Rule} {w s:Str} (h:zhN r w=some s):s.length≤12:=by
 unfold zhN at h;split at h
 ·rename_i h1;cases h;simp;omega
 cases h
theorem zAh {r:Rule} {w s:Str} (hr:1≤r.least) (h:zhN r w=some s):s≠[]:=by
 unfold zhN at h;split at h
 ·rename_i h1;cases h;intro e;have:=congrArg List.length e;simp at this;omega
 cases h
theorem zwV {rs:List Rule} {w s:Str} (hr:∀ r∈rs,1≤r.least) (h:zgp rs w=some s):s≠[]:=by
 induction rs with
 | nil=>cases h
 | cons r rs ih=>
  rw[zno] at h;cases e:zhN r w with
  | none=>rw[e] at h;exact ih (fun r hr'=>hr r (List.mem_cons_of_mem _ hr')) h
  | some q=>rw[e] at h;cases h;exact zAh (hr r (List.mem_cons_self ..)) e
theorem ztI {t:Text} {x:Lexicon} (h:zbG t x=0):∀ r∈x.rules,1≤r.least:=by
 intro r hr;unfold zbG at h;split at h
 ·cases h
 split at h
 ·cases h
 rename_i h2;have h3:zdm t x=true:=by simpa using h2
 simp only[zdm,Bool.and_eq_true,List.all_eq_true] at h3;have h4:=h3.1.1.2 r hr;simp only[ziH,inB,Bool.and_eq_true,decide_eq_true_eq] at h4;omega
theorem zps {s:Str} (h:zdI s=true):s.length≤12:=by
 simp only[zdI,zed,inB,Bool.and_eq_true,decide_eq_true_eq] at h;omega
def stepsR (t:Text) (x:Lexicon) (w:Str):List Str:=if zbG t x=0∧zdI w=true then zec x.rules 4 w else []
def stepsE (t:Text) (x:Lexicon) (w:Str):Int:=if zbG t x≠0 then zbG t x else if zdI w then 0 else 2
def zgT (x:Lexicon):Nat→Decision→Bool
 | 0,_=>true
 | n+1,d=>x.decisions.all fun v=>!(decide (v.kind=4) && decide (v.of_=d.number) && zgT x n v)
def zni (x:Lexicon) (n:Nat) (d v:Decision):Bool:=!(decide (v.kind=4) && decide (v.of_=d.number) && zgT x (n-1) v)
theorem zkX {x:Lexicon} {n:Nat} {d:Decision} (hv:∀ v∈x.decisions,v.number≤999∧(v.kind=4→v.of_<v.number)) (hn:999<d.number+n):zgT x n d=x.decisions.all (zni x n d):=by
 cases n with
 | succ n=>rfl
 | zero=>
  simp only[zgT]
  symm
  rw[List.all_eq_true];intro v hm;obtain ⟨h1,h2⟩:=hv v hm;simp only[zni,Bool.not_eq_true',Bool.and_eq_false_iff,decide_eq_false_iff_not];left
  by_cases h:v.kind=4
  ·right;have:=h2 h;omega
  ·left;exact h
def zfh (x:Lexicon) (d:Decision):Bool:=zgT x 1000 d
def zmt (x:Lexicon) (n:Nat) (d:Decision):Bool:=decide (d.number=(n:Int)+1) && zgT x 1000 d
def ziM (x:Lexicon) (n:Nat):List Decision:=x.decisions.filter (zmt x n)
def zeh (x:Lexicon):List Decision:=(List.range 999).flatMap (ziM x)
theorem zqq {x:Lexicon} (n:Nat) (h:x.decisions.length≤20):((List.range n).flatMap (ziM x)).length≤20*n:=by
 induction n with
 | zero=>simp
 | succ n ih=>
  rw[List.range_succ,List.flatMap_append,List.length_append];have:=List.length_filter_le (zmt x n) x.decisions;simp only[List.flatMap_cons,List.flatMap_nil,List.append_nil,ziM];omega
def standingN (t:Text) (x:Lexicon):List Int:=if zbG t x=0 then (zeh x).map (·.number) else []
theorem zoR {t:Text} {x:Lexicon} (h:zbG t x=0):zbF t=true∧zdm t x=true:=by
 unfold zbG at h;split at h
 ·cases h
 rename_i h1;split at h
 ·cases h
 rename_i h2;exact ⟨by simpa using h1,by simpa using h2⟩
theorem znv {t:Text} {x:Lexicon} (h:zbG t x=0):∀ v∈x.decisions,zaZ t v=true:=by
 have h1:=(zoR h).2;simp only[zdm,Bool.and_eq_true,List.all_eq_true] at h1;exact h1.1.2
theorem zuA {t:Text} {x:Lexicon} (h:zbG t x=0):∀ v∈x.decisions,v.number≤999∧(v.kind=4→v.of_<v.number):=by
 intro v hv;have h1:=znv h v hv;simp only[zaZ,Bool.and_eq_true,inB,decide_eq_true_eq] at h1;refine ⟨h1.1.2,fun h4=>?_⟩;have h2:=h1.2;rw[h4] at h2;simp at h2;omega
theorem zsy {t:Text} {x:Lexicon} (h:zbG t x=0):∀ v∈x.decisions,1≤v.number:=by
 intro v hv;have h1:=znv h v hv;simp only[zaZ,Bool.and_eq_true,inB,decide_eq_true_eq] at h1;exact h1.1.1
theorem zsz {t:Text} {x:Lexicon} (h:zbG t x=0):x.decisions.length≤20:=by
 have h1:=(zoR h).2;simp only[zdm,Bool.and_eq_true,decide_eq_true_eq] at h1;exact h1.1.1.1.2
def zcJ (l:List Int) (lo hi:Int):Bool:=l.all fun n=>inB n lo hi
theorem zpP (l:List Int) (lo hi:Int):(!(l.any fun n=>decide (n<lo) || decide (hi<n)))=zcJ l lo hi:=by
 unfold zcJ;rw[List.not_any_eq_all_not];congr 1;funext n;simp only[inB,Bool.not_or]
 by_cases h1:n<lo <;> by_cases h2:hi<n <;> simp[h1,h2] <;> omega
@[simp] theorem inAll_one (n lo hi:Int):zcJ [n] lo hi=inB n lo hi:=by simp[zcJ]
theorem zwo (s:Str):((s.map fun c=>(c.toNat:Int)).any fun b=>decide (b<97) || decide (122<b)) = !(s.all isL):=by
 rw[List.any_map,List.not_all_eq_any_not];congr 1;funext c;simp only[Function.comp,isL,Bool.not_and]
 by_cases h1:(c.toNat:Int)<97 <;> by_cases h2:122<(c.toNat:Int) <;> simp[h1,h2] <;> omega
theorem zvB (s:Str):zdI s=(inB s.length 1 12 && !((s.map fun c=>(c.toNat:Int)).any fun b=>decide (b<97) || decide (122<b))):=by
 rw[zwo,zdI,zed,Bool.not_not,Bool.and_comm]
theorem znt (t:Text) (p:Place):zcz t p=((zcc t p).isSome && inB p.word 0 ((((zcc t p).getD []).length:Int)-1)):=by
 unfold zcz zjw;cases h:zcc t p with
 | none=>simp
 | some l=>
  simp only[Option.bind_some,Option.isSome_some,Option.getD_some,Bool.true_and,inB]
  by_cases h1:0≤p.word
  ·rw[if_pos h1]
   by_cases h2:p.word≤(l.length:Int)-1
   ·rw[List.getElem?_eq_getElem zU];simp[h1,h2]
   ·rw[List.getElem?_eq_none zU];simp[h2]
  ·rw[if_neg h1];simp[h1]
theorem zoQ {t:Text} {p:Place} (h:¬ (0≤p.chapter∧p.chapter≤(t.chapters.length:Int)-1)):zcc t p=none:=by
 unfold zcc;split
 ·rename_i h1;rw[List.getElem?_eq_none zU];rfl
 rfl
theorem zoP {t:Text} {p:Place} {c:Chapter} (hc:t.chapters[p.chapter.toNat]?=some c) (h:¬ (0≤p.line∧p.line≤(c.lines.length:Int)-1)):zcc t p=none:=by
 unfold zcc;split
 ·rename_i h1;rw[hc];exact List.getElem?_eq_none zU
 rfl
theorem zqw {t:Text} {p:Place} {c:Chapter} {l:List Str} (hc:t.chapters[p.chapter.toNat]?=some c) (h:0≤p.chapter) (hl:c.lines[p.line.toNat]?=some l) (h2:0≤p.line):zcc t p=some l:=by
 unfold zcc;rw[if_pos ⟨h,h2⟩,hc];exact hl
section
variable {α:Type} {xs:List α} {k:Nat} {y:α} {p:α→Bool}
theorem zcY (h:(xs.take k).all p=true) (hy:xs[k]?=some y) (hp:p y=true):(xs.take (k+1)).all p=true:=by
 rw[zaQ hy,List.all_append,h];simp[hp]
theorem zcs (h:(xs.take k).all p=true) (hk:xs.length≤k):xs.all p=true:=by
 rwa [List.take_of_length_le hk] at h
theorem zmY {β:Type} {f:α→β} (h:((xs.take k).map f).Nodup) (hy:xs[k]?=some y) (hk:k≤xs.length) (hd:∀ j z,j<k→xs[j]?=some z→f z≠f y):((xs.take (k+1)).map f).Nodup:=by
 rw[zaQ hy,List.map_append,List.nodup_append];refine ⟨h,by simp,?_⟩;intro a ha b hb e;simp only[List.map_cons,List.map_nil,List.mem_singleton] at hb;subst hb;subst e;obtain ⟨z,hz,e⟩:=List.mem_map.1 ha;obtain ⟨j,hj⟩:=List.mem_iff_getElem?.1 hz;rw[List.getElem?_take] at hj;split at hj
 ·exact hd j z (by assumption) hj e
 cases hj
theorem zmd {β:Type} {f:α→β} {j:Nat} {z:α} (hz:xs[j]?=some z) (hy:xs[k]?=some y) (hj:j<k) (e:f z=f y):¬ (xs.map f).Nodup:=by
 intro h;obtain ⟨h1,h2⟩:=List.getElem?_eq_some_iff.1 hz;obtain ⟨h3,h4⟩:=List.getElem?_eq_some_iff.1 hy;have h5:=List.pairwise_iff_getElem.1 h j k (by simpa using h1) (by simpa using h3) hj;simp only[List.getElem_map,h2,h4] at h5;exact h5 e
theorem zlV {β:Type} {f:α→β} (hy:xs[k]?=some y) (h:f y∈(xs.take k).map f):¬ (xs.map f).Nodup:=by
 obtain ⟨z,hz,e⟩:=List.mem_map.1 h;obtain ⟨j,hj⟩:=List.mem_iff_getElem?.1 hz;rw[List.getElem?_take] at hj;split at hj
 ·exact zmd hj hy (by assumption) e
 cases hj
theorem zrN (q:α→Bool):(xs.any fun x=>!q x) = !(xs.all q):=by rw[List.not_all_eq_any_not]
theorem zcO (hy:xs[k]?=some y) (hp:p y=false):xs.all p=false:=by
 rw[List.all_eq_false];exact ⟨y,List.mem_of_getElem? hy,by simp[hp]⟩
end
end Go.Pk

namespace Go.Pk
open Go Go.RowKit
variable {α υ:Type} {a b:List α} {k n j i:Nat} {x:Lexicon} {y:α} {p:Place} {d e:Decision} {h h0:Heap} {v:Value} {wd w:Str} {L:Lay α} {c:Chapter} {ds l:List Decision} {w0:World} {own':Own} {xs:List α} {o O:List (Nat×Obj)} {r:Rule} {u:υ} {P:Program} {kt:TypeId} {fs:Array Field} {es:List MapEntry} {cs:Array Value} {rs:List Rule} {left:Int} {ln:List Str}
theorem zfp {x: α} (h:a.take k=b.take k) (ha:a[k]?=some x) (hb:b[k]?=some y) (e:x=y):a.take (k+1)=b.take (k+1):=by
 subst e;rw[List.take_add_one,List.take_add_one,h,ha,hb]
theorem zfR {x: α} (ha:a[k]?=some x) (hb:b[k]?=some y) (e:x≠y):a≠b:=by
 rintro rfl;rw[ha] at hb;cases hb;exact e rfl
theorem zgt (h:a.take k=b.take k) (hl:a.length=b.length) (hk:a.length≤k):a=b:=by
 rwa [List.take_of_length_le hk,List.take_of_length_le zU] at h
theorem zsB (s:Str) (lo:Int):zed s lo=(inB s.length lo 12 && !(s.any fun c=>decide ((c.toNat:Int)<97) || decide (122<(c.toNat:Int)))):=by
 unfold zed;rw[Bool.and_comm];congr 1;rw[List.not_any_eq_all_not];congr 1;funext c;simp only[isL,Bool.not_or];congr 1 <;> (rw[← decide_not];congr 1;simp only[Int.not_lt])
theorem zxV (h:Head) (h0:0≤h.mark):zhK h=(zed h.stem 1 && decide (h.mark≤3)):=by
 unfold zhK zdI inB;simp[h0]
theorem ziW (d:Decision) (k:Int) (f:Str) (a:Place) (t:Head) (o:Int):(d=Decision.mk d.number k f a t o)↔(d.kind=k∧d.form=f∧d.at_=a∧d.to=t∧d.of_=o):=by
 rcases d with ⟨n,k',f',a',t',o'⟩
 simp
theorem zjK {t:Text} (ht:zbF t=true):((if (zbF t && zcz t p)=true then (0:Int) else if zbF t=true then 12 else 10)=0)=(zcz t p=true):=by
 cases h:zcz t p <;> simp[ht]
theorem zCS {t:Text} (ht:zbF t=true) (hk:d.kind=1) (hn:(!zcJ [d.number] 1 999)=false) (g:d=Decision.mk d.number d.kind d.form (Place.mk 0 0 0) d.to 0) (e0:zed d.form 1=true) (e1:zhK d.to=true):true=zaZ t d:=by
 rw[inAll_one] at hn;rw[ziW] at g
 try rw[zjK ht] at e0
 try rw[zjK ht] at e1
 simp_all[zaZ,zdI,zfK,zhb]
theorem zBG {t:Text} (ht:zbF t=true) (hk:d.kind=1) (hn:(!zcJ [d.number] 1 999)=false) (g:d=Decision.mk d.number d.kind d.form (Place.mk 0 0 0) d.to 0) (e0:zed d.form 1=false):false=zaZ t d:=by
 rw[inAll_one] at hn;rw[ziW] at g
 try rw[zjK ht] at e0
 simp_all[zaZ,zdI,zfK,zhb]
theorem zBF {t:Text} (ht:zbF t=true) (hk:d.kind=1) (hn:(!zcJ [d.number] 1 999)=false) (g:d=Decision.mk d.number d.kind d.form (Place.mk 0 0 0) d.to 0) (e0:zed d.form 1=true) (e1:zhK d.to=false):false=zaZ t d:=by
 rw[inAll_one] at hn;rw[ziW] at g
 try rw[zjK ht] at e0
 try rw[zjK ht] at e1
 simp_all[zaZ,zdI,zfK,zhb]
theorem zCT {t:Text} (ht:zbF t=true) (hk:d.kind=1) (hn:(!zcJ [d.number] 1 999)=false) (g:¬ d=Decision.mk d.number d.kind d.form (Place.mk 0 0 0) d.to 0):false=zaZ t d:=by
 rw[inAll_one] at hn;rw[ziW] at g
 symm
 rw[Bool.eq_false_iff];intro q;apply g;simp[zaZ,hk,zfK,zhb,Bool.and_eq_true] at q;simp_all
theorem zCQ {t:Text} (ht:zbF t=true) (hk:d.kind=2) (hn:(!zcJ [d.number] 1 999)=false) (g:d=Decision.mk d.number d.kind d.form d.at_ d.to 0) (e0:zed d.form 1=true) (e1:((if (zbF t && zcz t d.at_)=true then (0:Int) else if zbF t=true then 12 else 10)=0)) (e2:zhK d.to=true):true=zaZ t d:=by
 rw[inAll_one] at hn;rw[ziW] at g
 try rw[zjK ht] at e0
 try rw[zjK ht] at e1
 try rw[zjK ht] at e2
 simp_all[zaZ,zdI,zfK,zhb]
theorem zBE {t:Text} (ht:zbF t=true) (hk:d.kind=2) (hn:(!zcJ [d.number] 1 999)=false) (g:d=Decision.mk d.number d.kind d.form d.at_ d.to 0) (e0:zed d.form 1=false):false=zaZ t d:=by
 rw[inAll_one] at hn;rw[ziW] at g
 try rw[zjK ht] at e0
 simp_all[zaZ,zdI,zfK,zhb]
theorem zBD {t:Text} (ht:zbF t=true) (hk:d.kind=2) (hn:(!zcJ [d.number] 1 999)=false) (g:d=Decision.mk d.number d.kind d.form d.at_ d.to 0) (e0:zed d.form 1=true) (e1:¬ ((if (zbF t && zcz t d.at_)=true then (0:Int) else if zbF t=true then 12 else 10)=0)):false=zaZ t d:=by
 rw[inAll_one] at hn;rw[ziW] at g
 try rw[zjK ht] at e0
 try rw[zjK ht] at e1
 simp_all[zaZ,zdI,zfK,zhb]
theorem zBC {t:Text} (ht:zbF t=true) (hk:d.kind=2) (hn:(!zcJ [d.number] 1 999)=false) (g:d=Decision.mk d.number d.kind d.form d.at_ d.to 0) (e0:zed d.form 1=true) (e1:((if (zbF t && zcz t d.at_)=true then (0:Int) else if zbF t=true then 12 else 10)=0)) (e2:zhK d.to=false):false=zaZ t d:=by
 rw[inAll_one] at hn;rw[ziW] at g
 try rw[zjK ht] at e0
 try rw[zjK ht] at e1
 try rw[zjK ht] at e2
 simp_all[zaZ,zdI,zfK,zhb]
theorem zCR {t:Text} (ht:zbF t=true) (hk:d.kind=2) (hn:(!zcJ [d.number] 1 999)=false) (g:¬ d=Decision.mk d.number d.kind d.form d.at_ d.to 0):false=zaZ t d:=by
 rw[inAll_one] at hn;rw[ziW] at g
 symm
 rw[Bool.eq_false_iff];intro q;apply g;simp[zaZ,hk,zfK,zhb,Bool.and_eq_true] at q;simp_all
theorem zCO {t:Text} (ht:zbF t=true) (hk:d.kind=3) (hn:(!zcJ [d.number] 1 999)=false) (g:d=Decision.mk d.number d.kind [] d.at_ d.to 0) (e0:((if (zbF t && zcz t d.at_)=true then (0:Int) else if zbF t=true then 12 else 10)=0)) (e1:zhK d.to=true):true=zaZ t d:=by
 rw[inAll_one] at hn;rw[ziW] at g
 try rw[zjK ht] at e0
 try rw[zjK ht] at e1
 simp_all[zaZ,zdI,zfK,zhb]
theorem zBB {t:Text} (ht:zbF t=true) (hk:d.kind=3) (hn:(!zcJ [d.number] 1 999)=false) (g:d=Decision.mk d.number d.kind [] d.at_ d.to 0) (e0:¬ ((if (zbF t && zcz t d.at_)=true then (0:Int) else if zbF t=true then 12 else 10)=0)):false=zaZ t d:=by
 rw[inAll_one] at hn;rw[ziW] at g
 try rw[zjK ht] at e0
 simp_all[zaZ,zdI,zfK,zhb]
theorem zBA {t:Text} (ht:zbF t=true) (hk:d.kind=3) (hn:(!zcJ [d.number] 1 999)=false) (g:d=Decision.mk d.number d.kind [] d.at_ d.to 0) (e0:((if (zbF t && zcz t d.at_)=true then (0:Int) else if zbF t=true then 12 else 10)=0)) (e1:zhK d.to=false):false=zaZ t d:=by
 rw[inAll_one] at hn;rw[ziW] at g
 try rw[zjK ht] at e0
 try rw[zjK ht] at e1
 simp_all[zaZ,zdI,zfK,zhb]
theorem zCP {t:Text} (ht:zbF t=true) (hk:d.kind=3) (hn:(!zcJ [d.number] 1 999)=false) (g:¬ d=Decision.mk d.number d.kind [] d.at_ d.to 0):false=zaZ t d:=by
 rw[inAll_one] at hn;rw[ziW] at g
 symm
 rw[Bool.eq_false_iff];intro q;apply g;simp[zaZ,hk,zfK,zhb,Bool.and_eq_true] at q;simp_all
theorem zCM {t:Text} (ht:zbF t=true) (hk:d.kind=4) (hn:(!zcJ [d.number] 1 999)=false) (g:d=Decision.mk d.number d.kind [] (Place.mk 0 0 0) (Head.mk [] 0) d.of_):zcJ [d.of_] 1 (d.number-1)=zaZ t d:=by
 rw[inAll_one] at hn ⊢;rw[ziW] at g;simp_all[zaZ,zdI,zfK,zhb]
theorem zCN {t:Text} (ht:zbF t=true) (hk:d.kind=4) (hn:(!zcJ [d.number] 1 999)=false) (g:¬ d=Decision.mk d.number d.kind [] (Place.mk 0 0 0) (Head.mk [] 0) d.of_):false=zaZ t d:=by
 rw[inAll_one] at hn;rw[ziW] at g
 symm
 rw[Bool.eq_false_iff];intro q;apply g;simp[zaZ,hk,zfK,zhb,Bool.and_eq_true] at q;have q1:=of_decide_eq_true q.2.1.1.2;have q2:=of_decide_eq_true q.2.1.2;have q3:=q.2.1.1.1;simp_all
theorem zxS {t:Text} (f:Sl zax h v t.chapters) (p:Place):((zcc t p).getD []).length≤281474976710656:=by
 cases e:zcc t p with
 | none=>simp
 | some l=>
  unfold zcc at e;split at e
  ·cases e2:t.chapters[p.chapter.toNat]? with
   | none=>rw[e2] at e;cases e
   | some c=>
    rw[e2,Option.bind_some] at e;obtain ⟨_,_,_,_,_,hr⟩:=Sl.elem f e2;obtain ⟨v1,rfl,f1⟩:=hr;obtain ⟨_,_,_,_,_,hr2⟩:=Sl.elem f1 e;obtain ⟨v2,rfl,f2⟩:=hr2;exact f2.le
  ·cases e
theorem zue {t:Text} (hp:zcz t p=true) (hw:((zcc t p).getD [])[p.word.toNat]?=some wd):zjw t p=some wd:=by
 unfold zcz zjw at hp;unfold zjw;split at hp
 ·rename_i h1;rw[if_pos h1];cases e:zcc t p with
  | none=>rw[e] at hw;cases hw
  | some l=>rw[e] at hw;exact hw
 cases hp
theorem zyi {t:Text} (hp:zcz t p=false):zjw t p=none:=by
 unfold zcz at hp;cases e:zjw t p with
 | none=>rfl
 | some l=>rw[e] at hp;cases hp
def Box {α:Type} (L:Lay α) (h:Heap) (c:Bool) (x:α) (v:Value):Prop:=bif c then ∃ b vs,v=.pointer (some ⟨b,0,none⟩)∧zay h b 0 vs∧L.R h vs x else v=.pointer none
theorem Box.nil {c:Bool} {x:α} (e:c=false):Box L h c x (.pointer none):=by subst e;rfl
theorem Box.some {c:Bool} {x:α} {b:Nat} {vs:List Value} (e:c=true) (hc:zay h b 0 vs) (hr:L.R h vs x):Box L h c x (.pointer (some ⟨b,0,none⟩)):=by subst e;exact ⟨b,vs,rfl,hc,hr⟩
def zBz (t:Text) (ds:List Decision) (k:Nat):Bool:=match ds[k]? with|some d=>!(decide (d.number∈(ds.take k).map (·.number))) && zaZ t d|none=>true
theorem zqz {t:Text} (h:ds[k]?=some d):zBz t ds k=(!(decide (d.number∈(ds.take k).map (·.number))) && zaZ t d):=by simp[zBz,h]
theorem zss {α β:Type} {xs:List α} {f:α→β} (h:∀ j y,xs[j]?=some y→f y ∉ (xs.take j).map f):∀ n,n≤xs.length→((xs.take n).map f).Nodup
 | 0,_=>by simp
 | n+1,hn=>by
  have hy:xs[n]?=some xs[n]:=List.getElem?_eq_getElem zU;rw[zaQ hy,List.map_append,List.nodup_append];refine ⟨zss h n zU,by simp,?_⟩;intro a ha b hb e;simp only[List.map_cons,List.map_nil,List.mem_singleton] at hb;subst hb;subst e;exact h n _ hy ha
theorem ztM {t:Text} {b:Bool} (h:b=true↔∀ j,j<ds.length→zBz t ds j=true):b=(ds.all (zaZ t) && decide (ds.map (·.number)).Nodup):=by
 rw[Bool.eq_iff_iff,h,Bool.and_eq_true,decide_eq_true_eq,List.all_eq_true];constructor
 ·intro hall;have h1:∀ j y,ds[j]?=some y→y.number ∉ (ds.take j).map (·.number)∧zaZ t y=true:=by
   intro j y hy;have:=hall j (List.getElem?_eq_some_iff.1 hy).1;rw[zqz hy] at this;simpa using this
  refine ⟨fun y hy=>?_,?_⟩
  ·obtain ⟨j,hj⟩:=List.mem_iff_getElem?.1 hy;exact (h1 j y hj).2
  ·have:=zss (f:=(·.number)) (fun j y hy=>(h1 j y hy).1) ds.length (Nat.le_refl _);rwa [List.take_length] at this
 rintro ⟨h1,h2⟩ j hj;have hy:ds[j]?=some ds[j]:=List.getElem?_eq_getElem hj;rw[zqz hy,h1 _ (List.getElem_mem hj)];simp only[Bool.and_true,Bool.not_eq_true',decide_eq_false_iff_not];intro hm;exact zlV (f:=(·.number)) hy hm h2
theorem zzt {a b:List (List α)} (h:a.Sublist b):a.flatten.Sublist b.flatten:=by
 induction h with
 | slnil=>exact List.Sublist.refl _
 | cons c _ ih=>rw[List.flatten_cons];exact ih.trans (List.sublist_append_right _ _)
 | cons_cons c _ ih=>rw[List.flatten_cons,List.flatten_cons];exact (List.Sublist.refl _).append ih
theorem St.sublist {w: World} {own: Own} (st:St h0 w0 h w own) (hs:own'.Sublist own):St h0 w0 h w own':=by
 have hsub:own'.flatten.Sublist own.flatten:=zzt hs;exact ⟨st.le,st.new,st.sub,st.below,fun p hp=>st.mine p (hsub.subset hp),(hsub.map _).nodup st.nodup⟩
section
variable {α:Type} {L:Lay α} {T:TypeId} {h:Heap} {v:Value} {xs:List α} {o:List (Nat×Obj)}
theorem OSl.cap {p:Option Addr} {c: Nat} (e:OSl L T h v xs o) (hv:v=.slice p n c):n=xs.length∧xs.length≤c:=by
 have h1:=e.caps _ _ _ hv;have h2:=e.len _ _ _ hv;exact ⟨h2,h2▸h1⟩
end
section
variable {P:Program} {n:Nat} {ops:Array Oper} {rest:List Oper} {K:Env→World→Prop} {σ:Env} {w w0:World} {h0 h:Heap} {own:Own} {ty:TypeId} {pos:String} {aft:Array Edge}
end
theorem Box.up {α:Type} {L:Lay α} {h h':Heap} {c:Bool} {x:α} {v:Value} (f:Box L h c x v) (hl:Le h h'):Box L h' c x v:=by
 cases c with
 | false=>exact f
 | true=>obtain ⟨b,vs,e,hc,hr⟩:=f;exact ⟨b,vs,e,hc.up hl,L.up hr hl⟩
theorem St.move {w: World} {own:Own} (st:St h0 w0 h w own) {x y:List (Nat×Obj)} (hk:own[k]?=some x) (hj:own[j]?=some y) (hn:k<j):St h0 w0 h w ((own.set k y).set j []):=by
 have d:=st.drop k;obtain ⟨k1,_⟩:=List.getElem?_eq_some_iff.1 hk;obtain ⟨j1,j2⟩:=List.getElem?_eq_some_iff.1 hj;have hp:=@List.set_set_perm _ (own.set k []) k j (by simpa using k1) (by simpa using j1);have e1:(own.set k [])[j]'(by simpa using j1)=y:=by rw[List.getElem_set_ne zU];exact j2
 have e2:(own.set k [])[k]'(by simpa using k1)=[]:=by rw[List.getElem_set_self]
 rw[e1,e2,List.set_set] at hp;exact d.perm hp.symm
theorem OSl.heap {T:TypeId} (hL:∀ h1 h2 vs x,L.R h1 vs x→L.R h2 vs x) (e:OSl L T h v xs o) (h':Heap):OSl L T h' v xs o:=by
 obtain ⟨cs,e1,e2⟩:=e;exact ⟨cs,⟨e1.1,fun i x hi=>hL _ _ _ _ (e1.2 i x hi)⟩,e2⟩
theorem St.to {w: World} {own: Own} (st:St h0 w0 h w own) (e:own=own'):St h0 w0 h w own':=e▸st
structure VoterR where
 id:Int
 wrong:Int
 hd:Value
def LVoterR:Lay VoterR:={ size:=3,R:=fun _ vs x=>vs=[.int .i64 x.id,.int .i64 x.wrong,x.hd]∧x.hd.oneCell'=true,up:=(fun h _=>h),len:=(by rintro _ _ _ ⟨rfl,_⟩;rfl),one:=(by rintro _ _ _ ⟨rfl,h⟩ u hu;simp only[List.mem_cons,List.not_mem_nil,or_false] at hu;rcases hu with rfl|rfl|rfl <;> first|rfl|exact h) }
section
variable {α:Type} {L:Lay α} {T:TypeId} {h0 h h' hB:Heap} {w0 w:World} {own:Own} {v:Value} {xs:List α} {o:List (Nat×Obj)}
def zxC (L:Lay α) (T:TypeId) (hB h':Heap) (v:Value) (xs:List α):Prop:=Sl L h' v xs∧∃ o,OSl L T h' v xs o∧(o.map (·.1)).Nodup∧∀ p∈o,h' p.1=some p.2∧hB p.1=none
theorem zxC.up {h2:Heap} (a:zxC L T hB h' v xs) (l:Le h' h2):zxC L T hB h2 v xs:=by
 obtain ⟨s,o,a1,a2,a3⟩:=a;exact ⟨s.up l,o,a1.up l,a2,fun p hp=>⟨l _ _ (a3 p hp).1,(a3 p hp).2⟩⟩
theorem zrL {b:Nat} (l:Le h h') (e:h' b=none):h b=none:=by
 cases q:h b with
 | none=>rfl
 | some x=>rw[l _ _ q] at e;cases e
theorem zxC.down {h2:Heap} (a:zxC L T hB h' v xs) (l:Le h2 hB):zxC L T h2 h' v xs:=by
 obtain ⟨s,o,a1,a2,a3⟩:=a;exact ⟨s,o,a1,a2,fun p hp=>⟨(a3 p hp).1,zrL l (a3 p hp).2⟩⟩
theorem St.defrost (st:St h0 w0 h' w own) (l0:Le h0 hB) (l:Le hB h') (hO:∀ p∈O,h' p.1=some p.2∧hB p.1=none) (hn:(O.map (·.1)).Nodup):St h0 w0 hB w (own++[O]):=by
 refine ⟨l0,fun b hb=>?_,fun b q hq=>st.sub b q (l b q hq),st.below,fun p hp=>?_,?_⟩
 ·have e:=st.new b hb;cases q:hB b with
  | some x=>rw[← q,q,← e,l _ _ q]
  | none=>exact (zrL l0 q).symm
 ·rw[List.flatten_append,List.mem_append] at hp
  rcases hp with hp|hp
  ·obtain ⟨a,b,c⟩:=st.mine p hp;exact ⟨a,zrL l b,c⟩
  ·simp only[List.flatten_cons,List.flatten_nil,List.append_nil] at hp;obtain ⟨a,b⟩:=hO p hp;refine ⟨st.sub _ _ a,b,?_⟩
   rcases Nat.lt_or_ge p.1 w0.heap.size with q|q
   ·rw[st.new _ q] at a;rw[l0 _ _ a] at b;cases b
   ·exact q
 rw[List.flatten_append,List.map_append,List.nodup_append];refine ⟨st.nodup,by simpa using hn,?_⟩;intro a ha b hb e;subst e;obtain ⟨p,hp,rfl⟩:=List.mem_map.1 ha;obtain ⟨q,hq,e⟩:=List.mem_map.1 hb;simp only[List.flatten_cons,List.flatten_nil,List.append_nil] at hq;have h1:=(st.mine p hp).2.1;have h2:=(hO q hq).1;rw[e,h1] at h2;cases h2
theorem St.split {a b:List (Nat×Obj)} (st:St h0 w0 h w own) (hk:own[k]?=some (a++b)):St h0 w0 h w (own.set k a++[b]):=by
 have hlt:=(List.getElem?_eq_some_iff.1 hk);obtain ⟨h1,h2⟩:=hlt;have hp:own.flatten.Perm (own.set k a++[b]).flatten:=by
  have e:own=own.take k++(a++b)::own.drop (k+1):=by
   conv=>lhs;rw[← List.take_append_drop k own,List.drop_eq_getElem_cons h1,h2]
  rw[List.set_eq_take_append_cons_drop,if_pos h1]
  conv=>lhs;rw[e]
  simp only[List.flatten_append,List.flatten_cons,List.flatten_nil,List.append_nil,List.append_assoc];exact List.Perm.append_left _ (List.Perm.append_left _ List.perm_append_comm)
 exact ⟨st.le,st.new,st.sub,st.below,fun p hq=>st.mine p (hp.mem_iff.2 hq),(hp.map _).nodup_iff.1 st.nodup⟩
end
section
variable {T:TypeId} {h h' hB:Heap} {rs:List VoterR} {xs:List Voter} {os:List (List (Nat×Obj))}
def NV (T:TypeId) (hB h:Heap) (rs:List VoterR) (xs:List Voter):Prop:=∃ os:List (List (Nat×Obj)),rs.length=xs.length∧os.length=xs.length∧
 (∀ (j:Nat) r x o,rs[j]?=some r→xs[j]?=some x→os[j]?=some o→r.id=x.id∧r.wrong=x.wrong∧OSl zcy T h r.hd x.votes o)∧(∀ p∈os.flatten,h p.1=some p.2∧hB p.1=none)∧(os.flatten.map (·.1)).Nodup
theorem NV.nil (T:TypeId) (hB h:Heap):NV T hB h [] []:=⟨[],rfl,rfl,by simp,by simp,by simp⟩
theorem NV.len (a:NV T hB h rs xs):rs.length=xs.length:=by obtain ⟨_,a1,_⟩:=a;exact a1
theorem NV.up (a:NV T hB h rs xs) (l:Le h h'):NV T hB h' rs xs:=by
 obtain ⟨os,a1,a2,a3,a4,a5⟩:=a;exact ⟨os,a1,a2,fun j r x o e1 e2 e3=>⟨(a3 j r x o e1 e2 e3).1,(a3 j r x o e1 e2 e3).2.1,(a3 j r x o e1 e2 e3).2.2.up l⟩,fun p hp=>⟨l _ _ (a4 p hp).1,(a4 p hp).2⟩,a5⟩
theorem znx {l:List α} {a b:α} (e:(l++[a])[j]?=some b):l[j]?=some b∨(j=l.length∧b=a):=by
 rcases Nat.lt_trichotomy j l.length with q|q|q
 ·rw[List.getElem?_append_left q] at e;exact .inl e
 ·subst q;simp at e;exact .inr ⟨rfl,e.symm⟩
 rw[List.getElem?_eq_none (by simp;omega)] at e;cases e
theorem NV.snoc {x:Voter} {hd:Value} (a:NV T hB h rs xs) (b:zxC zcy T h h' hd x.votes) (l0:Le hB h) (l:Le h h'):NV T hB h' (rs++[⟨x.id,x.wrong,hd⟩]) (xs++[x]):=by
 have a':=a.up l;obtain ⟨os,a1,a2,a3,a4,a5⟩:=a;obtain ⟨_,o,b1,b2,b3⟩:=b;refine ⟨os++[o],by simp[a1],by simp[a2],fun j r y q e1 e2 e3=>?_,fun p hp=>?_,?_⟩
 ·rcases znx e1 with e1|⟨e1,rfl⟩
  ·have hj:=(List.getElem?_eq_some_iff.1 e1).1;rw[List.getElem?_append_left zU] at e2 e3;obtain ⟨c1,c2,c3⟩:=a3 j r y q e1 e2 e3;exact ⟨c1,c2,c3.up l⟩
  ·rcases znx e2 with e2|⟨_,rfl⟩
   ·have:=(List.getElem?_eq_some_iff.1 e2).1;omega
   ·rcases znx e3 with e3|⟨_,rfl⟩
    ·have:=(List.getElem?_eq_some_iff.1 e3).1;omega
    ·exact ⟨rfl,rfl,b1⟩
 ·rw[List.flatten_append,List.mem_append] at hp
  rcases hp with hp|hp
  ·exact ⟨l _ _ (a4 p hp).1,(a4 p hp).2⟩
  ·simp only[List.flatten_cons,List.flatten_nil,List.append_nil] at hp;exact ⟨(b3 p hp).1,zrL l0 (b3 p hp).2⟩
 rw[List.flatten_append,List.map_append,List.nodup_append];refine ⟨a5,by simpa using b2,?_⟩;intro c hc d hd' e;subst e;obtain ⟨p,hp,rfl⟩:=List.mem_map.1 hc;obtain ⟨q,hq,e⟩:=List.mem_map.1 hd';simp only[List.flatten_cons,List.flatten_nil,List.append_nil] at hq;have h1:=(a4 p hp).1;have h2:=(b3 q hq).2;rw[e,h1] at h2;cases h2
def NW (T:TypeId) (h:Heap) (rs:List VoterR) (xs:List Voter) (i:Nat) (os:List (List (Nat×Obj))):Prop:=rs.length=xs.length∧os.length+i=xs.length∧
 ∀ (j:Nat) r x,rs[j]?=some r→xs[j]?=some x→r.id=x.id∧r.wrong=x.wrong∧r.hd.oneCell'=true∧(j<i→Sl zcy h r.hd x.votes)∧∀ o,i≤j→os[j-i]?=some o→OSl zcy T h r.hd x.votes o
theorem NW.up {i:Nat} (a:NW T h rs xs i os) (l:Le h h'):NW T h' rs xs i os:=
 ⟨a.1,a.2.1,fun j r x e1 e2=>⟨(a.2.2 j r x e1 e2).1,(a.2.2 j r x e1 e2).2.1,(a.2.2 j r x e1 e2).2.2.1,fun q=>((a.2.2 j r x e1 e2).2.2.2.1 q).up l,fun o q e=>((a.2.2 j r x e1 e2).2.2.2.2 o q e).up l⟩⟩
theorem NW.open (a:NW T h rs xs i os) {x:Voter} (hx:xs[i]?=some x):∃ r o os',rs[i]?=some r∧os=o::os'∧r.id=x.id∧r.wrong=x.wrong∧OSl zcy T h r.hd x.votes o:=by
 obtain ⟨a1,a2,a3⟩:=a;have hi:=(List.getElem?_eq_some_iff.1 hx).1;cases os with
 | nil=>simp at a2;omega
 | cons o os'=>
  obtain ⟨c1,c2,_,_,c5⟩:=a3 i _ x (List.getElem?_eq_getElem zU) hx;exact ⟨_,o,os',List.getElem?_eq_getElem zU,rfl,c1,c2,c5 o (Nat.le_refl _) (by simp)⟩
theorem NW.step (a:NW T h rs xs i (o::os)) {x:Voter} {r:VoterR} {zs:List Int} {w':Int} (hr:rs[i]?=some r) (hx:xs[i]?=some x) (hz:Sl zcy h r.hd zs):NW T h (rs.set i { r with wrong:=w' }) (xs.set i ⟨x.id,w',zs⟩) (i+1) os:=by
 obtain ⟨a1,a2,a3⟩:=a;refine ⟨by simp[a1],by simp at a2 ⊢;omega,fun j s y e1 e2=>?_⟩
 by_cases e:j=i
 ·subst e;rw[List.getElem?_set_self (by have:=(List.getElem?_eq_some_iff.1 hr).1;omega)] at e1;rw[List.getElem?_set_self (by have:=(List.getElem?_eq_some_iff.1 hx).1;omega)] at e2;cases e1;cases e2;obtain ⟨c1,_,c3,_⟩:=a3 j r x hr hx;exact ⟨c1,rfl,c3,fun _=>hz,fun _ q=>absurd q zU⟩
 rw[List.getElem?_set_ne (fun q=>e q.symm)] at e1 e2;obtain ⟨c1,c2,c3,c4,c5⟩:=a3 j s y e1 e2;refine ⟨c1,c2,c3,fun q=>c4 zU,fun p q eo=>c5 p zU ?_⟩;rw[show j-i=(j-(i+1))+1 by omega];simpa using eo
end
section
variable {α:Type} {L:Lay α} {T:TypeId} {h0 h h':Heap} {w0 w:World} {own:Own} {v:Value} {xs:List α} {o:List (Nat×Obj)}
theorem OSl.asSl (e:OSl L T h v xs o) (l:Le h h') (hO:∀ p∈o,h' p.1=some p.2) (hb:xs.length≤281474976710656):Sl L h' v xs:=by
 obtain ⟨cs,e1,⟨⟨p,rfl⟩,rfl,rfl⟩|⟨g,cap,cur,rfl,rfl,hnc,_,hsz,htk⟩⟩:=e
 ·exact ⟨p,0,rfl,⟨Nat.zero_le _,Nat.zero_le _⟩,.inl rfl⟩
 have hg:=hO (g,.cells cur T) (by simp);refine ⟨_,cap,rfl,⟨hb,hnc⟩,.inr ⟨g,0,rfl,fun i x hi=>⟨_,⟨cur,T,_,hg,fun j u hj=>?_⟩,L.up (e1.2 i x hi) l⟩⟩⟩;have hjl:j<L.size:=by
  rw[List.getElem?_take] at hj;split at hj
  ·assumption
  ·cases hj
 rw[List.getElem?_take,if_pos hjl,List.getElem?_drop,← htk,List.getElem?_take] at hj;split at hj
 ·rw[Nat.zero_add];simpa using hj
 cases hj
theorem St.freezeAll {k:Nat}:∀ (O:List (Nat×Obj)) {own:Own} {h:Heap},St h0 w0 h w own→own[k]?=some O→∃ h',Le h h'∧(∀ p∈O,h' p.1=some p.2)∧St h0 w0 h' w (own.set k [])
 | [],own,h,st,hk=>⟨h,Le.refl h,by simp,st.drop k⟩
 | p::O,own,h,st,hk=>by
  have hlt:=(List.getElem?_eq_some_iff.1 hk).1;have s1:=St.split (a:=[p]) (b:=O) st hk;obtain ⟨h1,l1,hp,s2⟩:=St.freeze (k:=k) (b:=p.1) (o:=p.2) s1 (by rw[List.getElem?_append_left (by simpa using hlt)];simp[List.getElem?_set_self hlt]);have e2:(own.set k [p]++[O]).set k []=own.set k []++[O]:=by rw[List.set_append_left _ _ (by simpa using hlt),List.set_set]
  rw[e2] at s2;obtain ⟨h2,l2,hO,s3⟩:=St.freezeAll O (k:=own.length) s2 (by rw[List.getElem?_append_right (by simp)];simp);refine ⟨h2,l1.trans l2,fun q hq=>?_,?_⟩
  ·rcases List.mem_cons.1 hq with rfl|hq
   ·exact l2 _ _ hp
   ·exact hO q hq
  ·have s4:=s3.take own.length;have e3:((own.set k []++[O]).set own.length []).take own.length=own.set k []:=by
    rw[List.set_append_right _ _ (by simp),List.take_append_of_le_length (by simp),List.take_of_length_le (by simp)]
   rw[e3] at s4;exact s4
theorem St.permAt {O' : List (Nat×Obj)} (st:St h0 w0 h w own) (hk:own[k]?=some O) (hp:O.Perm O'):St h0 w0 h w (own.set k O'):=by
 obtain ⟨h1,h2⟩:=List.getElem?_eq_some_iff.1 hk;have hq:own.flatten.Perm (own.set k O').flatten:=by
  have e:own=own.take k++O::own.drop (k+1):=by
   conv=>lhs;rw[← List.take_append_drop k own,List.drop_eq_getElem_cons h1,h2]
  rw[List.set_eq_take_append_cons_drop,if_pos h1]
  conv=>lhs;rw[e]
  simp only[List.flatten_append,List.flatten_cons];exact List.Perm.append_left _ (hp.append_right _)
 exact ⟨st.le,st.new,st.sub,st.below,fun p hq'=>st.mine p (hq.mem_iff.2 hq'),(hq.map _).nodup_iff.1 st.nodup⟩
theorem St.pick {a b: List (Nat×Obj)} (st:St h0 w0 h w own) (hk:own[k]?=some O) (hp:O.Perm (a++b)):St h0 w0 h w (own.set k b++[a]):=by
 have h1:=(List.getElem?_eq_some_iff.1 hk).1;have s:=st.permAt hk (hp.trans List.perm_append_comm);have s2:=St.split (k:=k) s (List.getElem?_set_self h1);rw[List.set_set] at s2;exact s2
theorem St.unpick {a b:List (Nat×Obj)} (st:St h0 w0 h w own) (hk:own[k]?=some b) (hj:own[j]?=some a) (hn:k<j):St h0 w0 h w ((own.set k (b++a)).set j []):=by
 obtain ⟨k1,k2⟩:=List.getElem?_eq_some_iff.1 hk;obtain ⟨j1,j2⟩:=List.getElem?_eq_some_iff.1 hj;have hp:own.flatten.Perm ((own.set k (b++a)).set j []).flatten:=by
  have e:own=own.take k++b::own.drop (k+1):=by
   conv=>lhs;rw[← List.take_append_drop k own,List.drop_eq_getElem_cons k1,k2]
  have e2:own.drop (k+1)=(own.drop (k+1)).take (j-(k+1))++a::own.drop (j+1):=by
   have hlt:j-(k+1)<(own.drop (k+1)).length:=by rw[List.length_drop];omega
   conv=>lhs;rw[← List.take_append_drop (j-(k+1)) (own.drop (k+1)),List.drop_eq_getElem_cons hlt]
   rw[List.getElem_drop,List.drop_drop];congr 2
   ·rw[← j2];congr 1;omega
   ·congr 1;omega
  have e3:(own.set k (b++a)).set j []=own.take k++(b++a)::((own.drop (k+1)).take (j-(k+1))++[]::own.drop (j+1)):=by
   have e4:own.set k (b++a)=own.take k++(b++a)::own.drop (k+1):=by rw[List.set_eq_take_append_cons_drop,if_pos k1]
   rw[e4];rw[List.set_append_right _ _ (by rw[List.length_take];omega)];rw[List.length_take,Nat.min_eq_left zU];have:j-k=(j-(k+1))+1:=by omega
   rw[this,List.set_cons_succ]
   conv=>lhs;rw[e2]
   rw[List.set_append_right _ _ (by rw[List.length_take,List.length_drop];omega)];rw[List.length_take,List.length_drop,Nat.min_eq_left zU,Nat.sub_self,List.set_cons_zero]
  rw[e3]
  conv=>lhs;rw[e,e2]
  simp only[List.flatten_append,List.flatten_cons,List.nil_append,List.append_assoc];refine List.Perm.append_left _ (List.Perm.append_left _ ?_);rw[← List.append_assoc,← List.append_assoc];exact List.perm_append_comm.append_right _
 exact ⟨st.le,st.new,st.sub,st.below,fun p hq=>st.mine p (hp.mem_iff.2 hq),(hp.map _).nodup_iff.1 st.nodup⟩
end
section
variable {κ α:Type} [DecidableEq κ] {L:Lay α} {T:TypeId} {h h':Heap} {m:List (κ×Value)} {ls:List (κ×List α)} {O:List (Nat×Obj)}
def NM (L:Lay α) (T:TypeId) (h:Heap) (m:List (κ×Value)) (ls:List (κ×List α)) (O:List (Nat×Obj)):Prop:=∃ es:List (κ×List (Nat×Obj)),(es.map (·.1)).Nodup∧
 (∀ k,(zcb m k=none∧zcb es k=none∧zcb ls k=none)∨∃ v o xs,zcb m k=some v∧zcb es k=some o∧zcb ls k=some xs∧OSl L T h v xs o)∧O.Perm (es.flatMap (·.2))
theorem NM.nil:NM L T h ([]:List (κ×Value)) ([]:List (κ×List α)) []:=⟨[],by simp,fun k=>.inl ⟨rfl,rfl,rfl⟩,by simp⟩
theorem NM.up (a:NM L T h m ls O) (l:Le h h'):NM L T h' m ls O:=by
 obtain ⟨es,a1,a2,a3⟩:=a;refine ⟨es,a1,fun k=>?_,a3⟩
 rcases a2 k with b|⟨v,o,xs,b1,b2,b3,b4⟩
 ·exact .inl b
 exact .inr ⟨v,o,xs,b1,b2,b3,b4.up l⟩
theorem zuw {l:List (κ×υ)} {k k':κ} (hn:zcb l k=none):zcb (l++[(k,u)]) k'=if k'=k then some u else zcb l k':=by
 have e:=zhz l k k' u;rw[zgd,if_neg (by rw[hn];simp)] at e;exact e
theorem zwj {l:List (κ×υ)} {k:κ}:zcb (zkC l k) k=none:=by rw[zuy,if_pos rfl]
theorem zwv {υ β:Type} {f:κ×υ→List β} {k:κ} {u:υ}:∀ {l:List (κ×υ)},(l.map (·.1)).Nodup→zcb l k=some u→(l.flatMap f).Perm (f (k,u)++(zkC l k).flatMap f)
 | [],_,e=>by cases e
 | (k',u')::l,hn,e=>by
  obtain ⟨h1,h2⟩:=List.nodup_cons.1 hn
  by_cases q:k'=k
  ·subst q;have e1:u'=u:=by simpa [zcb] using e
   subst e1;have e2:zkC ((k',u')::l) k'=l:=by
    unfold zkC;rw[List.filter_cons,if_neg (by simp)];exact List.filter_eq_self.2 fun p hp=>by simpa using fun z=>h1 (List.mem_map.2 ⟨p,hp,z⟩)
   rw[e2,List.flatMap_cons]
  ·have e1:zcb l k=some u:=by rw[← e,zcb,zcb,List.find?_cons_of_neg (by simpa using q)]
   have e2:zkC ((k',u')::l) k=(k',u')::zkC l k:=by
    unfold zkC;rw[List.filter_cons,if_pos (by simpa using q)]
   rw[e2,List.flatMap_cons,List.flatMap_cons];refine ((zwv h2 e1).append_left _).trans ?_;rw[← List.append_assoc,← List.append_assoc];exact List.perm_append_comm.append_right _
theorem zyV {l:List (κ×υ)} {k:κ} (hn:(l.map (·.1)).Nodup):((zkC l k).map (·.1)).Nodup:=(List.filter_sublist.map _).nodup hn
theorem zAx {l:List (κ×υ)} {k:κ} (hn:zcb l k=none):zkC l k=l:=List.filter_eq_self.2 fun p hp=>by simpa using zqv hn p hp
theorem zsa {l:List (κ×υ)} {k:κ} (h1:(l.map (·.1)).Nodup) (h2:zcb l k=none):((l++[(k,u)]).map (·.1)).Nodup:=by
 rw[List.map_append,List.nodup_append];refine ⟨h1,by simp,?_⟩;intro a ha b hb e;subst e;simp only[List.map_cons,List.map_nil,List.mem_singleton] at hb;obtain ⟨p,hp,rfl⟩:=List.mem_map.1 ha;exact zqv h2 p hp hb
theorem NM.open (a:NM L T h m ls O) (k:κ):∃ v o R,v=(zcb m k).getD (.slice none 0 0)∧OSl L T h v ((zcb ls k).getD []) o∧O.Perm (o++R)∧
  ∀ h' v' xs' o',Le h h'→OSl L T h' v' xs' o'→NM L T h' (zgd m k v') (zgd ls k xs') (R++o'):=by
 obtain ⟨es,a1,a2,a3⟩:=a;have back:∀ h' v' xs' o',Le h h'→OSl L T h' v' xs' o'→NM L T h' (zgd m k v') (zgd ls k xs') ((zkC es k).flatMap (·.2)++o'):=by
  intro h' v' xs' o' l e;refine ⟨zkC es k++[(k,o')],zsa (zyV a1) zwj,fun k'=>?_,by simp⟩;rw[zhz,zhz,zuw zwj,zuy]
  by_cases q:k'=k
  ·rw[if_pos q,if_pos q,if_pos q];exact .inr ⟨_,_,_,rfl,rfl,rfl,e⟩
  ·rw[if_neg q,if_neg q,if_neg q,if_neg q]
   rcases a2 k' with b|⟨v,o,xs,b1,b2,b3,b4⟩
   ·exact .inl b
   ·exact .inr ⟨v,o,xs,b1,b2,b3,b4.up l⟩
 rcases a2 k with ⟨b1,b2,b3⟩|⟨v,o,xs,b1,b2,b3,b4⟩
 ·refine ⟨_,[],_,rfl,?_,?_,back⟩
  ·rw[b1,b3];exact OSl.nil L T h
  ·rw[zAx b2];simpa using a3
 ·refine ⟨_,o,_,rfl,?_,?_,back⟩
  ·rw[b1,b3];exact b4
  ·exact a3.trans (zwv a1 b2)
theorem NM.freeze {w: World} {own:Own} (a:NM L T h m ls O) (st:St h0 w0 h w own) (hk:own[k]?=some O) (hb:∀ k xs,zcb ls k=some xs→xs.length≤281474976710656):
  ∃ h',Le h h'∧(∀ k v,zcb m k=some v→Sl L h' v ((zcb ls k).getD []))∧St h0 w0 h' w (own.set k []):=by
 obtain ⟨h1,l1,hO,s1⟩:=st.freezeAll O hk;obtain ⟨es,a1,a2,a3⟩:=a;refine ⟨h1,l1,fun k v hv=>?_,s1⟩
 rcases a2 k with ⟨b1,_⟩|⟨v',o,xs,b1,b2,b3,b4⟩
 ·rw[b1] at hv;cases hv
 ·rw[b1] at hv;cases hv;rw[b3];refine b4.asSl l1 (fun p hp=>hO p (a3.mem_iff.2 ?_)) (hb k xs b3);obtain ⟨q,hq,e⟩:∃ q∈es,q=(k,o):=by
   rw[zcb,Option.map_eq_some_iff] at b2;obtain ⟨q,q1,q2⟩:=b2;have q3:=List.find?_some q1;refine ⟨q,List.mem_of_find?_eq_some q1,?_⟩;rw[← q2,← of_decide_eq_true q3]
  subst e;exact List.mem_flatMap.2 ⟨_,hq,hp⟩
end
structure KeyG {κ:Type} [DecidableEq κ] (P:Program) (kt:TypeId) (ek:κ→Value):Prop extends KeyF P kt ek where
 stays:∀ k,Instr.sameBits 10000 (ek k) (ek k)=true
def zgr (p:Place):Value:=.agg [.int .i64 p.chapter,.int .i64 p.line,.int .i64 p.word].toArray
theorem zwc (p:Place):Instr.sameBits 10000 (zgr p) (zgr p)=true:=by
 rw[show (10000:Nat)=9999+1 from rfl];simp[zgr,Instr.sameBits]
theorem zyT {t:TypeId} {a b:Value} {d:Bool} {w:World} (h:(binOp .eql t a b).run P w=.ok (.bool d) w) (hs:∀ u,(binOp .eql t a b).run P u=((Op.equal t a b).run P u).andThen fun x u'=>.ok (.bool x) u'):(Op.equal t a b).run P w=.ok d w:=by
 rw[hs w] at h;cases e:(Op.equal t a b).run P w with
 | ok x u=>
  rw[e] at h;simp only[Result.andThen_ok,Result.ok.injEq,Value.bool.injEq] at h;rw[h.1,h.2]
 | _=>rw[e] at h;simp[Result.andThen] at h
theorem zyD (hu:P.underlying kt=some (.struct fs)) (he:∀ (x y:Place) (w:World),(binOp .eql kt (zgr x) (zgr y)).run P w=.ok (.bool (decide (x=y))) w) (hc:∀ b k w,(Instr.checkKey b 10000 kt (zgr k)).run P w=.ok () w):KeyG P kt zgr where
 eq:=fun a b w=>zyT (he a b w) fun u=>run_eql_struct _ _ _ _
 now:=fun a b w=>⟨_,hu,rfl⟩
 check:=hc
 stays:=zwc
theorem zwd {e_: TypeId} {f0 f1 f2:Field} (hu:P.underlying kt=some (.struct #[f0,f1,f2])) (he:P.underlying e_=some (.int .i64)) (ha:∀ w,(isAgg e_).run P w=.ok false w) (h0:(f0.name,f0.type,f0.offset)=(f0.name,e_,0)) (h1:(f1.name,f1.type,f1.offset)=(f1.name,e_,1)) (h2:(f2.name,f2.type,f2.offset)=(f2.name,e_,2)) (b:Bool) (k:Place) (w:World):(Instr.checkKey b 10000 kt (zgr k)).run P w=.ok () w:=by
 simp only[Prod.mk.injEq,true_and] at h0 h1 h2
 rcases k with ⟨x,y,z⟩
 rw[show (10000:Nat)=9998+1+1 from rfl,Instr.checkKey];have p1:∀ (n:Nat) (xs:Array Value) (v:Value),xs[n]?=some v→(part e_ xs n).run P w=.ok v w:=by
  intro n xs v h;simp[part,ha,h]
 have q:∀ (x:Int),(Instr.checkKey b (9998+1) e_ (.int .i64 x)).run P w=.ok () w:=by
  intro x;rw[Instr.checkKey];simp[run_underlying he]
 have e0:=p1 0 [.int .i64 x,.int .i64 y,.int .i64 z].toArray (.int .i64 x) rfl;have e1:=p1 1 [.int .i64 x,.int .i64 y,.int .i64 z].toArray (.int .i64 y) rfl;have e2:=p1 2 [.int .i64 x,.int .i64 y,.int .i64 z].toArray (.int .i64 z) rfl;simp only[Sem.run_bind,run_underlying hu,Result.andThen_ok,zgr];rw[← Array.forIn_toList];simp only[List.forIn_cons,List.forIn_nil,h0,h1,h2]
 by_cases n0 : f0.name ≠ "_" <;> by_cases n1 : f1.name ≠ "_" <;> by_cases n2 : f2.name ≠ "_" <;> simp_all
section
variable {κ υ:Type} {ek:κ→Value} {eu:υ→Value}
variable {P:Program} {n:Nat} {ops:Array Oper} {rest:List Oper} {K:Env→World→Prop} {σ:Env} {w w0:World} {h0 h:Heap} {own:Own} {ty:TypeId} {pos:String} {aft:Array Edge} {d:Nat}
def OME [DecidableEq κ] (ek:κ→Value) (eu:υ→Value) (m:List (κ×υ)) (o:List (Nat×Obj)) (v:Value) (k:κ) (c:Nat):Prop:=
 ∃ (b:Nat) (es:Array MapEntry) (clock j:Nat) (e:MapEntry),o=[(b,.map es clock)]∧v=.map (some b)∧Ent ek eu es.toList m∧(∀ e∈es.toList,e.born<clock)∧(es.toList.map (·.born)).Nodup∧es.toList[j]?=some e∧e.born=c∧(m[j]?).map Prod.fst=some k
theorem Ent.getP:∀ {es:List MapEntry} {m:List (κ×υ)} {j:Nat} {p:κ×υ},Ent ek eu es m→m[j]?=some p→∃ e,es[j]?=some e∧e.key=ek p.1∧e.val=eu p.2
 | e::es,p::m,0,q,h,hp=>by simp at hp;subst hp;exact ⟨e,rfl,h.1,h.2.1⟩
 | e::es,p::m,j+1,q,h,hp=>by
  obtain ⟨e',a,b⟩:=Ent.getP h.2.2 (by simpa using hp);exact ⟨e',by simpa using a,b⟩
 | [],[],_,_,_,hp=>by simp at hp
 | [],_::_,_,_,h,_=>h.elim
 | _::_,[],_,_,h,_=>h.elim
theorem zuM [DecidableEq κ] {kt:TypeId} (hK:KeyF P kt ek) {k:κ} (w:World) {v:υ}:∀ {es:List MapEntry} {m:List (κ×υ)} (i:Nat),Ent ek eu es m→zcb m k=some v→∃ j,(Instr.findAsking kt (ek k) es i).run P w=.ok (some (i+j,eu v)) w∧m[j]?=some (k,v)
 | [],[],_,_,hl=>by cases hl
 | e::es,p::m,i,h,hl=>by
  by_cases hne:p.1=k
  ·simp only[zcb,List.find?_cons,hne,decide_true,Option.map_some,Option.some.injEq] at hl;have e1:=hK.eq k p.1 w;rw[decide_eq_true hne.symm] at e1;exact ⟨0,by simp[Instr.findAsking,h.1,e1,h.2.1,hl],by simp[← hne,← hl]⟩
  ·have hl':zcb m k=some v:=by simpa only[zcb,List.find?_cons,hne,decide_false] using hl
   obtain ⟨j,hj,hm⟩:=zuM hK w (i+1) h.2.2 hl';have e1:=hK.eq k p.1 w;rw[decide_eq_false (fun e=>hne e.symm)] at e1;refine ⟨j+1,?_,by simpa using hm⟩;rw[show i+(j+1)=i+1+j by omega];simp[Instr.findAsking,h.1,e1,hj]
 | [],_::_,_,h,_=>h.elim
 | _::_,[],_,h,_=>h.elim
theorem zCi [DecidableEq κ] (hK:KeyF P kt ek) {k:κ} (w:World) {v:υ} {m:List (κ×υ)} (h:Ent ek eu es m) (hl:zcb m k=some v):∃ j,(Instr.findKey kt (ek k) es).run P w=.ok (some (j,eu v)) w∧m[j]?=some (k,v):=by
 obtain ⟨kind,hu,hn⟩:=hK.now k k w;cases es with
 | nil=>
  cases m with
  | nil=>cases hl
  | cons _ _=>exact h.elim
 | cons e es=>
  cases m with
  | nil=>exact h.elim
  | cons p m=>
   obtain ⟨kind',hu',hn'⟩:=hK.now k p.1 w;obtain rfl:=Option.some.inj (hu.symm.trans hu');have e1:Instr.findNow kind (ek k) (e::es) 0=none:=by simp[Instr.findNow,h.1,hn']
   obtain ⟨j,hj,hm⟩:=zuM hK w 0 h hl;rw[Nat.zero_add] at hj;exact ⟨j,by simp only[Instr.findKey,Sem.run_bind,run_underlying hu,Result.andThen_ok,e1,hj],hm⟩
theorem zDL [DecidableEq κ] (hK:KeyF P kt ek) {k:κ} (w:World) {m:List (κ×υ)} (h:Ent ek eu es m) (hl:zcb m k=none):(Instr.findKey kt (ek k) es).run P w=.ok none w:=by
 obtain ⟨j,hf⟩:=zxY hK (k:=k) w h;rw[hl] at hf;exact hf
def zsJ [DecidableEq κ] (m:List (κ×υ)) (k:κ) (z:υ):List (κ×υ):=if (zcb m k).isSome then m else m++[(k,z)]
theorem zyI [DecidableEq κ] {m:List (κ×υ)} {k:κ} {z:υ} (k':κ):zcb (zsJ m k z) k'=if k'=k then some ((zcb m k).getD z) else zcb m k':=by
 unfold zsJ;cases e:zcb m k with
 | none=>rw[if_neg (by simp),zuw e];rfl
 | some v=>
  rw[if_pos (by simp)];split
  ·rename_i q;rw[q,e];rfl
  ·rfl
theorem zub [DecidableEq κ] {t et: TypeId} {x y:Operand} {m:List (κ×υ)} {zv: Value} {k:κ} {zu:υ} (st:St h0 w0 h w own) (hM:OM ek eu m o v) (hi:own[i]?=some o) (hn:(m.map (·.1)).Nodup) (hK:KeyG P kt ek) (ht:P.underlying t=some (.map kt et)) (hz:∀ w,(zeroValue et).run P w=.ok zv w) (hzu:zv=eu zu) (hx:ev σ x=v) (hy:ev σ y=ek k) (hd:Nat.blt d n=true) (hk:∀ o' w' c own',own'=own.set i o'→OME ek eu (zsJ m k zu) o' v k c→((zsJ m k zu).map (·.1)).Nodup→St h0 w0 h w' own'→E P n ops rest K (upd σ d (.tuple #[eu ((zcb m k).getD zu),.int .i64 (c:Int)])) w'):
  E P n ops (⟨some d,.mapEntry t x y,ty,pos,aft,none⟩::rest) K σ w:=by
 obtain ⟨b,es,clock,rfl,rfl,hE,hB,hD⟩:=hM;have hb:=st.get hi;have hg:(getObj b).run P w=.ok (.map es clock) w:=by simp[getObj,Sem.run,hb]
 have hset:∀ es' c',(setObj b (.map es' c')).run P w=.ok () { w with heap:=w.heap.setIfInBounds b (.map es' c') }:=by
  intro es' c';simp[setObj,Sem.run,hb]
 have hc:=hK.check false k w;subst hzu;cases hl:zcb m k with
 | none=>
  have hf:=zDL hK.toKeyF (k:=k) w hE hl;have hp:zsJ m k zu=m++[(k,zu)]:=by simp[zsJ,hl]
  have hlen:=hE.len;rw[hl] at hk;refine zar rfl hd (w':={ w with heap:=w.heap.setIfInBounds b (.map (es.push { key:=ek k,val:=eu zu,born:=clock }) (clock+1)) }) ?_ (hk _ _ clock _ rfl ⟨b,es.push { key:=ek k,val:=eu zu,born:=clock },clock+1,m.length,{ key:=ek k,val:=eu zu,born:=clock },rfl,rfl,?_,?_,?_,?_,rfl,?_⟩ ?_ (st.set _ hi))
  ·simp only[Run,execOp,hx,hy,Instr.mapEntry,Sem.run_bind,run_underlying ht,Result.andThen_ok,hg,hc,hf,hz,hset,Sem.run_pure];rfl
  ·rw[hp,Array.toList_push];exact hE.snoc rfl rfl
  ·intro e he;rw[Array.toList_push,List.mem_append] at he
   rcases he with he|he
   ·exact Nat.lt_succ_of_lt (hB e he)
   ·simp at he;subst he;exact Nat.lt_succ_self _
  ·rw[Array.toList_push,List.map_append,List.nodup_append];refine ⟨hD,by simp,fun a ha c hc'=>?_⟩;simp at hc';subst hc';obtain ⟨e,he,rfl⟩:=List.mem_map.1 ha;exact Nat.ne_of_lt (hB e he)
  ·rw[Array.toList_push,← hlen,List.getElem?_append_right (Nat.le_refl _)];simp
  ·rw[hp];simp
  ·rw[hp];exact zsa hn hl
 | some u=>
  obtain ⟨j,hf,hm⟩:=zCi hK.toKeyF (k:=k) w hE hl;obtain ⟨e,he,he1,he2⟩:=hE.getP hm;have hp:zsJ m k zu=m:=by simp[zsJ,hl]
  have hje:es[j]?=some e:=by simpa using he
  have hsame:es.modify j (fun e'=>{ e' with key:=ek k })=es:=by
   apply Array.ext';rw[Array.toList_modify];refine List.ext_getElem? fun q=>?_;rw[List.getElem?_modify]
   by_cases hq:j=q
   ·subst hq;rw[he];simp[he1];exact he1.symm▸rfl
   ·simp[hq]
  rw[hl] at hk;refine zar rfl hd (w':={ w with heap:=w.heap.setIfInBounds b (.map es clock) }) ?_ (hk _ _ e.born _ rfl ⟨b,es,clock,j,e,rfl,rfl,by rw[hp];exact hE,hB,hD,he,rfl,by rw[hp,hm];rfl⟩ (by rw[hp];exact hn) (st.set _ hi));have hst:(Instr.keyThatStays (ek k) (ek k)).run P w=.ok (ek k) w:=by simp[Instr.keyThatStays,hK.stays k]
  simp only[Run,execOp,hx,hy,Instr.mapEntry,Sem.run_bind,run_underlying ht,Result.andThen_ok,hg,hc,hf,hje,Option.map_some,Option.getD_some,he1,hst,hsame,hset,Sem.run_pure];rfl
theorem zrI [DecidableEq κ] {t:TypeId} {x y z:Operand} {m:List (κ×υ)} {k:κ} {u:υ} {c: Nat} (st:St h0 w0 h w own) (hM:OME ek eu m o v k c) (hi:own[i]?=some o) (hn:(m.map (·.1)).Nodup) (hx:ev σ x=v) (hy:ev σ y=.int .i64 (c:Int)) (hz:ev σ z=eu u) (hk:∀ o' w' own',own'=own.set i o'→OM ek eu (zgd m k u) o' v→((zgd m k u).map (·.1)).Nodup→St h0 w0 h w' own'→E P n ops rest K σ w'):
  E P n ops (⟨none,.entryStore t x y z,ty,pos,aft,none⟩::rest) K σ w:=by
 obtain ⟨b,es,clock,j,e,rfl,rfl,hE,hB,hD,he,rfl,hm⟩:=hM;have hb:=st.get hi;have hg:(getObj b).run P w=.ok (.map es clock) w:=by simp[getObj,Sem.run,hb]
 have hset:∀ es' c',(setObj b (.map es' c')).run P w=.ok () { w with heap:=w.heap.setIfInBounds b (.map es' c') }:=by
  intro es' c';simp[setObj,Sem.run,hb]
 obtain ⟨⟨k',u0⟩,hmj,e9⟩:=Option.map_eq_some_iff.1 hm;obtain rfl:k'=k:=e9;obtain ⟨e',he',hk1,_⟩:=hE.getP hmj;obtain rfl:e'=e:=Option.some.inj (he'.symm.trans he);have hidx:es.findIdx? (fun x=>((x.born:Nat):Int) == ((e'.born:Nat):Int))=some j:=by
  rw[WideElems.findIdx_arr];exact WideElems.findIdx_born hD he
 have hl:(zcb m k').isSome=true:=by
  rw[zcb,Option.isSome_map,List.find?_isSome];exact ⟨_,List.mem_of_getElem? hmj,by simp⟩
 have hp:zgd m k' u=m.map fun p=>if p.1=k' then (k',u) else p:=by rw[zgd,if_pos hl]
 have hmod:es.modify j (fun x=>{ x with val:=eu u })=es.modify j (fun x=>{ x with key:=ek k',val:=eu u }):=by
  apply Array.ext';rw[Array.toList_modify,Array.toList_modify];refine List.ext_getElem? fun q=>?_;rw[List.getElem?_modify,List.getElem?_modify]
  by_cases hq:j=q
  ·subst hq;rw[he];simp[hk1]
  ·simp[hq]
 refine zlv rfl rfl (w':={ w with heap:=w.heap.setIfInBounds b (.map (es.modify j fun x=>{ x with key:=ek k',val:=eu u }) clock) }) ?_ (hk _ _ _ rfl ⟨b,es.modify j fun x=>{ x with key:=ek k',val:=eu u },clock,rfl,rfl,?_,?_,?_⟩ ?_ (st.set _ hi))
 ·simp only[execOp,hx,hy,hz,Instr.entryStore,Sem.run_bind,Result.andThen_ok,hg,asInt,asIntOf,Sem.run_pure,hidx,hset,hmod]
 ·rw[hp,Array.toList_modify];exact hE.modify hn hmj
 ·intro x hx';rw[Array.toList_modify] at hx';obtain ⟨q,hq⟩:=List.mem_iff_getElem?.1 hx';rw[List.getElem?_modify] at hq;cases e3:es.toList[q]? with
  | none=>rw[e3] at hq;simp at hq
  | some y=>
   rw[e3] at hq;have:=hB y (List.mem_of_getElem? e3)
   by_cases q9:j=q
   ·simp[q9] at hq;rw[← hq];exact this
   ·simp[q9] at hq;rw[← hq];exact this
 ·have:(es.modify j fun x=>{ x with key:=ek k',val:=eu u }).toList.map (·.born)=es.toList.map (·.born):=by
   rw[Array.toList_modify];refine List.ext_getElem? fun q=>?_;rw[List.getElem?_map,List.getElem?_map,List.getElem?_modify];cases e3:es.toList[q]? with
   | none=>rfl
   | some y=>by_cases q9:j=q <;> simp[q9]
  rw[this];exact hD
 ·have:(zgd m k' u).map (·.1)=m.map (·.1):=by
   rw[hp,List.map_map];refine List.map_congr_left fun p _=>?_
   by_cases q:p.1=k'
   ·simp[q]
   ·simp[q]
  rw[this];exact hn
end
section
variable {P:Program} {n:Nat} {t:TypeId}
def Chk (P:Program) (n:Nat) (t:TypeId) (v:Value):Prop:=∀ b w,(Instr.checkKey b n t v).run P w=.ok () w
theorem zpL {off:Nat} (ha:∀ w,(isAgg t).run P w=.ok false w) (h:cs[off]?=some v) (w:World):(part t cs off).run P w=.ok v w:=by simp[part,ha,h]
theorem Chk.int {ik k:IntKind} {x:Int} (hu:P.underlying t=some (.int ik)):Chk P (n+1) t (.int k x):=by
 intro b w;rw[Instr.checkKey];simp[run_underlying hu]
theorem Chk.struct (hu:P.underlying t=some (.struct fs)) (h:∀ f∈fs.toList,∃ v,(∀ w,(part f.type cs f.offset).run P w=.ok v w)∧Chk P n f.type v):Chk P (n+1) t (.agg cs):=by
 intro b w;rw[Instr.checkKey];simp only[Sem.run_bind,run_underlying hu,Result.andThen_ok];rw[← Array.forIn_toList];generalize fs.toList=l at h
 induction l with
 | nil=>simp
 | cons f l ih=>
  obtain ⟨v,h1,h2⟩:=h f (by simp);have ih:=ih (fun g hg=>h g (by simp[hg]));have h2:=h2 b w;simp only[List.forIn_cons]
  by_cases n0 : f.name ≠ "_" <;> simp_all
end
structure Pair where
 a:Int
 b:Int
 deriving DecidableEq
structure Trip where
 a:Int
 b:Int
 c:Int
 deriving DecidableEq
def zrh (s:Pair):Value:=.agg [.int .i64 s.a,.int .i64 s.b].toArray
def tripV (s:Trip):Value:=.agg [.int .i64 s.a,.int .i64 s.b,.int .i64 s.c].toArray
section
variable {P:Program} {kt e_:TypeId} (he:P.underlying e_=some (.int .i64)) (ha:∀ w,(isAgg e_).run P w=.ok false w) (hz:∀ w,(sizeOf e_).run P w=.ok 1 w)
include he ha hz
theorem zxm (hu:P.underlying kt=some (.array 2 e_)) (s t:Pair) (w:World):(Op.equal kt (zrh s) (zrh t)).run P w=.ok (decide (s=t)) w:=by
 rcases s with ⟨a,b⟩;rcases t with ⟨a',b'⟩
 show (Op.equalIn (9998+1+1) kt _ _).run P w=_;rw[Op.equalIn];simp only[Sem.run_bind,run_underlying hu,Result.andThen_ok,zrh,hz];have q:=zBi he 9998;simp only[Std.Legacy.Range.forIn_eq_forIn_range',Std.Legacy.Range.size,Nat.sub_zero,Nat.add_sub_cancel,Nat.div_one,List.range'_succ,List.range'_zero,List.forIn_cons,List.forIn_nil,Nat.mul_one,Nat.zero_add,Nat.reduceAdd];have e0:∀ x0 x1:Value,(part e_ #[x0,x1] 0).run P w=.ok x0 w:=fun _ _=>zpL ha rfl w;have e1:∀ x0 x1:Value,(part e_ #[x0,x1] 1).run P w=.ok x1 w:=fun _ _=>zpL ha rfl w
 by_cases h1:a=a'
 rotate_left
 ·simp[e0,q,h1]
 by_cases h2:b=b'
 rotate_left
 ·simp[e0,e1,q,h1,h2]
 simp[e0,e1,q,h1,h2]
theorem zzX (hu:P.underlying kt=some (.array 2 e_)):KeyG P kt zrh where
 eq:=zxm he ha hz hu
 now:=fun a b w=>⟨_,hu,rfl⟩
 check:=fun em s w=>by
  rw[show (10000:Nat)=9998+1+1 from rfl,Instr.checkKey];have q:∀ (x:Int),(Instr.checkKey em (9998+1) e_ (.int .i64 x)).run P w=.ok () w:=fun x=>Chk.int he em w;simp only[Sem.run_bind,run_underlying hu,Result.andThen_ok,zrh,hz];simp only[Std.Legacy.Range.forIn_eq_forIn_range',Std.Legacy.Range.size,Nat.sub_zero,Nat.add_sub_cancel,Nat.div_one,List.range'_succ,List.range'_zero,List.forIn_cons,List.forIn_nil,Nat.mul_one,Nat.zero_add,Nat.reduceAdd];have e0:∀ x0 x1:Value,(part e_ #[x0,x1] 0).run P w=.ok x0 w:=fun _ _=>zpL ha rfl w;have e1:∀ x0 x1:Value,(part e_ #[x0,x1] 1).run P w=.ok x1 w:=fun _ _=>zpL ha rfl w;simp[hz,e0,e1,q]
 stays:=fun k=>by
  rw[show (10000:Nat)=9999+1 from rfl];simp[zrh,Instr.sameBits]
end
def zuP:Lay Pair:={ size:=2,R:=fun _ vs x=>vs=[.int .i64 x.a,.int .i64 x.b],up:=fun h _=>h,len:=(by rintro _ _ _ rfl;rfl),one:=(by rintro _ _ _ rfl u hu;simp only[List.mem_cons,List.not_mem_nil,or_false] at hu;rcases hu with rfl|rfl <;> rfl) }
def LTrip:Lay Trip:={ size:=3,R:=fun _ vs x=>vs=[.int .i64 x.a,.int .i64 x.b,.int .i64 x.c],up:=fun h _=>h,len:=(by rintro _ _ _ rfl;rfl),one:=(by rintro _ _ _ rfl u hu;simp only[List.mem_cons,List.not_mem_nil,or_false] at hu;rcases hu with rfl|rfl|rfl <;> rfl) }
structure Ref where
 chapter:Int
 line:Int
 word:Int
 deriving DecidableEq
def LRef:Lay Ref:={ size:=3,R:=fun _ vs x=>vs=[.int .i64 x.chapter,.int .i64 x.line,.int .i64 x.word],up:=fun h _=>h,len:=(by rintro _ _ _ rfl;rfl),one:=(by rintro _ _ _ rfl u hu;simp only[List.mem_cons,List.not_mem_nil,or_false] at hu;rcases hu with rfl|rfl|rfl <;> first|rfl|exact Sl.one (by assumption)) }
structure Stretch where
 chapter:Int
 from_:Int
 to:Int
 as_:Int
 first:Int
 deriving DecidableEq
def zbw:Lay Stretch:={ size:=5,R:=fun _ vs x=>vs=[.int .i64 x.chapter,.int .i64 x.from_,.int .i64 x.to,.int .i64 x.as_,.int .i64 x.first],up:=fun h _=>h,len:=(by rintro _ _ _ rfl;rfl),one:=(by rintro _ _ _ rfl u hu;simp only[List.mem_cons,List.not_mem_nil,or_false] at hu;rcases hu with rfl|rfl|rfl|rfl|rfl <;> first|rfl|exact Sl.one (by assumption)) }
structure Edition where
 id:Int
 stretches:(List Stretch)
 deriving DecidableEq
def zmr:Lay Edition:={ size:=2,R:=fun h vs x=>∃ v0,vs=[.int .i64 x.id,v0]∧Sl zbw h v0 x.stretches,up:=(by rintro _ _ _ _ ⟨v0,rfl,f0⟩ hl;exact ⟨v0,rfl,f0.up hl⟩),len:=(by rintro _ _ _ ⟨_,rfl,_⟩;rfl),one:=(by rintro _ _ _ ⟨v0,rfl,f0⟩ u hu;simp only[List.mem_cons,List.not_mem_nil,or_false] at hu;rcases hu with rfl|rfl <;> first|rfl|exact Sl.one (by assumption)) }
structure Cut where
 width:Int
 side:Int
 deriving DecidableEq
def zDd:Lay Cut:={ size:=2,R:=fun _ vs x=>vs=[.int .i64 x.width,.int .u8 x.side]∧(0≤x.side∧x.side≤255),up:=fun h _=>h,len:=(by rintro _ _ _ ⟨rfl,_⟩;rfl),one:=(by rintro _ _ _ ⟨rfl,f0⟩ u hu;simp only[List.mem_cons,List.not_mem_nil,or_false] at hu;rcases hu with rfl|rfl <;> first|rfl|exact Sl.one (by assumption)) }
structure Row where
 at_:Place
 ref:Ref
 sure:Int
 deriving DecidableEq
def zqR:Lay Row:={ size:=7,R:=fun _ vs x=>vs=[.int .i64 x.at_.chapter,.int .i64 x.at_.line,.int .i64 x.at_.word,.int .i64 x.ref.chapter,.int .i64 x.ref.line,.int .i64 x.ref.word,.int .u8 x.sure]∧(0≤x.sure∧x.sure≤255),up:=fun h _=>h,len:=(by rintro _ _ _ ⟨rfl,_⟩;rfl),one:=(by rintro _ _ _ ⟨rfl,f0⟩ u hu;simp only[List.mem_cons,List.not_mem_nil,or_false] at hu;rcases hu with rfl|rfl|rfl|rfl|rfl|rfl|rfl <;> first|rfl|exact Sl.one (by assumption)) }
structure Form where
 word:Str
 rows:(List Row)
 deriving DecidableEq
def zjO:Lay Form:={ size:=2,R:=fun h vs x=>∃ v0,vs=[zae x.word,v0]∧x.word.length≤big∧Sl zqR h v0 x.rows,up:=(by rintro _ _ _ _ ⟨v0,rfl,f0,f1⟩ hl;exact ⟨v0,rfl,f0,f1.up hl⟩),len:=(by rintro _ _ _ ⟨_,rfl,_,_⟩;rfl),one:=(by rintro _ _ _ ⟨v0,rfl,f0,f1⟩ u hu;simp only[List.mem_cons,List.not_mem_nil,or_false] at hu;rcases hu with rfl|rfl <;> first|rfl|exact Sl.one (by assumption)) }
structure VEntry where
 head:Head
 forms:(List Form)
 deriving DecidableEq
def zfT:Lay VEntry:={ size:=3,R:=fun h vs x=>∃ v0,vs=[zae x.head.stem,.int .u8 x.head.mark,v0]∧x.head.stem.length≤big∧(0≤x.head.mark∧x.head.mark≤255)∧Sl zjO h v0 x.forms,up:=(by rintro _ _ _ _ ⟨v0,rfl,f0,f1,f2⟩ hl;exact ⟨v0,rfl,f0,f1,f2.up hl⟩),len:=(by rintro _ _ _ ⟨_,rfl,_,_,_⟩;rfl),one:=(by rintro _ _ _ ⟨v0,rfl,f0,f1,f2⟩ u hu;simp only[List.mem_cons,List.not_mem_nil,or_false] at hu;rcases hu with rfl|rfl|rfl <;> first|rfl|exact Sl.one (by assumption)) }
structure Volume where
 entries:(List VEntry)
 deriving DecidableEq
def LVolume:Lay Volume:={ size:=1,R:=fun h vs x=>∃ v0,vs=[v0]∧Sl zfT h v0 x.entries,up:=(by rintro _ _ _ _ ⟨v0,rfl,f0⟩ hl;exact ⟨v0,rfl,f0.up hl⟩),len:=(by rintro _ _ _ ⟨_,rfl,_⟩;rfl),one:=(by rintro _ _ _ ⟨v0,rfl,f0⟩ u hu;simp only[List.mem_cons,List.not_mem_nil,or_false] at hu;rcases hu with rfl <;> first|rfl|exact Sl.one (by assumption)) }
structure Records where
 text:Text
 copies:(List Copy)
 lexicon:Lexicon
 edition:Edition
 cut:Cut
 deriving DecidableEq
def zwM:Lay Records:={ size:=8,R:=fun h vs x=>∃ v0 v1 v2 v3 v4,vs=[v0,v1,v2,v3,.int .i64 x.edition.id,v4,.int .i64 x.cut.width,.int .u8 x.cut.side]∧Sl zax h v0 x.text.chapters∧Sl zeS h v1 x.copies∧Sl zcS h v2 x.lexicon.rules∧Sl zau h v3 x.lexicon.decisions∧Sl zbw h v4 x.edition.stretches∧(0≤x.cut.side∧x.cut.side≤255),up:=(by rintro _ _ _ _ ⟨v0,v1,v2,v3,v4,rfl,f0,f1,f2,f3,f4,f5⟩ hl;exact ⟨v0,v1,v2,v3,v4,rfl,f0.up hl,f1.up hl,f2.up hl,f3.up hl,f4.up hl,f5⟩),len:=(by rintro _ _ _ ⟨_,_,_,_,_,rfl,_,_,_,_,_,_⟩;rfl),one:=(by rintro _ _ _ ⟨v0,v1,v2,v3,v4,rfl,f0,f1,f2,f3,f4,f5⟩ u hu;simp only[List.mem_cons,List.not_mem_nil,or_false] at hu;rcases hu with rfl|rfl|rfl|rfl|rfl|rfl|rfl|rfl <;> first|rfl|exact Sl.one (by assumption)) }
structure Slip where
 at_:Place
 word:Str
 before:Str
 after:Str
 deriving DecidableEq
def LSlip:Lay Slip:={ size:=6,R:=fun _ vs x=>vs=[.int .i64 x.at_.chapter,.int .i64 x.at_.line,.int .i64 x.at_.word,zae x.word,zae x.before,zae x.after]∧x.word.length≤big∧x.before.length≤big∧x.after.length≤big,up:=fun h _=>h,len:=(by rintro _ _ _ ⟨rfl,_,_,_⟩;rfl),one:=(by rintro _ _ _ ⟨rfl,f0,f1,f2⟩ u hu;simp only[List.mem_cons,List.not_mem_nil,or_false] at hu;rcases hu with rfl|rfl|rfl|rfl|rfl|rfl <;> first|rfl|exact Sl.one (by assumption)) }
structure CRow where
 chapter:Int
 line:Int
 as_:Int
 number:Int
 words:Int
 deriving DecidableEq
def zru:Lay CRow:={ size:=5,R:=fun _ vs x=>vs=[.int .i64 x.chapter,.int .i64 x.line,.int .i64 x.as_,.int .i64 x.number,.int .i64 x.words],up:=fun h _=>h,len:=(by rintro _ _ _ rfl;rfl),one:=(by rintro _ _ _ rfl u hu;simp only[List.mem_cons,List.not_mem_nil,or_false] at hu;rcases hu with rfl|rfl|rfl|rfl|rfl <;> first|rfl|exact Sl.one (by assumption)) }
structure Chart where
 edition:Edition
 text:Text
 as_:(List (Pair×Pair))
 back:(List (Pair×Pair))
 deriving DecidableEq
def zpq:Lay Chart:={ size:=5,R:=fun h vs x=>∃ v0 v1 v2 v3,vs=[.int .i64 x.edition.id,v0,v1,v2,v3]∧Sl zbw h v0 x.edition.stretches∧Sl zax h v1 x.text.chapters∧FML zrh (fun x:Pair=>[.int .i64 x.a,.int .i64 x.b]) zuP h x.as_ v2∧FML zrh (fun x:Pair=>[.int .i64 x.a,.int .i64 x.b]) zuP h x.back v3,up:=(by rintro _ _ _ _ ⟨v0,v1,v2,v3,rfl,f0,f1,f2,f3⟩ hl;exact ⟨v0,v1,v2,v3,rfl,f0.up hl,f1.up hl,f2.up hl,f3.up hl⟩),len:=(by rintro _ _ _ ⟨_,_,_,_,rfl,_,_,_,_⟩;rfl),one:=(by rintro _ _ _ ⟨v0,v1,v2,v3,rfl,f0,f1,f2,f3⟩ u hu;simp only[List.mem_cons,List.not_mem_nil,or_false] at hu;rcases hu with rfl|rfl|rfl|rfl|rfl <;> first|rfl|exact Sl.one (by assumption)|exact FML.one (by assumption)) }
structure Desk where
 recs:Records
 doubt:(List (Place×Bool))
 deriving DecidableEq
def zDQ:Lay Desk:={ size:=9,R:=fun h vs x=>∃ v0 v1 v2 v3 v4 v5,vs=[v0,v1,v2,v3,.int .i64 x.recs.edition.id,v4,.int .i64 x.recs.cut.width,.int .u8 x.recs.cut.side,v5]∧Sl zax h v0 x.recs.text.chapters∧Sl zeS h v1 x.recs.copies∧Sl zcS h v2 x.recs.lexicon.rules∧Sl zau h v3 x.recs.lexicon.decisions∧Sl zbw h v4 x.recs.edition.stretches∧(0≤x.recs.cut.side∧x.recs.cut.side≤255)∧FM zgr (fun b:Bool=>.bool b) h x.doubt v5,up:=(by rintro _ _ _ _ ⟨v0,v1,v2,v3,v4,v5,rfl,f0,f1,f2,f3,f4,f5,f6⟩ hl;exact ⟨v0,v1,v2,v3,v4,v5,rfl,f0.up hl,f1.up hl,f2.up hl,f3.up hl,f4.up hl,f5,f6.up hl⟩),len:=(by rintro _ _ _ ⟨_,_,_,_,_,_,rfl,_,_,_,_,_,_,_⟩;rfl),one:=(by rintro _ _ _ ⟨v0,v1,v2,v3,v4,v5,rfl,f0,f1,f2,f3,f4,f5,f6⟩ u hu;simp only[List.mem_cons,List.not_mem_nil,or_false] at hu;rcases hu with rfl|rfl|rfl|rfl|rfl|rfl|rfl|rfl|rfl <;> first|rfl|exact Sl.one (by assumption)|exact FML.one (by assumption)|exact FM.one (by assumption)) }
structure Found where
 head:Head
 word:Str
 row:Row
 deriving DecidableEq
def LFound:Lay Found:={ size:=10,R:=fun _ vs x=>vs=[zae x.head.stem,.int .u8 x.head.mark,zae x.word,.int .i64 x.row.at_.chapter,.int .i64 x.row.at_.line,.int .i64 x.row.at_.word,.int .i64 x.row.ref.chapter,.int .i64 x.row.ref.line,.int .i64 x.row.ref.word,.int .u8 x.row.sure]∧x.head.stem.length≤big∧(0≤x.head.mark∧x.head.mark≤255)∧x.word.length≤big∧(0≤x.row.sure∧x.row.sure≤255),up:=fun h _=>h,len:=(by rintro _ _ _ ⟨rfl,_,_,_,_⟩;rfl),one:=(by rintro _ _ _ ⟨rfl,f0,f1,f2,f3⟩ u hu;simp only[List.mem_cons,List.not_mem_nil,or_false] at hu;rcases hu with rfl|rfl|rfl|rfl|rfl|rfl|rfl|rfl|rfl|rfl <;> first|rfl|exact Sl.one (by assumption)) }
def zeQ (x:Lexicon):List Decision:=x.decisions.mergeSort fun a b=>decide (b.number≤a.number)
def zhV (d:Decision):Int×Decision:=(d.number,d)
def zgV (x:Lexicon):List (Int×Decision):=((zeQ x).filter (zfh x)).map zhV
def OkD (x:Lexicon):Prop:=(x.decisions.map (·.number)).Nodup∧∀ v∈x.decisions,1≤v.number∧v.number≤999∧(v.kind=4→v.of_<v.number)
theorem zfD (x:Lexicon):(zeQ x).Perm x.decisions:=List.mergeSort_perm _ _
theorem zpT (x:Lexicon):(zeQ x).Pairwise fun a b=>b.number≤a.number:=by
 have h:=List.pairwise_mergeSort (le:=fun a b:Decision=>decide (b.number≤a.number)) (by intro a b c h1 h2;simp at *;omega) (by intro a b;simp;omega) x.decisions;exact h.imp (fun h=>by simpa using h)
theorem zut {f:α→Int} (hn:(xs.map f).Nodup) {a b:α} (ha:a∈xs) (hb:b∈xs) (e:f a=f b):a=b:=by
 obtain ⟨i,hi⟩:=List.mem_iff_getElem?.1 ha;obtain ⟨j,hj⟩:=List.mem_iff_getElem?.1 hb
 rcases Nat.lt_trichotomy i j with h|h|h
 ·exact absurd hn (zmd hi hj h e)
 ·subst h;rw[hi] at hj;exact Option.some.inj hj
 exact absurd hn (zmd hj hi h e.symm)
theorem zAv {ys:List Decision} (hp:ys.Perm x.decisions) (hs:ys.Pairwise fun a b=>¬ a.number-b.number<0) (hn:(x.decisions.map (·.number)).Nodup):ys=zeQ x:=by
 refine List.Perm.eq_of_pairwise (le:=fun a b:Decision=>b.number≤a.number) ?_ (hs.imp (fun h=>by omega)) (zpT x) (hp.trans (zfD x).symm);intro a b ha hb h1 h2;exact zut hn (hp.mem_iff.1 ha) ((zfD x).mem_iff.1 hb) zU
theorem zlH (hn:(x.decisions.map (·.number)).Nodup):((zeQ x).map (·.number)).Nodup:=((zfD x).map _).nodup_iff.2 hn
theorem zzU {κ: Type} [DecidableEq κ] {m:List (κ×υ)} {k:κ} (h:zcb m k=none):zgd m k u=m++[(k,u)]:=by simp[zgd,h]
theorem zux {n:Int} (hn:(l.map (·.number)).Nodup):zcb (l.map zhV) n=some d↔d∈l∧d.number=n:=by
 induction l with
 | nil=>simp[zcb]
 | cons e l ih=>
  simp only[List.map_cons,List.nodup_cons] at hn;have ih:=ih hn.2;simp only[zcb,List.map_cons,List.find?_cons,zhV] at ih ⊢
  by_cases h:e.number=n
  ·simp only[h,decide_true,Option.map_some,Option.some.injEq,List.mem_cons];constructor
   ·rintro rfl;exact ⟨.inl rfl,h⟩
   ·rintro ⟨rfl|h1,h2⟩
    ·rfl
    ·exact absurd (List.mem_map.2 ⟨d,h1,h2.trans h.symm⟩) hn.1
  ·simp only[h,decide_false,List.mem_cons];rw[ih];constructor
   ·rintro ⟨h1,h2⟩;exact ⟨.inr h1,h2⟩
   ·rintro ⟨rfl|h1,h2⟩
    ·exact absurd h2 h
    ·exact ⟨h1,h2⟩
theorem zsx {n:Int} (h:n ∉ l.map (·.number)):zcb (l.map zhV) n=none:=by
 simp only[zcb,Option.map_eq_none_iff,List.find?_eq_none];intro p hp;obtain ⟨d,hd,rfl⟩:=List.mem_map.1 hp;intro e;have e':d.number=n:=of_decide_eq_true e;exact h (e'▸List.mem_map_of_mem hd)
theorem zwi (hn:(l.map (·.number)).Nodup) (hd:l[k]?=some d):zgd ((l.take k).map zhV) d.number d=(l.take (k+1)).map zhV:=by
 rw[zzU (zsx ?_),zaQ hd,List.map_append]
 ·rfl
 intro h;exact zlV (f:=(·.number)) hd h hn
def zjl (x:Lexicon) (k:Nat) (d:Decision):Bool:=((zeQ x).take k).all fun v=>!(decide (v.kind=4) && decide (v.of_=d.number) && zfh x v)
theorem zrV (hx:OkD x) (hd:1≤d.number):zfh x d=x.decisions.all fun v=>!(decide (v.kind=4) && decide (v.of_=d.number) && zfh x v):=by
 have hv:∀ v∈x.decisions,v.number≤999∧(v.kind=4→v.of_<v.number):=fun v h=>(hx.2 v h).2;unfold zfh;rw[zkX hv zU];rw[Bool.eq_iff_iff,List.all_eq_true,List.all_eq_true];refine forall_congr' fun v=>forall_congr' fun hm=>?_;have h1:=(hx.2 v hm).1;have e:zgT x (1000-1) v=zgT x 1000 v:=by
  rw[zkX hv (show 999<v.number+((1000-1:Nat):Int) by omega),zkX hv (show 999<v.number+((1000:Nat):Int) by omega)]
  -- both say the same of what makes v void
  rw[Bool.eq_iff_iff,List.all_eq_true,List.all_eq_true];refine forall_congr' fun u=>forall_congr' fun hu=>?_
  by_cases hk:u.kind=4
  ·by_cases ho:u.of_=v.number
   ·have h2:=(hx.2 u hu).2.2 hk;have:zgT x (1000-1-1) u=zgT x (1000-1) u:=by
     have h3:2≤u.number:=by omega
     have key:∀ (n m:Nat) (w:Decision),999<w.number+(n:Int)→999<w.number+(m:Int)→zgT x n w=zgT x m w:=by
      intro n
      induction n with
      | zero=>
       intro m w hw hm';cases m with
       | zero=>rfl
       | succ m=>
        simp only[zgT]
        symm
        rw[List.all_eq_true];intro y hy;have hy':=hx.2 y hy
        by_cases hk':y.kind=4
        ·have:¬ y.of_=w.number:=by have:=hy'.2.2 hk';omega
         simp[this]
        ·simp[hk']
      | succ n ih=>
       intro m w hw hm';cases m with
       | zero=>
        simp only[zgT];rw[List.all_eq_true];intro y hy;have hy':=hx.2 y hy
        by_cases hk':y.kind=4
        ·have:¬ y.of_=w.number:=by have:=hy'.2.2 hk';omega
         simp[this]
        ·simp[hk']
       | succ m=>
        simp only[zgT];rw[Bool.eq_iff_iff,List.all_eq_true,List.all_eq_true];refine forall_congr' fun y=>forall_congr' fun hy=>?_;have hy':=hx.2 y hy
        by_cases hk':y.kind=4
        ·by_cases ho':y.of_=w.number
         ·have:=hy'.2.2 hk';rw[ih m y zU zU]
         ·simp[ho']
        ·simp[hk']
     exact key _ _ u zU zU
    simp only[zni,this]
   ·simp[zni,ho]
  ·simp[zni,hk]
 simp only[zni,e]
theorem zAj (hx:OkD x) (hd:(zeQ x)[k]?=some d):zjl x k d=zfh x d:=by
 have hm:d∈x.decisions:=(zfD x).mem_iff.1 (List.mem_of_getElem? hd);rw[zrV hx (hx.2 d hm).1];rw[Bool.eq_iff_iff,zjl,List.all_eq_true,List.all_eq_true];constructor
 ·intro h v hv
  by_cases hk:v.kind=4
  ·by_cases ho:v.of_=d.number
   ·have h1:=(hx.2 v hv).2.2 hk;obtain ⟨j,hj⟩:=List.mem_iff_getElem?.1 ((zfD x).mem_iff.2 hv);have hjk:j<k:=by
     rcases Nat.lt_or_ge j k with h2|h2
     ·exact h2
     ·rcases Nat.eq_or_lt_of_le h2 with h3|h3
      ·subst h3;rw[hj] at hd;cases hd;omega
      ·obtain ⟨a1,a2⟩:=List.getElem?_eq_some_iff.1 hd;obtain ⟨b1,b2⟩:=List.getElem?_eq_some_iff.1 hj;have:=List.pairwise_iff_getElem.1 (zpT x) k j a1 b1 h3;rw[a2,b2] at this;omega
    exact h v (List.mem_of_getElem? (by rw[List.getElem?_take,if_pos hjk];exact hj))
   ·simp[ho]
  ·simp[hk]
 intro h v hv;exact h v ((zfD x).mem_iff.1 (List.mem_of_mem_take hv))
theorem zsC (x:Lexicon):((zeQ x).filter (zjl x 0)).map zhV=(zeQ x).map zhV:=by
 congr 1;rw[List.filter_eq_self];intro d _;simp[zjl]
theorem zyK (hx:OkD x):((zeQ x).filter (zjl x (zeQ x).length)).map zhV=zgV x:=by
 unfold zgV;congr 1;apply List.filter_congr;intro d hd;have hm:d∈x.decisions:=(zfD x).mem_iff.1 hd;rw[zrV hx (hx.2 d hm).1,zjl,List.take_length,Bool.eq_iff_iff,List.all_eq_true,List.all_eq_true];exact ⟨fun h v hv=>h v ((zfD x).mem_iff.2 hv),fun h v hv=>h v ((zfD x).mem_iff.1 hv)⟩
theorem zmC (hx:OkD x) (p:Decision→Bool):(((zeQ x).filter p).map (·.number)).Nodup:=(List.filter_sublist.map _).nodup (zlH hx.1)
theorem znY (hx:OkD x) (hd:(zeQ x)[k]?=some d):(zcb (((zeQ x).filter (zjl x k)).map zhV) d.number).isSome=zfh x d:=by
 rw[← zAj hx hd];have hm:=List.mem_of_getElem? hd;cases h:zjl x k d with
 | true=>
  have:=(zux (zmC hx (zjl x k))).2 ⟨List.mem_filter.2 ⟨hm,h⟩,rfl⟩;rw[this];rfl
 | false=>
  cases hl:zcb (((zeQ x).filter (zjl x k)).map zhV) d.number with
  | none=>rfl
  | some e=>
   obtain ⟨h1,h2⟩:=(zux (zmC hx (zjl x k))).1 hl;have h3:=List.mem_filter.1 h1;have:e=d:=zut (zlH hx.1) h3.1 hm h2;subst this;rw[h] at h3;cases h3.2
theorem zsD (hd:(zeQ x)[k]?=some d):zjl x (k+1) e=(zjl x k e && !(decide (d.kind=4) && decide (d.of_=e.number) && zfh x d)):=by
 simp only[zjl,zaQ hd,List.all_append,List.all_cons,List.all_nil,Bool.and_true]
theorem zwh (hd:(zeQ x)[k]?=some d) (h:d.kind=4∧zfh x d=true):
  zkC (((zeQ x).filter (zjl x k)).map zhV) d.of_=((zeQ x).filter (zjl x (k+1))).map zhV:=by
 rw[zkC,List.filter_map,List.filter_filter];congr 1;apply List.filter_congr;intro e _;rw[zsD hd,h.1,h.2];simp only[Function.comp,zhV,decide_true,Bool.and_true,Bool.true_and];rw[Bool.and_comm];congr 2;exact decide_eq_decide.2 eq_comm
theorem zpO (hd:(zeQ x)[k]?=some d) (h:¬ (d.kind=4∧zfh x d=true)):
  ((zeQ x).filter (zjl x k)).map zhV=((zeQ x).filter (zjl x (k+1))).map zhV:=by
 congr 1;apply List.filter_congr;intro e _;rw[zsD hd]
 by_cases h1:d.kind=4
 ·have h2:zfh x d=false:=by
   cases q:zfh x d with
   | false=>rfl
   | true=>exact absurd ⟨h1,q⟩ h
  simp[h2]
 ·simp[h1]
theorem zkY {p:Int×Decision} (h:p∈zgV x):p.2∈x.decisions∧p.1=p.2.number∧zfh x p.2=true:=by
 obtain ⟨d,hd,rfl⟩:=List.mem_map.1 h;obtain ⟨h1,h2⟩:=List.mem_filter.1 hd;exact ⟨(zfD x).mem_iff.1 h1,rfl,h2⟩
theorem zsq {t:Text} (h:zbG t x=0):OkD x:=by
 have h1:=zuA h;have h2:=zsy h;refine ⟨?_,fun v hv=>⟨h2 v hv,h1 v hv⟩⟩;unfold zbG at h;split at h
 ·cases h
 split at h
 ·cases h
 rename_i h3;simp only[Bool.not_eq_false] at h3;simp only[zdm,Bool.and_eq_true,decide_eq_true_eq] at h3;exact h3.2
def zlA (rs:List Rule) (left:Int) (w:Str):Str:=if left=0 then w else (zgp rs w).getD w
def zoA (rs:List Rule) (left:Int) (w:Str):Bool:=if left=0 then false else (zgp rs w).isSome
def zqU (left:Int):Int:=if left=0 then 0 else left-1
def zhC (s p:Str):Bool:=decide (p.length≤s.length) && decide (s.drop (s.length-p.length)=p)
theorem zyo {s: Str} (ht:(rs.take i).findSome? (zhN · w)=none) (hr:rs[i]?=some r) (hm:zhN r w=some s):zgp rs w=some s:=by
 unfold zgp;rw[← List.take_append_drop i rs,List.findSome?_append,ht,zhA hr,List.findSome?_cons,hm];rfl
theorem zvI (ht:(rs.take i).findSome? (zhN · w)=none) (hi:rs.length≤i):zgp rs w=none:=by
 rw[List.take_of_length_le hi] at ht;exact ht
theorem zqo (ht:(rs.take i).findSome? (zhN · w)=none) (hr:rs[i]?=some r) (hm:zhN r w=none):(rs.take (i+1)).findSome? (zhN · w)=none:=by
 rw[zaQ hr,List.findSome?_append,ht,List.findSome?_cons,hm];rfl
theorem zug (h:w.length≤12):(zlA rs left w).length≤12:=by
 unfold zlA;split
 ·exact h
 cases e:zgp rs w with
 | none=>exact h
 | some s=>
  obtain ⟨r,_,hr⟩:=List.exists_of_findSome?_eq_some e;exact zsv hr
theorem zvd (h:zhC w r.cut=true→r.least≤((w.take (w.length-r.cut.length)).length:Int)∧(w.take (w.length-r.cut.length)).length+r.put.length≤12→False):zhN r w=none:=by
 unfold zhN;rw[if_neg];rintro ⟨q1,q2,q3,q4⟩;have hl:(w.take (w.length-r.cut.length)).length=w.length-r.cut.length:=by rw[List.length_take];omega
 exact h (by simp[zhC,q1,q3]) (by rw[hl];exact ⟨q2,q4⟩)
theorem zAg (h:zhC w r.cut=true) (h1:r.least≤((w.take (w.length-r.cut.length)).length:Int)) (h2:(w.take (w.length-r.cut.length)).length+r.put.length≤12):zhN r w=some (w.take (w.length-r.cut.length)++r.put):=by
 simp only[zhC,Bool.and_eq_true,decide_eq_true_eq] at h;have hl:(w.take (w.length-r.cut.length)).length=w.length-r.cut.length:=by rw[List.length_take];omega
 rw[hl] at h1 h2;unfold zhN;rw[if_pos ⟨h.1,h1,h.2,h2⟩]
theorem znS (h:zoA rs left w=true):¬ left=0∧zgp rs w=some (zlA rs left w):=by
 unfold zoA at h;unfold zlA;split at h
 ·cases h
 rename_i h0;rw[if_neg h0];refine ⟨h0,?_⟩;cases e:zgp rs w with
 | none=>rw[e] at h;cases h
 | some s=>rfl
theorem zrR (h:zoA rs left w=false) (hn:left=(n:Int)):zec rs n w=[w]:=by
 unfold zoA at h;split at h
 ·have:n=0:=by omega
  subst this;rfl
 apply zqX;cases e:zgp rs w with
 | none=>rfl
 | some s=>rw[e] at h;cases h
theorem zjk {dn rm rm' m:List α} {p:α} (h:(dn++rm).Perm m) (q:rm.Perm (p::rm')):((dn++[p])++rm').Perm m:=by
 refine List.Perm.trans ?_ h;rw[List.append_assoc];exact (List.Perm.append_left dn q).symm
theorem standAt_mem:d∈ziM x n↔d∈x.decisions∧d.number=(n:Int)+1∧zfh x d=true:=by
 simp only[ziM,List.mem_filter,zmt,zfh,Bool.and_eq_true,decide_eq_true_eq]
theorem zky {x:Lexicon} (hn:(x.decisions.map (·.number)).Nodup):∀ n,(((List.range n).flatMap (ziM x)).map (·.number)).Pairwise (fun a b:Int=>a<b)∧∀ a∈((List.range n).flatMap (ziM x)).map (·.number),a≤(n:Int)
 | 0=>by simp
 | n+1=>by
  obtain ⟨h1,h2⟩:=zky hn n;have h3:((ziM x n).map (·.number)).Nodup:=(List.filter_sublist.map _).nodup hn;have h4:∀ a∈(ziM x n).map (·.number),a=(n:Int)+1:=by
   intro a ha;obtain ⟨d,hd,rfl⟩:=List.mem_map.1 ha;exact (standAt_mem.1 hd).2.1
  rw[List.range_succ,List.flatMap_append,List.map_append];simp only[List.flatMap_cons,List.flatMap_nil,List.append_nil];refine ⟨List.pairwise_append.2 ⟨h1,?_,?_⟩,?_⟩
  ·refine List.Pairwise.imp_of_mem ?_ h3;intro a b ha hb hne;exact absurd ((h4 a ha).trans (h4 b hb).symm) hne
  ·intro a ha b hb;have:=h2 a ha;have:=h4 b hb;omega
  ·intro a ha
   rcases List.mem_append.1 ha with ha|ha
   ·have:=h2 a ha;omega
   ·have:=h4 a ha;omega
def zsb (w:Str):Bool:=decide (w.length≤40)
def zkZ (l:List Str):Bool:=decide (l.length≤15) && l.all zsb
def ziQ (c:Chapter):Bool:=decide (c.lines.length≤15) && c.lines.all zkZ
def ziB (t:Text):Bool:=decide (t.chapters.length≤10) && t.chapters.all ziQ
def zhR (r:Rule):Bool:=decide (r.cut.length≤100) && decide (r.put.length≤100)
def zhS (d:Decision):Bool:=decide (d.form.length≤100) && decide (d.to.stem.length≤100)
def zep (x:Lexicon):Bool:=decide (x.rules.length≤20) && decide (x.decisions.length≤25) && x.rules.all zhR && x.decisions.all zhS
theorem zwY {t:Text} (h:ziB t=true):t.chapters.length≤10:=by
 simp only[ziB,Bool.and_eq_true,decide_eq_true_eq] at h;exact h.1
theorem zzv {t:Text} (h:ziB t=true) (hc:t.chapters[i]?=some c):c.lines.length≤15:=by
 simp only[ziB,Bool.and_eq_true,decide_eq_true_eq,List.all_eq_true] at h;have:=h.2 c (List.mem_of_getElem? hc);simp only[ziQ,Bool.and_eq_true,decide_eq_true_eq] at this;exact this.1
theorem zzu {t:Text} (h:ziB t=true) {l:List Str} (hc:t.chapters[i]?=some c) (hl:c.lines[k]?=some l):l.length≤15:=by
 simp only[ziB,Bool.and_eq_true,decide_eq_true_eq,List.all_eq_true] at h;have:=h.2 c (List.mem_of_getElem? hc);simp only[ziQ,Bool.and_eq_true,decide_eq_true_eq,List.all_eq_true] at this;have:=this.2 l (List.mem_of_getElem? hl);simp only[zkZ,Bool.and_eq_true,decide_eq_true_eq] at this;exact this.1
theorem zwX (h:zep x=true):x.rules.length≤20∧x.decisions.length≤25:=by
 simp only[zep,Bool.and_eq_true,decide_eq_true_eq] at h;exact h.1.1
def zgN (a b:Int):Int:=if a<b then -1 else if b<a then 1 else 0
def zrA:List Int→List Int→Int
 | [],[]=>0
 | [],_::_=>-1
 | _::_,[]=>1
 | a::az,b::bs=>if zgN a b≠0 then zgN a b else zrA az bs
def zmD (a b:Str):Int:=Lib.compareBytes a b
def zgA (a b:Place):Int:=zrA [a.chapter,a.line,a.word] [b.chapter,b.line,b.word]
def zlW (a b:Decision):Int:=if a.kind≠b.kind then a.kind-b.kind else if a.kind=2∧a.at_≠b.at_ then zgA a.at_ b.at_ else a.number-b.number
def zfg (d:Decision) (p:Place) (w:Str):Bool:=
 if d.kind=1 then decide (d.form=w) else if d.kind=2 then decide (d.form=w) && !zdw p d.at_ else if d.kind=3 then decide (d.at_=p) else false
def zkn (d e:Decision):Bool:=if d.kind≠e.kind then decide (d.kind > e.kind) else decide (d.kind≠2) || !zdw d.at_ e.at_
def zlI (a b:Head):Int:=if zmD a.stem b.stem≠0 then zmD a.stem b.stem else a.mark-b.mark
def sLt (a b:Str):Bool:=Op.bytesLess a b
def zdU (a b:Head):Bool:=sLt a.stem b.stem || (decide (a.stem=b.stem) && decide (a.mark<b.mark))
theorem zuH {a b:List Int} {x y:Int} (ha:a[k]?=some x) (hb:b[k]?=some y):zrA (a.drop k) (b.drop k)=if zgN x y≠0 then zgN x y else zrA (a.drop (k+1)) (b.drop (k+1)):=by
 rw[zhA ha,zhA hb];rfl
theorem ztN {a b:List Int} (ha:a=[]) (hb:b≠[]):zrA a b = -1:=by
 subst ha;cases b with
 | nil=>exact absurd rfl hb
 | cons=>rfl
theorem ztO {a b:List Int} (hb:b=[]) (ha:a≠[]):zrA a b=1:=by
 subst hb;cases a with
 | nil=>exact absurd rfl ha
 | cons=>rfl
theorem zvb (a b:Place):zgA a b=if zgN a.chapter b.chapter≠0 then zgN a.chapter b.chapter else if zgN a.line b.line≠0 then zgN a.line b.line else zgN a.word b.word:=by
 simp only[zgA,zrA];repeat' split
 all_goals simp_all
theorem zkk (a b:Place):decide (zgA a b≤0) = !zdw b a:=by
 rw[zvb];simp only[zgN,zdw]
 by_cases h1:a.chapter<b.chapter <;> by_cases h2:b.chapter<a.chapter <;> by_cases h3:a.line<b.line <;> by_cases h4:b.line<a.line <;> by_cases h5:a.word<b.word <;> by_cases h6:b.word<a.word <;> simp[h1,h2,h3,h4,h5,h6] <;> (try omega) <;> (repeat' split) <;> simp <;> omega
theorem zva (a b:Place):decide (zgA a b > 0)=zdw b a:=by
 have h:=zkk a b;cases e:zdw b a <;> rw[e] at h <;> simp at h ⊢ <;> omega
theorem zyS (hn:e.number<d.number):decide (zlW d e > 0)=zkn d e:=by
 unfold zlW zkn
 by_cases hk:d.kind=e.kind
 ·have hk':¬ d.kind≠e.kind:=by simp[hk]
  simp only[if_neg hk']
  by_cases h2:d.kind=2
  ·by_cases ha:d.at_=e.at_
   ·have q:¬ (d.kind=2∧d.at_≠e.at_):=by simp[ha]
    have:zdw e.at_ e.at_=false:=by simp[zdw]
    simp only[if_neg q,h2,ha,this];simp;omega
   ·have q:d.kind=2∧d.at_≠e.at_:=⟨h2,ha⟩;simp only[if_pos q,zva];simp only[h2,ne_eq,not_true_eq_false,decide_false,Bool.false_or];rw[Bool.eq_iff_iff]
    rcases d with ⟨_,_,_,⟨c1,l1,w1⟩,_,_⟩;rcases e with ⟨_,_,_,⟨c2,l2,w2⟩,_,_⟩
    simp only[zdw,Place.mk.injEq,not_and] at ha ⊢
    by_cases q1:c1=c2 <;> by_cases q2:l1=l2 <;> by_cases q3:w1=w2 <;> simp_all <;> (repeat' split) <;> omega
  ·have q:¬ (d.kind=2∧d.at_≠e.at_):=by simp[h2]
   simp only[if_neg q];simp[h2];omega
 have hk':d.kind≠e.kind:=hk;simp only[if_pos hk'];rw[decide_eq_decide];omega
theorem zgH {m:List α→Prop} (nil:m []) (snoc:∀ l a,m l→m (l++[a])) (l:List α):m l:=by
 have h:∀ r:List α,m r.reverse:=by
  intro r
  induction r with
  | nil=>exact nil
  | cons a r ih=>rw[List.reverse_cons];exact snoc _ _ ih
 have:=h l.reverse;rwa [List.reverse_reverse] at this
def zjJ (b d:Decision):Decision:=if b.number=0∨zlW d b > 0 then d else b
def zbD (l:List Decision):Decision:=l.foldl zjJ zeK
theorem zid (l:List Decision) (d:Decision):zbD (l++[d])=zjJ (zbD l) d:=by simp[zbD]
theorem zmT (l:List Decision):zbD l=zeK∨zbD l∈l:=by
 induction l using zgH with
 | nil=>exact .inl rfl
 | snoc l d ih=>
  rw[zid,zjJ];split
  ·exact .inr (by simp)
  ·rcases ih with h|h
   ·exact .inl h
   ·exact .inr (by simp[h])
theorem zyc {p:Decision→Prop} (hz:p zeK) (hp:∀ y∈l,p y):p (zbD l):=by
 rcases zmT l with h|h
 ·rw[h];exact hz
 exact hp _ h
theorem zwF (hp:∀ y∈l,1≤y.number) (h:(zbD l).number=0):zbD l=zeK:=by
 rcases zmT l with h1|h1
 ·exact h1
 have:=hp _ h1;omega
theorem zkd (hp:∀ y∈l,1≤y.number) (hl:l≠[]):1≤(zbD l).number∧zbD l∈l:=by
 have key:zbD l∈l:=by
  induction l using zgH with
  | nil=>exact absurd rfl hl
  | snoc l d ih=>
   rw[zid,zjJ];split
   ·simp
   ·rename_i hn
    by_cases hl':l=[]
    ·subst hl';exact absurd (.inl rfl) hn
    ·have:=ih (fun y hy=>hp y (by simp[hy])) hl';simp[this]
 exact ⟨hp _ key,key⟩
def zoS (a b:Decision):Prop:=a.kind<b.kind∨(a.kind=b.kind∧((a.kind=2∧(a.at_.chapter<b.at_.chapter∨(a.at_.chapter=b.at_.chapter∧(a.at_.line<b.at_.line∨(a.at_.line=b.at_.line∧a.at_.word<b.at_.word)))))∨((a.kind=2→a.at_=b.at_)∧a.number<b.number)))
theorem firstI_lex:zlW d e > 0↔zoS e d:=by
 unfold zlW zoS
 by_cases hk:d.kind=e.kind
 ·have hk':¬ d.kind≠e.kind:=by simp[hk]
  simp only[if_neg hk']
  by_cases h2:d.kind=2
  ·have h3:e.kind=2:=by omega
   by_cases ha:d.at_=e.at_
   ·have q:¬ (d.kind=2∧d.at_≠e.at_):=by simp[ha]
    simp only[if_neg q,h3,h2,ha];simp
   ·have q:d.kind=2∧d.at_≠e.at_:=⟨h2,ha⟩;rw[if_pos q];simp only[h3,h2];have hg:=zva d.at_ e.at_;have h5:zgA d.at_ e.at_ > 0↔zdw e.at_ d.at_=true:=by rw[← hg];simp
    rw[h5];have ha':¬ e.at_=d.at_:=fun q=>ha q.symm;simp only[ha',Int.lt_irrefl,false_or,true_and,forall_const,false_and,or_false,zdw]
    by_cases q1:e.at_.chapter=d.at_.chapter <;> by_cases q2:e.at_.line=d.at_.line <;> simp_all
  ·have h3:¬ e.kind=2:=by omega
   have q:¬ (d.kind=2∧d.at_≠e.at_):=by simp[h2]
   simp only[if_neg q,h3];simp[hk]
 have hk':d.kind≠e.kind:=hk;simp only[if_pos hk'];omega
theorem zsA {a b c:Decision} (h1:zoS a b) (h2:zoS b c):zoS a c:=by
 rcases a with ⟨n1,k1,f1,⟨c1,l1,w1⟩,t1,o1⟩;rcases b with ⟨n2,k2,f2,⟨c2,l2,w2⟩,t2,o2⟩;rcases c with ⟨n3,k3,f3,⟨c3,l3,w3⟩,t3,o3⟩
 simp only[zoS,Place.mk.injEq] at *;omega
theorem zxs {a b:Decision} (h:a.number≠b.number):zoS a b∨zoS b a:=by
 rcases a with ⟨n1,k1,f1,⟨c1,l1,w1⟩,t1,o1⟩;rcases b with ⟨n2,k2,f2,⟨c2,l2,w2⟩,t2,o2⟩
 simp only[zoS,Place.mk.injEq] at *;omega
theorem zwn (a:Decision):¬ zoS a a:=by
 unfold zoS;omega
theorem znL (hp:∀ y∈l,1≤y.number) (hn:(l.map (·.number)).Nodup):∀ y∈l,y≠zbD l→zoS y (zbD l):=by
 induction l using zgH with
 | nil=>simp
 | snoc l d ih=>
  intro y hy hne;have hn':(l.map (·.number)).Nodup:=by rw[List.map_append] at hn;exact (List.nodup_append.1 hn).1
  have ih:=ih (fun y hy=>hp y (by simp[hy])) hn';have hd:∀ z∈l,z.number≠d.number:=by
   intro z hz e;rw[List.map_append] at hn;exact (List.nodup_append.1 hn).2.2 _ (List.mem_map_of_mem hz) _ (List.mem_map.2 ⟨d,by simp,rfl⟩) e
  rw[zid] at hne ⊢;unfold zjJ at hne ⊢;split at hne
  ·rename_i hc;rw[if_pos hc]
   rcases List.mem_append.1 hy with h|h
   ·by_cases hl:l=[]
    ·subst hl;cases h
    ·have hb:=zkd (fun y hy=>hp y (by simp[hy])) hl;have h1:zoS (zbD l) d:=by
      rcases hc with h0|h0
      ·omega
      ·exact firstI_lex.1 h0
     by_cases e:y=zbD l
     ·rw[e];exact h1
     ·exact zsA (ih y h e) h1
   ·simp at h;exact absurd h hne
  ·rename_i hc;rw[if_neg hc];have hc':¬ (zbD l).number=0∧¬ zoS (zbD l) d:=⟨fun h=>hc (.inl h),fun h=>hc (.inr (firstI_lex.2 h))⟩
   rcases List.mem_append.1 hy with h|h
   ·exact ih y h hne
   ·simp at h;subst h
    by_cases hl:l=[]
    ·subst hl;exact absurd rfl hc'.1
    ·have hb:=zkd (fun y hy=>hp y (by simp[hy])) hl
     rcases zxs (hd _ hb.2) with h1|h1
     ·exact absurd h1 hc'.2
     ·exact h1
theorem znK {xs ys:List Decision} (h:xs.Perm ys) (hp:∀ y∈ys,1≤y.number) (hn:(ys.map (·.number)).Nodup):zbD xs=zbD ys:=by
 by_cases hy:ys=[]
 ·subst hy;rw[h.eq_nil]
 have hx:xs≠[]:=fun e=>hy (by subst e;exact h.symm.eq_nil);have hp':∀ y∈xs,1≤y.number:=fun y hy=>hp y (h.mem_iff.1 hy);have hn':(xs.map (·.number)).Nodup:=(h.map _).nodup_iff.2 hn;have h1:=(zkd hp' hx).2;have h2:=(zkd hp hy).2
 by_cases e:zbD xs=zbD ys
 ·exact e
 have a:=znL hp hn _ (h.mem_iff.1 h1) e;have b:=znL hp' hn' _ (h.mem_iff.2 h2) (Ne.symm e);exact absurd (zsA a b) (zwn _)
theorem zwE (hp:∀ y∈l,1≤y.number) (hs:l.Pairwise fun a b=>a.number<b.number):
  l.foldl (fun b d=>if b.number=0∨zkn d b=true then d else b) zeK=zbD l:=by
 have key:∀ (l1 l2:List Decision),l=l1++l2→l1.foldl (fun b d=>if b.number=0∨zkn d b=true then d else b) zeK=zbD l1:=by
  intro l1
  induction l1 using zgH with
  | nil=>intro _ _;rfl
  | snoc l1 d ih=>
   intro l2 e;rw[List.foldl_append,ih (d::l2) (by simp[e]),zid];simp only[List.foldl_cons,List.foldl_nil,zjJ]
   rcases zmT l1 with h|h
   ·rw[h];rfl
   ·have:(zbD l1).number<d.number:=by
     rw[e,List.append_assoc] at hs;exact (List.pairwise_append.1 hs).2.2 _ h _ (by simp)
    rw[← zyS this];simp only[decide_eq_true_eq]
 exact key l [] (by simp)
def zbd (t:Text) (p:Place):Str:=(zjw t p).getD []
def zqB (x:Lexicon) (p:Place) (wd:Str):List Decision:=((zgV x).map (·.2)).filter fun d=>zfg d p wd
def zeG (x:Lexicon) (p:Place) (wd:Str):Decision:=
 if (zbD (zqB x p wd)).number=0 then { zeK with to:=⟨((zec x.rules 4 wd).getLast?).getD [],0⟩ } else zbD (zqB x p wd)
def OkO (o:Office):Prop:=zbG o.text o.lex=0∧o.stands=zgV o.lex
theorem zpK {t:Text} (h:zcz t p=true):∃ c ln wd,0≤p.chapter∧t.chapters[p.chapter.toNat]?=some c∧0≤p.line∧c.lines[p.line.toNat]?=some ln∧0≤p.word∧ln[p.word.toNat]?=some wd∧zbd t p=wd:=by
 unfold zcz at h;unfold zbd;unfold zjw zcc at *;split at h
 ·rename_i h1;split at h
  ·rename_i h2;cases hc:t.chapters[p.chapter.toNat]? with
   | none=>simp[hc] at h
   | some c=>
    simp only[hc,Option.bind_some] at h;cases hl:c.lines[p.line.toNat]? with
    | none=>simp[hl] at h
    | some ln=>
     simp only[hl,Option.bind_some] at h;cases hw:ln[p.word.toNat]? with
     | none=>simp[hw] at h
     | some wd=>exact ⟨c,ln,wd,h2.1,rfl,h2.2,hl,h1,hw,by simp[if_pos h1,if_pos h2,hc,hl,hw]⟩
  ·simp at h
 simp at h
theorem zDC {o:Office} (h:OkO o):OkD o.lex:=zsq h.1
theorem znT {t:Text} (h:zbG t x=0) {q:Int×Decision} (hq:q∈zgV x):zaZ t q.2=true∧1≤q.2.number∧q.2.number≤999∧1≤q.2.kind∧q.2.kind≤4:=by
 have h1:=(zkY hq).1;have h2:zdm t x=true:=by
  unfold zbG at h;split at h
  ·cases h
  ·split at h
   ·cases h
   ·rename_i h3;simpa using h3
 simp only[zdm,Bool.and_eq_true,List.all_eq_true] at h2;have h3:=h2.1.2 _ h1;have h4:=(zsq h).2 _ h1;refine ⟨h3,h4.1,h4.2.1,?_⟩;unfold zaZ at h3;simp only[Bool.and_eq_true] at h3;have h5:=h3.2;split at h5
 ·omega
 split at h5
 ·omega
 split at h5
 ·omega
 split at h5
 ·omega
 cases h5
theorem zlR (h:OkD x):(((zgV x).map (·.2)).map (·.number)).Nodup:=by
 have:=zmC h (zfh x);simpa [zgV,zhV,List.map_map,Function.comp_def] using this
theorem zma {t:Text} (ht:zbF t=true) (hp:zcz t p=true):(zbd t p).length≤12:=by
 obtain ⟨c,ln,wd,_,hc,_,hl,_,hw,e⟩:=zpK hp;rw[e];simp only[zbF,Bool.and_eq_true,List.all_eq_true] at ht;have h1:=ht.1.2 _ (List.mem_of_getElem? hc);simp only[zcN,Bool.and_eq_true,List.all_eq_true] at h1;have h2:=h1.2 _ (List.mem_of_getElem? hl);simp only[ziz,Bool.and_eq_true,List.all_eq_true] at h2;exact zps (h2.2 _ (List.mem_of_getElem? hw))
theorem zdk {t:Text} (h:zbG t x=0):zbF t=true:=by
 unfold zbG at h;split at h
 ·cases h
 rename_i h1;simpa using h1
theorem zza {dn:List (Int×Decision)} (h:OkD x) (hd:dn.Perm (zgV x)):zbD ((dn.map (·.2)).filter fun d=>zfg d p wd)=zbD (zqB x p wd):=by
 refine znK ((hd.map _).filter _) ?_ ?_
 ·intro y hy;obtain ⟨q,hq,rfl⟩:=List.mem_map.1 (List.mem_filter.1 hy).1;exact (h.2 _ (zkY hq).1).1
 exact (List.filter_sublist.map _).nodup (zlR h)
theorem zjY (rs:List Rule) (n:Nat) (w:Str):zec rs n w≠[]:=by
 cases n with
 | zero=>simp[zec]
 | succ n=>simp only[zec];split <;> simp
def zbY (t:Text) (k:Nat):List (List Str):=((t.chapters[k]?).map (·.lines)).getD []
def zfA (t:Text) (k n:Nat):List Str:=((zbY t k)[n]?).getD []
def mkP (k n w:Nat):Place:=⟨k,n,w⟩
def ziI (t:Text) (k n:Nat):List Place:=(List.range (zfA t k n).length).map (mkP k n)
def ziA (t:Text) (k:Nat):List Place:=(List.range (zbY t k).length).flatMap (ziI t k)
def zbA (t:Text):List Place:=(List.range t.chapters.length).flatMap (ziA t)
theorem zeV {t:Text} (h:t.chapters[k]?=some c):zbY t k=c.lines:=by simp[zbY,h]
theorem zfl {t:Text} (h:t.chapters[k]?=some c) (h2:c.lines[n]?=some ln):zfA t k n=ln:=by simp[zfA,zeV h,h2]
theorem zej {f:Nat→List α} {c:Nat} (h:∀ k,(f k).length≤c) (n:Nat):((List.range n).flatMap f).length≤c*n:=by
 induction n with
 | zero=>simp
 | succ n ih=>
  rw[List.range_succ,List.flatMap_append,List.length_append];have:=h n;simp only[List.flatMap_cons,List.flatMap_nil,List.append_nil];rw[Nat.mul_succ];omega
theorem zgh {t:Text} (ht:zbF t=true) (k n:Nat):(zfA t k n).length≤10:=by
 unfold zfA zbY;simp only[zbF,Bool.and_eq_true,List.all_eq_true] at ht;cases hc:t.chapters[k]? with
 | none=>simp
 | some c=>
  have h1:=ht.1.2 _ (List.mem_of_getElem? hc);simp only[zcN,Bool.and_eq_true,List.all_eq_true] at h1;simp only[Option.map_some,Option.getD_some];cases hl:c.lines[n]? with
  | none=>simp
  | some ln=>
   have h2:=h1.2 _ (List.mem_of_getElem? hl);simp only[ziz,Bool.and_eq_true,inB,decide_eq_true_eq] at h2;simp only[Option.getD_some];omega
theorem zgL {t:Text} (ht:zbF t=true) (k:Nat):(zbY t k).length≤10:=by
 unfold zbY;simp only[zbF,Bool.and_eq_true,List.all_eq_true] at ht;cases hc:t.chapters[k]? with
 | none=>simp
 | some c=>
  have h1:=ht.1.2 _ (List.mem_of_getElem? hc);simp only[zcN,Bool.and_eq_true,inB,decide_eq_true_eq] at h1;simp only[Option.map_some,Option.getD_some];omega
theorem zfq {t:Text} (ht:zbF t=true):t.chapters.length≤6:=by
 simp only[zbF,Bool.and_eq_true,inB,decide_eq_true_eq] at ht;omega
theorem zjZ {t:Text} (ht:zbF t=true) (k n:Nat):(ziI t k n).length≤10:=by
 rw[ziI,List.length_map,List.length_range];exact zgh ht k n
theorem zis {t:Text} (ht:zbF t=true) (k:Nat):(ziA t k).length≤100:=by
 have h1:=zej (zjZ ht k) (zbY t k).length;have h2:=zgL ht k;rw[ziA];omega
theorem zdY {t:Text} (ht:zbF t=true):(zbA t).length≤600:=by
 have h1:=zej (zis ht) t.chapters.length;have h2:=zfq ht;rw[zbA];omega
theorem zso {t:Text} {w: Nat} (hc:t.chapters[k]?=some c) (hl:c.lines[n]?=some ln) (hw:w<ln.length):zcz t (mkP k n w)=true:=by
 have h0:ln[w]?=some ln[w]:=List.getElem?_eq_getElem hw;simp[zcz,zjw,zcc,mkP,hc,hl,h0]
theorem zuQ {t:Text} {w: Nat} {s:Str} (hc:t.chapters[k]?=some c) (hl:c.lines[n]?=some ln) (hw:ln[w]?=some s):zbd t (mkP k n w)=s:=by
 simp[zbd,zjw,zcc,mkP,hc,hl,hw]
theorem zmz {t:Text} (hc:t.chapters[k]?=some c) (hl:c.lines[n]?=some ln) {w:Nat} (hw:w=ln.length):(List.range w).map (mkP k n)=ziI t k n:=by
 rw[ziI,zfl hc hl,hw]
theorem zmE {t:Text} (hc:t.chapters[k]?=some c) (hn:n=c.lines.length):(List.range n).flatMap (ziI t k)=ziA t k:=by
 rw[ziA,zeV hc,hn]
theorem zeU (f:Nat→List α) (n:Nat):(List.range (n+1)).flatMap f=(List.range n).flatMap f++f n:=by
 rw[List.range_succ,List.flatMap_append];simp
theorem zhU {t:Text} (h:p∈zbA t):zcz t p=true:=by
 obtain ⟨k,hk,h⟩:=List.mem_flatMap.1 h;obtain ⟨n,hn,h⟩:=List.mem_flatMap.1 h;obtain ⟨w,hw,rfl⟩:=List.mem_map.1 h;have hk':=List.mem_range.1 hk;have hc:t.chapters[k]?=some t.chapters[k]:=List.getElem?_eq_getElem hk';rw[zeV hc] at hn;have hn':=List.mem_range.1 hn;have hl:t.chapters[k].lines[n]?=some t.chapters[k].lines[n]:=List.getElem?_eq_getElem hn';rw[zfl hc hl] at hw;exact zso hc hl (List.mem_range.1 hw)
def zgs (t:Text) (x:Lexicon) (p:Place):Head:=(zeG x p (zbd t p)).to
def ziq (t:Text) (x:Lexicon) (p:Place):Entry:=⟨p,zbd t p,zgs t x p⟩
def zee (t:Text) (x:Lexicon):List Entry:=(zbA t).map (ziq t x)
def zcD (t:Text) (x:Lexicon):List Head:=(zbA t).map (zgs t x)
def zsF (x:Lexicon) (wd:Str):Decision:={ zeK with to:=⟨((zec x.rules 4 wd).getLast?).getD [],0⟩ }
def zpv (p:Place) (wd:Str) (b d:Decision):Decision:=if zfg d p wd=true∧(b.number=0∨zkn d b=true) then d else b
def zlG (x:Lexicon) (l:List Decision) (p:Place) (wd:Str):Decision:=l.foldl (zpv p wd) (zsF x wd)
theorem zpN {β: Type} (f:α→β) {l:List α} (h:(l.map f).Nodup):l.Nodup:=(List.pairwise_map.1 h).imp (fun h e=>h (by rw[e]))
theorem zrW (hx:OkD x):(zeh x).Perm ((zgV x).map (·.2)):=by
 have hs:=(zky hx.1 999).1;have hnd:((zeh x).map (·.number)).Nodup:=hs.imp (fun h=>by omega);have h1:(zeh x).Nodup:=zpN _ hnd;have h2:((zgV x).map (·.2)).Nodup:=zpN _ (zlR hx);rw[List.perm_ext_iff_of_nodup h1 h2];intro d;constructor
 ·intro hd;obtain ⟨n,_,hd'⟩:=List.mem_flatMap.1 hd;obtain ⟨h1,_,h3⟩:=standAt_mem.1 hd';exact List.mem_map.2 ⟨zhV d,List.mem_map.2 ⟨d,List.mem_filter.2 ⟨(zfD x).mem_iff.2 h1,h3⟩,rfl⟩,rfl⟩
 intro hd;obtain ⟨p,hp,rfl⟩:=List.mem_map.1 hd;obtain ⟨h1,h2,h3⟩:=zkY hp;have h4:=hx.2 _ h1;exact List.mem_flatMap.2 ⟨(p.2.number-1).toNat,List.mem_range.2 zU,standAt_mem.2 ⟨h1,by omega,h3⟩⟩
theorem zAt (p:Place) (wd:Str) (l:List Decision) (b:Decision):l.foldl (zpv p wd) b=(l.filter fun d=>zfg d p wd).foldl (fun b d=>if b.number=0∨zkn d b=true then d else b) b:=by
 induction l generalizing b with
 | nil=>rfl
 | cons d l ih=>
  rw[List.foldl_cons,ih,List.filter_cons]
  by_cases h:zfg d p wd=true
  ·simp only[h,if_true,List.foldl_cons,zpv,true_and]
  ·simp only[h,if_false,zpv,false_and,Bool.false_eq_true]
theorem zwt {t:Text} (h:zbG t x=0) (p:Place) (wd:Str):zlG x (zeh x) p wd=zeG x p wd:=by
 have hx:=zsq h;have hs:=(zky hx.1 999).1;have hperm:((zeh x).filter fun d=>zfg d p wd).Perm (zqB x p wd):=(zrW hx).filter _;have hp1:∀ y∈zqB x p wd,1≤y.number:=by
  intro y hy;obtain ⟨q,hq,rfl⟩:=List.mem_map.1 (List.mem_filter.1 hy).1;exact (hx.2 _ (zkY hq).1).1
 have hn1:((zqB x p wd).map (·.number)).Nodup:=(List.filter_sublist.map _).nodup (zlR hx);have hpw:((zeh x).filter fun d=>zfg d p wd).Pairwise fun a b=>a.number<b.number:=(List.pairwise_map.1 hs).sublist List.filter_sublist;have hb:=zwE (fun y hy=>hp1 y (hperm.mem_iff.1 hy)) hpw;rw[znK hperm hp1 hn1] at hb;unfold zlG;rw[zAt];cases e:(zeh x).filter fun d=>zfg d p wd with
 | nil=>
  rw[e] at hb hperm;have:zqB x p wd=[]:=hperm.symm.eq_nil;simp[zeG,this,zbD,zsF,zeK]
 | cons d l=>
  rw[e] at hb hperm;have h1:zbD (zqB x p wd)∈zqB x p wd:=(zkd hp1 (by intro q;rw[q] at hperm;exact absurd hperm.eq_nil (by simp))).2;have h2:=hp1 _ h1;rw[zeG,if_neg zU,← hb];simp[zsF,zeK]
def zEf (t:Text) (x:Lexicon) (p:Place):Decision:=if zbG t x=0∧zcz t p=true then zeG x p (zbd t p) else zeK
def askE (t:Text) (x:Lexicon) (p:Place):Int:=if zbG t x=0 then (if zcz t p=true then 0 else 12) else zbG t x
theorem znn {rs:List Rule}:∀ (n:Nat) (w:Str),w.length≤12→∀ s∈zec rs n w,s.length≤12
 | 0,w,h,s,hs=>by simp[zec] at hs;subst hs;exact h
 | n+1,w,h,s,hs=>by
  simp only[zec] at hs;split at hs
  ·simp at hs;subst hs;exact h
  ·rename_i u hu
   rcases List.mem_cons.1 hs with rfl|hs
   ·exact h
   ·obtain ⟨r,_,hr⟩:=List.exists_of_findSome?_eq_some hu;exact znn n u (zsv hr) s hs
theorem ztL {h:Head} (hv:zhK h=true):h.stem.length≤12∧0≤h.mark∧h.mark≤3:=by
 simp only[zhK,Bool.and_eq_true,inB,decide_eq_true_eq] at hv;exact ⟨zps hv.1,hv.2.1,hv.2.2⟩
theorem zAy {t:Text} (h:zaZ t d=true) (hc:zfg d p wd=true):zhK d.to=true:=by
 simp only[zaZ,Bool.and_eq_true] at h;have h:=h.2;unfold zfg at hc
 by_cases k1:d.kind=1
 ·simp only[k1,if_true,Bool.and_eq_true] at h;exact h.1.2
 by_cases k2:d.kind=2
 ·simp[k2] at h;exact h.1.2
 by_cases k3:d.kind=3
 ·simp[k3] at h;exact h.1.2
 simp[k1,k2,k3] at hc
theorem zuR {t:Text} (hx:zbG t x=0) (hp:zcz t p=true):(zeG x p (zbd t p)).to.stem.length≤12∧0≤(zeG x p (zbd t p)).to.mark∧(zeG x p (zbd t p)).to.mark≤3:=by
 unfold zeG;split
 ·refine ⟨?_,by simp,by simp⟩;have hw:=zma (zdk hx) hp;cases e:(zec x.rules 4 (zbd t p)).getLast? with
  | none=>simp
  | some s=>exact znn 4 _ hw s (List.mem_of_getLast? e)
 rename_i h0
 rcases zmT (zqB x p (zbd t p)) with h|h
 ·rw[h] at h0;exact absurd rfl h0
 obtain ⟨h1,h2⟩:=List.mem_filter.1 h;obtain ⟨q,hq,e⟩:=List.mem_map.1 h1;have h3:=(znT hx hq).1;rw[e] at h3;exact ztL (zAy h3 h2)
section
variable {α:Type}
structure DelF (q:α→Bool) (s ys:List α) (i j:Nat):Prop where
 len:ys.length=s.length
 le:i≤j
 le2:j≤s.length
 head:ys.take i=(s.take j).filter fun x=>!q x
 tail:ys.drop j=s.drop j
theorem DelF.get {q:α→Bool} {s ys:List α} (d:DelF q s ys i j) {y:α} (h:ys[j]?=some y):s[j]?=some y:=by
 have h1:=congrArg (fun l:List α=>l[0]?) d.tail;simp only[List.getElem?_drop,Nat.add_zero] at h1;rw[← h1];exact h
theorem DelF.start {q:α→Bool} {s:List α} (h1:∀ j x,j<k→s[j]?=some x→q x=false) (h2:∀ x,s[k]?=some x→q x=true) (hk:k<s.length):DelF q s s k (k+1):=by
 refine ⟨rfl,by omega,by omega,?_,rfl⟩;have hx:s[k]?=some s[k]:=List.getElem?_eq_getElem hk;rw[zaQ hx,List.filter_append];have e1:(s.take k).filter (fun x=>!q x)=s.take k:=by
  rw[List.filter_eq_self];intro x hx;obtain ⟨j,hj⟩:=List.mem_iff_getElem?.1 hx;rw[List.getElem?_take] at hj;split at hj
  ·rename_i hjk;simp[h1 j x hjk hj]
  ·cases hj
 simp[e1,h2 _ hx]
theorem DelF.keep {q:α→Bool} {s ys:List α} (d:DelF q s ys i j) {y:α} (h:ys[j]?=some y) (hq:q y=false):DelF q s (ys.set i y) (i+1) (j+1):=by
 obtain ⟨h1,_⟩:=List.getElem?_eq_some_iff.1 h;have hl:=d.len;have hle:=d.le;refine ⟨by rw[List.length_set];exact d.len,by omega,by omega,?_,?_⟩
 ·rw[zaQ (d.get h),List.filter_append,← d.head];have e:(ys.set i y)[i]?=some y:=by rw[List.getElem?_set];simp;omega
  rw[zaQ e,List.take_set_of_le (Nat.le_refl i)];simp[hq]
 rw[List.drop_set_of_lt zU];have:=congrArg (List.drop 1) d.tail;simpa [List.drop_drop] using this
theorem DelF.skip {q:α→Bool} {s ys:List α} (d:DelF q s ys i j) {y:α} (h:ys[j]?=some y) (hq:q y=true):DelF q s ys i (j+1):=by
 obtain ⟨h1,_⟩:=List.getElem?_eq_some_iff.1 h;have hl:=d.len;have hle:=d.le;refine ⟨d.len,by omega,by omega,?_,?_⟩
 ·rw[zaQ (d.get h),List.filter_append,← d.head];simp[hq]
 have:=congrArg (List.drop 1) d.tail;simpa [List.drop_drop] using this
theorem DelF.fin {q:α→Bool} {s ys:List α} (d:DelF q s ys i j) (h:s.length≤j):ys.take i=s.filter fun x=>!q x:=by
 rw[d.head,List.take_of_length_le h]
theorem zrn {q:α→Bool} {s:List α} (h:∀ j x,j<s.length→s[j]?=some x→q x=false):(s.filter fun x=>!q x)=s:=by
 rw[List.filter_eq_self];intro x hx;obtain ⟨j,hj⟩:=List.mem_iff_getElem?.1 hx;obtain ⟨h1,_⟩:=List.getElem?_eq_some_iff.1 hj;simp[h j x h1 hj]
variable [DecidableEq α]
def zkw (acc:List α) (x:α):List α:=if acc.getLast?=some x then acc else acc++[x]
def zdW (l:List α):List α:=l.foldl zkw []
theorem zkm (l:List α) (x:α):zdW (l++[x])=zkw (zdW l) x:=by simp[zdW]
theorem zoG (l:List α):(zdW l).getLast?=l.getLast?:=by
 induction l using zgH with
 | nil=>rfl
 | snoc l d ih=>
  rw[zkm,zkw];split
  ·rename_i h;rw[h];simp
  ·simp
theorem zkl {s:List α} {y z:α} (hz:s[k]?=some z) (hy:s[k+1]?=some y):zdW (s.take (k+2))=if z=y then zdW (s.take (k+1)) else zdW (s.take (k+1))++[y]:=by
 have e:(s.take (k+1)).getLast?=some z:=by rw[zaQ hz];simp
 rw[zaQ hy,zkm,zkw,zoG,e];simp only[Option.some.injEq]
theorem zuG {s:List α} {y z:α} (hz:s[k-1]?=some z) (hy:s[k]?=some y) (hk:1≤k) (h:zdW (s.take k)=s.take k) (hne:¬ y=z):zdW (s.take (k+1))=s.take (k+1):=by
 obtain ⟨m,rfl⟩:∃ m,k=m+1:=⟨k-1,by omega⟩;rw[Nat.add_sub_cancel] at hz;rw[show m+1+1=m+2 from rfl,zkl hz hy,if_neg (fun e=>hne e.symm),h,← zaQ hy]
theorem zwx {s:List α} (h:1≤s.length):zdW (s.take 1)=s.take 1:=by
 cases s with
 | nil=>simp at h
 | cons a s=>simp[zdW,zkw]
theorem zsP {s:List α} (h:s.length<2):zdW s=s:=by
 match s,h with
 | [],_=>rfl
 | [a],_=>simp[zdW,zkw]
structure Comp (s ys:List α) (i j:Nat):Prop where
 len:ys.length=s.length
 le:i+1≤j
 le2:j≤s.length
 head:ys.take i=zdW (s.take j)
 tail:ys.drop (j-1)=s.drop (j-1)
theorem Comp.start {s:List α} {y z:α} (hz:s[k-1]?=some z) (hy:s[k]?=some y) (hk:1≤k) (h:zdW (s.take k)=s.take k) (he:y=z):Comp s s k (k+1):=by
 obtain ⟨h1,_⟩:=List.getElem?_eq_some_iff.1 hy;refine ⟨rfl,Nat.le_refl _,by omega,?_,rfl⟩;obtain ⟨m,rfl⟩:∃ m,k=m+1:=⟨k-1,by omega⟩;rw[Nat.add_sub_cancel] at hz;rw[show m+1+1=m+2 from rfl,zkl hz hy,if_pos he.symm,h]
theorem Comp.get {s ys:List α} (d:Comp s ys i j) {y:α} (hn:j-1≤n) (h:ys[n]?=some y):s[n]?=some y:=by
 have h1:=congrArg (fun l:List α=>l[n-(j-1)]?) d.tail;simp only[List.getElem?_drop] at h1;rw[show j-1+(n-(j-1))=n by omega] at h1;rw[← h1];exact h
theorem Comp.keep {s ys:List α} (d:Comp s ys i j) {y z:α} (h:ys[j]?=some y) (hz:ys[j-1]?=some z) (hne:¬ y=z):Comp s (ys.set i y) (i+1) (j+1):=by
 obtain ⟨h1,_⟩:=List.getElem?_eq_some_iff.1 h;have hl:=d.len;have hle:=d.le;have hle2:=d.le2;have g1:=d.get zU h;have g2:=d.get (Nat.le_refl _) hz;refine ⟨by rw[List.length_set];exact d.len,by omega,by omega,?_,?_⟩
 ·obtain ⟨m,rfl⟩:∃ m,j=m+1:=⟨j-1,by omega⟩;rw[Nat.add_sub_cancel] at g2;rw[show m+1+1=m+2 from rfl,zkl g2 g1,if_neg (fun e=>hne e.symm),← d.head];have e:(ys.set i y)[i]?=some y:=by rw[List.getElem?_set];simp;omega
  rw[zaQ e,List.take_set_of_le (Nat.le_refl i)]
 rw[Nat.add_sub_cancel,List.drop_set_of_lt zU];have:=congrArg (List.drop 1) d.tail;rw[List.drop_drop,List.drop_drop,show j-1+1=j by omega] at this;exact this
theorem Comp.skip {s ys:List α} (d:Comp s ys i j) {y z:α} (h:ys[j]?=some y) (hz:ys[j-1]?=some z) (he:y=z):Comp s ys i (j+1):=by
 obtain ⟨h1,_⟩:=List.getElem?_eq_some_iff.1 h;have hl:=d.len;have hle:=d.le;have hle2:=d.le2;have g1:=d.get zU h;have g2:=d.get (Nat.le_refl _) hz;refine ⟨d.len,by omega,by omega,?_,?_⟩
 ·obtain ⟨m,rfl⟩:∃ m,j=m+1:=⟨j-1,by omega⟩;rw[Nat.add_sub_cancel] at g2;rw[show m+1+1=m+2 from rfl,zkl g2 g1,if_pos he.symm,← d.head]
 have:=congrArg (List.drop 1) d.tail;rw[List.drop_drop,List.drop_drop,show j-1+1=j by omega] at this;rw[Nat.add_sub_cancel];exact this
theorem Comp.fin {s ys:List α} (d:Comp s ys i j) (h:s.length≤j):ys.take i=zdW s:=by
 rw[d.head,List.take_of_length_le h]
end
end Go.Pk

namespace Go.Pk
open Go Go.RowKit Go.Proofs Go.Shelf Go.Lib Go.Sort
variable {w w0:World} {b i:Nat} {cur F:Array Value} {T:TypeId} {α:Type} {L:Lay α} {h h0:Heap} {P:Program} {v:Value} {xs:List α} {o:List (Nat×Obj)} {x:α}
theorem zAG {W w':World} (b:Bel W.heap.size W w'):∃ q os',w'=grow (W.drewN q) os':=by
 refine ⟨w'.drawn-W.drawn,w'.heap.extract W.heap.size w'.heap.size,?_⟩;obtain ⟨h1,h2,h3,h4,h5,h6⟩:=b;cases w';cases W;simp only at h1 h2 h3 h4 h5 h6;subst h1;subst h2;subst h3;simp only[grow,World.drewN,World.mk.injEq,true_and,and_true];refine ⟨?_,by omega⟩;apply Array.ext_getElem?;intro i;rw[Array.getElem?_append];split
 ·rename_i hi;exact h5 i hi
 rename_i hi;rw[Array.getElem?_extract];split
 ·congr 1;omega
 rw[Array.getElem?_eq_none zU]
theorem Bel.grow {B:Nat} {a w:World} (b:Bel B a w) (hB:B≤w.heap.size) (os:Array Obj):Bel B a (grow w os):=
 b.trans ⟨rfl,rfl,rfl,by simp[Go.Sort.grow],fun k hk=>by simp only[Go.Sort.grow];rw[Array.getElem?_append_left zU],Nat.le_refl _⟩
theorem St.grow {h0 h:Heap} {w0 w:World} {own:Own} (st:St h0 w0 h w own) (os:Array Obj):St h0 w0 h (grow w os) own:=by
 have e:∀ b o,w.heap[b]?=some o→(Go.Sort.grow w os).heap[b]?=some o:=fun b o hb=>by
  simp only[Go.Sort.grow];rw[Array.getElem?_append_left (zek hb)];exact hb
 exact ⟨st.le,st.new,fun b o hb=>e b o (st.sub b o hb),st.below.grow st.below.size os,fun p hp=>⟨e _ _ (st.mine p hp).1,(st.mine p hp).2⟩,st.nodup⟩
theorem zsm (hb:w.heap[b]?=some (.cells cur T)) (n:Nat):
  putRow id (Go.Sort.ahead w n) b 0 F={ w with drawn:=w.drawn+n,heap:=w.heap.setIfInBounds b (.cells (putCells id 0 F cur) T) }:=by
 have hlt:=zek hb;have hb':w.heap[b]=.cells cur T:=by rw[Array.getElem?_eq_getElem hlt] at hb;simpa using hb
 simp only[putRow,mapBlock,Go.Sort.ahead,World.mk.injEq,and_true,true_and];apply Array.ext_getElem?;intro i;rw[Array.getElem?_modify,Array.getElem?_setIfInBounds]
 by_cases e:b=i
 ·subst e;simp[hlt,hb',onCells]
 ·simp[e]
theorem ztH (h:F.size≤cur.size):(putCells id 0 F cur).toList.take F.size=F.toList:=by
 apply List.ext_getElem?;intro i;rw[List.getElem?_take];split
 ·rename_i hi;simp only[putCells,Array.getElem?_toList,Array.getElem?_mapIdx];rw[Array.getElem?_eq_getElem (show i<cur.size by omega),Array.getElem?_eq_getElem hi];simp[hi]
 rename_i hi;rw[List.getElem?_eq_none (by simpa using hi)]
theorem zyR [Inhabited α] {enc:α→List Value} (d:Array α) (hk:∀ x,(enc x).length=L.size) (hR:∀ x∈d.toList,L.R h (enc x) x):Enc L h (flatK enc L.size d).toList d.toList:=by
 refine ⟨by simp,fun i x hi=>?_⟩;obtain ⟨h1,h2⟩:=List.getElem?_eq_some_iff.1 hi;have h1':i<d.size:=by simpa using h1
 have e:((flatK enc L.size d).toList.drop (i*L.size)).take L.size=enc x:=by
  apply List.ext_getElem?;intro j;rw[List.getElem?_take]
  by_cases hj:j<L.size
  ·rw[if_pos hj,List.getElem?_drop];have ht:i*L.size+j<d.size*L.size:=by
    have:(i+1)*L.size≤d.size*L.size:=Nat.mul_le_mul_right _ h1';rw[Nat.add_mul,Nat.one_mul] at this;omega
   have h3:=get_flatK enc L.size d _ ht;have hd:(i*L.size+j) / L.size=i:=by rw[Nat.mul_comm,Nat.mul_add_div zU,Nat.div_eq_of_lt hj];rfl
   have hm:(i*L.size+j) % L.size=j:=by rw[Nat.mul_comm,Nat.mul_add_mod,Nat.mod_eq_of_lt hj]
   rw[hd,hm,getElem!_pos d i h1',getElem!_pos (flatK enc L.size d) _ (by simpa using ht)] at h3;have hx:d[i]=x:=by simpa using h2
   rw[hx,getElem!_pos (enc x) j (by rw[hk];exact hj)] at h3;rw[List.getElem?_eq_getElem (by simpa using ht),List.getElem?_eq_getElem (by rw[hk];exact hj)];simpa using h3
  ·rw[if_neg hj,List.getElem?_eq_none (by rw[hk];omega)]
 rw[e];exact hR x (List.mem_of_getElem? hi)
theorem zyU [Inhabited α] {enc:α→List Value} (hpos:0<L.size) (d:Array α) (hE:∀ {vs x},L.R h vs x→vs=enc x) {cs:List Value} (e:Enc L h cs d.toList) {j:Nat} (hj:j<d.size*L.size):cs[j]?=some (flatK enc L.size d)[j]!:=by
 have hi:j / L.size<d.size:=Nat.div_lt_of_lt_mul (by rwa [Nat.mul_comm]);have hr:=hE (e.2 (j / L.size) d[j / L.size] (by simp[hi]));rw[get_flatK enc L.size d j hj,getElem!_pos d _ hi,← hr];have hlen:cs.length=d.size*L.size:=by simpa using e.1
 have hm:=Nat.mod_lt j hpos;have hdm:=Nat.div_add_mod j L.size;rw[Nat.mul_comm] at hdm;have hl:j % L.size<((cs.drop (j / L.size*L.size)).take L.size).length:=by
  simp only[List.length_take,List.length_drop];omega
 rw[getElem!_pos ((cs.drop (j / L.size*L.size)).take L.size) (j % L.size) hl];simp only[List.getElem_take,List.getElem_drop,hdm];rw[List.getElem?_eq_getElem zU]
theorem zvL {ρ:Ren} (LL:SlLaysF0.n6 P ρ) (aE:∀ w,(isAgg (ρ.t 24)).run P w=.ok true w) (zE:∀ w,(Go.sizeOf (ρ.t 24)).run P w=.ok L.size w) (hpos:0<L.size) (enc:α→List Value) (hE:∀ {h vs x},L.R h vs x→vs=enc x) (cf:α→α→Int) (hS:SWO (ltOf cf)) {g:Nat} {caps:List Value} {own:Own} (st:St h0 w0 h w own) (hO:OSl L T h v xs o) (hi:own[i]?=some o) (hlen:xs.length<4611686018427387904) (eg:∀ a w,(callFunc g a).run P w=.ok (.enter g a) w) (hcmp:∀ x∈xs,∀ y∈xs,∀ w',Sub h w'→Calls P g (.agg (enc x).toArray::.agg (enc y).toArray::caps).toArray w' (zbe h w' fun _ _ r=>r=.int .i64 (cf x y))):
  Calls P (ρ.f 6) #[v,.func (.func g) #[] caps.toArray] w fun e w'=>e=.returned (.tuple #[])∧∃ ys o' own',own'=own.set i o'∧ys.Perm xs∧ys.Pairwise (fun a b=>¬ cf b a<0)∧OSl L T h v ys o'∧St h0 w0 h w' own':=by
 by_cases hx:xs=[]
 ·subst hx;obtain ⟨p,c,rfl⟩:=hO.form;refine (AnyF.slices_SortFunc_none LL p c _ w).mono ?_;rintro e w' ⟨he,rfl⟩;refine ⟨he,[],o,_,rfl,List.Perm.refl _,List.Pairwise.nil,hO,?_⟩;have e3:own.set i o=own:=by
   apply List.ext_getElem?;intro j;rw[List.getElem?_set];split
   ·rename_i e4;subst e4;split
    ·exact hi.symm
    ·rename_i h5;rw[List.getElem?_eq_none zU]
   ·rfl
  rw[e3];exact st
 obtain ⟨cs,e1,⟨⟨p,rfl⟩,rfl,rfl⟩|⟨b,cap,cur,rfl,rfl,hnc,hcm,hsz,htk⟩⟩:=hO
 ·exact absurd rfl hx
 -- the elements, each with its place in the list
 let β:={ x:α // x∈xs }
 haveI:Inhabited β:=⟨⟨xs.head hx,List.head_mem hx⟩⟩
 let enc':β→List Value:=fun x=>enc x.1
 let cf':β→β→Int:=fun x y=>cf x.1 y.1
 let d:Array β:=xs.attach.toArray
 have hdl:d.size=xs.length:=by show xs.attach.toArray.size=xs.length;rw[List.size_toArray];exact List.length_attach
 have hmap:d.toList.map (·.1)=xs:=by show xs.attach.map (·.1)=xs;exact List.attach_map_subtype_val xs
 have hRx:∀ x:β,L.R h (enc x.1) x.1:=by
  intro x;obtain ⟨j,hj⟩:=List.mem_iff_getElem?.1 x.2;have:=e1.2 j x.1 hj;rwa [hE this] at this
 have hk:∀ x:β,(enc' x).length=L.size:=fun x=>L.len (hRx x)
 let L':Lay β:={ size:=L.size,R:=fun h vs x=>L.R h vs x.1,up:=fun a b=>L.up a b,len:=fun a=>L.len a,one:=fun a=>L.one a }
 have hb:=st.get hi;have hcsl:cs.length=xs.length*L.size:=e1.1;have e1':Enc L' h cs d.toList:=⟨by rw[hcsl,← hdl];rfl,fun j x hj=>e1.2 j x.1 (by
  have:=congrArg (Option.map (·.1)) hj;rw[← List.getElem?_map,hmap] at this;simpa using this)⟩
 have hH:HoldsK enc' L.size w b 0 d:=by
  intro j hj;have hj':j<d.size*L.size:=by simpa using hj
  have hcj:=zyU (L:=L') (enc:=enc') hpos d (fun h=>hE h) e1' hj';have hjc:j<cs.length:=by rw[hcsl,← hdl];exact hj'
  have hcur:cur[j]?=some (flatK enc' L.size d)[j]!:=by
   rw[← htk,List.getElem?_take] at hcj;split at hcj
   ·simpa using hcj
   ·cases hcj
  refine ⟨?_,?_⟩
  ·simp only[World.cell?,hb,Option.isSome_none,Bool.false_eq_true,if_false,Nat.zero_add,id];exact hcur
  ·simp[World.frozen?,hb]
 have hlt:=zek hb;have hsubs:∀ m (os:Array Obj) (dk:Array β),Sub h (sortWorldK enc' L.size w b 0 m dk os):=by
  intro m os dk;unfold sortWorldK putRowK;rw[zsm hb];have:=(((st.set (.cells (putCells id 0 (flatK enc' L.size dk) cur) T) hi).same (w':={ w with drawn:=w.drawn+m,heap:=w.heap.setIfInBounds b (.cells (putCells id 0 (flatK enc' L.size dk) cur) T) }) rfl rfl rfl rfl (Nat.le_add_right _ _)).grow os).sub;exact this
 have hC:CmpLays P g caps.toArray enc' L.size cf' b 0 d.size w:=by
  intro m os dk hdk x y;have c:Calls P g (#[.agg (enc' x).toArray,.agg (enc' y).toArray]++caps.toArray) (sortWorldK enc' L.size w b 0 m dk os) (zbe h (sortWorldK enc' L.size w b 0 m dk os) fun _ _ r=>r=.int .i64 (cf x.1 y.1)):=by
   simpa using hcmp x.1 x.2 y.1 y.2 _ (hsubs m os dk)
  refine c.mono ?_;rintro e w' ⟨h',r,rfl,s,rfl⟩;exact ⟨rfl,zAG s.below⟩
 have hS':SWO (ltOf cf'):=⟨fun x=>hS.irrefl x.1,fun x y z=>hS.trans x.1 y.1 z.1,fun x y z=>hS.ntrans x.1 y.1 z.1⟩;have con:=AnyQ.slices_SortFunc LL L.size aE zE enc' hk (fun x=>L.one (hRx x)) cf' hS' g caps.toArray b 0 cap d w eg hC hH hlt (by rw[hdl];exact hlen);rw[hdl] at con;refine con.mono ?_;rintro e w' ⟨he,d',n,os,⟨p1,p2,p3⟩,hsort,rfl⟩;have hd':d'.size=xs.length:=by rw[p1,hdl]
 refine ⟨he,d'.toList.map (·.1),[(b,.cells (putCells id 0 (flatK enc' L.size d') cur) T)],_,rfl,?_,?_,?_,?_⟩
 ·have e3:d'.extract 0 xs.length=d':=by rw[← hd'];simp
  have e4:d.extract 0 xs.length=d:=by rw[← hdl];simp
  rw[e3,e4] at p3;have:=p3.map (fun x:β=>x.1);rwa [hmap] at this
 ·rw[List.pairwise_map,List.pairwise_iff_getElem];intro q r hq hr hqr;have:=hsort q r (Nat.zero_le _) hqr (by simpa [hd'] using hr);rw[getElem!_pos d' r (by simpa using hr),getElem!_pos d' q (by simpa using hq)] at this;simp only[ltOf,decide_eq_false_iff_not,cf'] at this;simpa using this
 ·have hsf:(flatK enc' L.size d').size=xs.length*L.size:=by simp[hd']
  have hfc:(flatK enc' L.size d').size≤cur.size:=by rw[hsf,hsz];exact Nat.mul_le_mul_right _ hnc
  refine ⟨(flatK enc' L.size d').toList,?_,.inr ⟨b,cap,_,by simp[hd'],rfl,by simpa [hd'] using hnc,hcm,by simpa [putCells] using hsz,?_⟩⟩
  ·have:=zyR (L:=L') (h:=h) (enc:=enc') d' hk (fun x _=>hRx x);refine ⟨by simp[hd'],fun j x hj=>?_⟩;rw[List.getElem?_map] at hj;obtain ⟨y,hy,rfl⟩:=Option.map_eq_some_iff.1 hj;exact this.2 j y hy
  ·have:=ztH hfc;rw[hsf] at this;simpa [hd'] using this
 ·unfold sortWorldK putRowK;rw[zsm hb];exact ((st.set (.cells (putCells id 0 (flatK enc' L.size d') cur) T) hi).same (w':={ w with drawn:=w.drawn+n,heap:=w.heap.setIfInBounds b (.cells (putCells id 0 (flatK enc' L.size d') cur) T) }) rfl rfl rfl rfl (Nat.le_add_right _ _)).grow os
theorem zzr (f:α→Int):SWO (ltOf fun a b=>f b-f a):=by
 refine ⟨fun x=>?_,fun x y z h1 h2=>?_,fun x y z h1 h2=>?_⟩ <;> simp only[ltOf,decide_eq_true_eq,decide_eq_false_iff_not] at * <;> omega
theorem OSl.memR (hO:OSl L T h v xs o) (hx:x∈xs):∃ vs,L.R h vs x:=by
 obtain ⟨cs,e,_⟩:=hO;obtain ⟨j,hj⟩:=List.mem_iff_getElem?.1 hx;exact ⟨_,e.2 j x hj⟩
theorem Sl.memR (hs:Sl L h v xs) (hx:x∈xs):∃ vs,L.R h vs x:=by
 obtain ⟨p,c,_,_,rfl|⟨b,off,_,hh⟩⟩:=hs
 ·cases hx
 obtain ⟨j,hj⟩:=List.mem_iff_getElem?.1 hx;obtain ⟨vs,_,hr⟩:=hh j x hj;exact ⟨vs,hr⟩
theorem zwa [Inhabited α] {enc:α→Value} {F:Array α} (hb:w.heap[b]?=some (.cells cur T)) (n:Nat):
  putRow enc (Go.Sort.ahead w n) b 0 F={ w with drawn:=w.drawn+n,heap:=w.heap.setIfInBounds b (.cells (putCells enc 0 F cur) T) }:=by
 have hlt:=zek hb;have hb':w.heap[b]=.cells cur T:=by rw[Array.getElem?_eq_getElem hlt] at hb;simpa using hb
 simp only[putRow,mapBlock,Go.Sort.ahead,World.mk.injEq,and_true,true_and];apply Array.ext_getElem?;intro i;rw[Array.getElem?_modify,Array.getElem?_setIfInBounds]
 by_cases e:b=i
 ·subst e;simp[hlt,hb',onCells]
 ·simp[e]
theorem zsn [Inhabited α] {enc:α→Value} {F:Array α} (h:F.size≤cur.size):(putCells enc 0 F cur).toList.take F.size=F.toList.map enc:=by
 apply List.ext_getElem?;intro i;rw[List.getElem?_take,List.getElem?_map];split
 ·rename_i hi;simp only[putCells,Array.getElem?_toList,Array.getElem?_mapIdx];rw[Array.getElem?_eq_getElem (show i<cur.size by omega),Array.getElem?_eq_getElem hi];simp[hi]
 rename_i hi;rw[List.getElem?_eq_none (by simpa using hi)];rfl
theorem zDp [Inhabited α] {f:FuncId} (enc:α→Value) (hE:∀ {h vs x},L.R h vs x→vs=[enc x]) (hz:L.size=1) (srt:List α→List α) (hp:∀ l,(srt l).Perm l) (hc:∀ blk off cap (zs:List α) w,Holds enc w blk off zs.toArray→blk<w.heap.size→zs.length<4611686018427387904→Calls P f #[.slice (some ⟨blk,off,none⟩) zs.length cap] w fun e w'=>e=.returned (.tuple #[])∧∃ n os,w'=Go.Sort.grow (putRow enc (Go.Sort.ahead w n) blk off (srt zs).toArray) os) (hn:∀ p cap w,Calls P f #[.slice p 0 cap] w fun e w'=>e=.returned (.tuple #[])∧w'=w) {own:Own} (st:St h0 w0 h w own) (hO:OSl L T h v xs o) (hi:own[i]?=some o) (hlen:xs.length<4611686018427387904):
  Calls P f #[v] w fun e w'=>e=.returned (.tuple #[])∧∃ o' own',own'=own.set i o'∧OSl L T h v (srt xs) o'∧St h0 w0 h w' own':=by
 obtain ⟨cs,e1,⟨⟨p,rfl⟩,rfl,rfl⟩|⟨b,cap,cur,rfl,rfl,hnc,hcm,hsz,htk⟩⟩:=hO
 ·refine (hn p 0 w).mono ?_;rintro e w' ⟨he,rfl⟩;have e0:srt []=[]:=(hp []).eq_nil;rw[e0];exact ⟨he,[],_,rfl,OSl.nil0 L T h ⟨p,rfl⟩,st.drop i⟩
 have hb:=st.get hi;have hlt:=zek hb;have hcs:cs=xs.map enc:=by
  apply List.ext_getElem?;intro j;rw[List.getElem?_map]
  by_cases hj:j<xs.length
  ·have hr:=hE (e1.2 j xs[j] (List.getElem?_eq_getElem hj));rw[hz,Nat.mul_one] at hr;have hjc:j<cs.length:=by rw[e1.1,hz];omega
   rw[List.getElem?_eq_getElem hj,List.getElem?_eq_getElem hjc];have h1:=congrArg (·[0]?) hr;simp only[List.getElem?_take,List.getElem?_drop,List.getElem?_cons_zero] at h1;simp only[Nat.zero_lt_one,if_true,Nat.add_zero] at h1;rw[List.getElem?_eq_getElem hjc] at h1;simpa using h1
  ·rw[List.getElem?_eq_none (by rw[e1.1,hz];omega),List.getElem?_eq_none zU];rfl
 have hH:Holds enc w b 0 xs.toArray:=by
  intro j hj;have hj':j<xs.length:=by simpa using hj
  have h2:cs[j]?=some (enc xs[j]):=by rw[hcs,List.getElem?_map,List.getElem?_eq_getElem hj'];rfl
  have hcur:cur[j]?=some (enc xs[j]):=by
   rw[← htk,List.getElem?_take] at h2;split at h2
   ·simpa using h2
   ·cases h2
  refine ⟨?_,by simp[World.frozen?,hb]⟩;simp only[World.cell?,hb,Option.isSome_none,Bool.false_eq_true,if_false,Nat.zero_add];rw[hcur,getElem!_pos xs.toArray j (by simpa using hj')];simp
 refine (hc b 0 cap xs w hH hlt hlen).mono ?_;rintro e w' ⟨he,n,os,rfl⟩;have hl:(srt xs).length=xs.length:=(hp xs).length_eq;refine ⟨he,[(b,.cells (putCells enc 0 (srt xs).toArray cur) T)],_,rfl,?_,?_⟩
 ·have hfc:(srt xs).toArray.size≤cur.size:=by rw[List.size_toArray,hl,hsz,hz];omega
  refine ⟨(srt xs).map enc,⟨by simp[hz],fun j x hj=>?_⟩,.inr ⟨b,cap,_,by rw[hl],rfl,by omega,hcm,by simpa [putCells] using hsz,?_⟩⟩
  ·have hm:x∈xs:=(hp xs).mem_iff.1 (List.mem_of_getElem? hj);obtain ⟨q,hq⟩:=List.mem_iff_getElem?.1 hm;have hr:=e1.2 q x hq;rw[hE hr] at hr;obtain ⟨h1,h2⟩:=List.getElem?_eq_some_iff.1 hj;have e3:(((srt xs).map enc).drop (j*L.size)).take L.size=[enc x]:=by
    rw[hz,Nat.mul_one,List.drop_eq_getElem_cons (by simpa using h1)];simp[h2]
   rw[e3];exact hr
  ·have:=zsn (enc:=enc) hfc;rw[hz,Nat.mul_one];simpa using this
 ·rw[zwa hb];exact ((st.set (.cells (putCells enc 0 (srt xs).toArray cur) T) hi).same (w':={ w with drawn:=w.drawn+n,heap:=w.heap.setIfInBounds b (.cells (putCells enc 0 (srt xs).toArray cur) T) }) rfl rfl rfl rfl (Nat.le_add_right _ _)).grow os
end Go.Pk
