/- A PART OF THE PROOF: contracts of functions. -/
import Derived.Tactics
import Derived.Below
import Derived.TacticsIn
import Derived.OrdersIn
import Derived.IntWalk
import Derived.Deep.MidRow
import Derived.Great.BuildSlice
import Derived.Laws.Tables
import Derived.Laws.StructEq
import Derived.Laws.Entries
import Derived.Laws.Slices
import Derived.WalkLawsBesides
import Derived.Deep.Quiet
import Derived.KernelRfl
import Derived.Scope
import Derived.Laws.IdiomStrings
set_option linter.all false
set_option maxRecDepth 4000
namespace Go.Pk
open Go Go.RowKit
variable {p:Prop} {α β G:Type} {a i:Int} {a':α} {b g d n B off m off' j:Nat} {b':β} {c:Code} {l:List Oper} {x y ix:Operand} {o:List (Nat×Obj)} {v z v2 zv:Value} {w' w w0:World} {f:FuncId} {args:Array Operand} {dst:Option Tmp} {op:Op} {type T t' e ty kt et:TypeId} {pos:String} {after aft:Array Edge} {P:Program} {fn:Func} {R:Ending→World→Prop} {mods:List Nat} {fr:Nat×Nat} {vs us cs cs':List Value} {xs:List α} {ats:Array TypeId} {fs:Array Field} {parts:Array (Nat×Operand)} {ys:List α} {cur:Array Value} {kind:TypeDesc}
def zhg:=@Array.ext_getElem?
def zbb:=@Array.getD_eq_getD_getElem?
def zcr:=@Array.getElem?_eq_getElem
def zcF:=@Array.getElem?_replicate
def zhu:=@Array.getElem?_setIfInBounds
def zbi:=@Array.getElem?_setIfInBounds_ne
def zgu:=@Array.getElem?_toList
def zhE:=@Array.length_toList
def zet:=@Array.toList_modify
def zfR:=@Array.toList_push
def zfN:=@Bool.and_eq_false_iff
def zK:=@Bool.and_eq_true
def zbN:=@Bool.eq_false_or_eq_true
def zdR:=@Bool.eq_iff_iff
def zbd:=@Bool.false_eq_true
def zes:=@Bool.false_or
def zfp:=@Bool.not_eq_true'
def zgd:=@Bool.or_eq_true
def zdQ:=@Bool.true_and
def zhD:=@Int.toNat_of_nonneg
def zgt:=@List.Perm.append_left
def zal:=@List.all_eq_true
def zeT:=@List.any_eq_false
def zbM:=@List.any_eq_true
def zaB:=@List.append_assoc
def zbL:=@List.append_nil
def zht:=@List.drop_drop
def zcX:=@List.drop_eq_getElem_cons
def zeV:=@List.drop_eq_nil_of_le
def zer:=@List.drop_succ_cons
def zfW:=@List.drop_zero
def zee:=@List.eq_nil_of_length_eq_zero
def zeF:=@List.ext_getElem?
def zbc:=@List.filter_append
def zfo:=@List.filter_congr
def zbo:=@List.filter_cons
def zgP:=@List.filter_eq_nil_iff
def zeN:=@List.filter_eq_self
def zgD:=@List.filter_nil
def zdC:=@List.filter_sublist
def zgS:=@List.find?_append
def zdu:=@List.find?_cons
def zdM:=@List.find?_eq_none
def zjc:=@List.find?_some
def zfi:=@List.flatMap_append
def zhA:=@List.flatMap_cons
def zdf:=@List.flatten_append
def zfQ:=@List.flatten_cons
def zel:=@List.foldl_append
def zgC:=@List.foldl_cons
def zhZ:=@List.foldl_nil
def zcN:=@List.getElem?_append_left
def zdg:=@List.getElem?_append_right
def zeL:=@List.getElem?_cons_zero
def zdL:=@List.getElem?_drop
def zn:=@List.getElem?_eq_getElem
def zbF:=@List.getElem?_eq_none
def k_List_getElem__eq_some_iff:=@List.getElem?_eq_some_iff
def zcy:=@List.getElem?_map
def zfx:=@List.getElem?_modify
def zir:=@List.getElem?_set
def zaR:=@List.getElem?_take
def zdI:=@List.getElem?_toArray
def zhM:=@List.getElem_cons_drop
def zdB:=@List.getElem_mem
def zgX:=@List.getLast?_eq_getElem?
def zj:=@List.length_append
def zy:=@List.length_cons
def zeQ:=@List.length_drop
def zak:=@List.length_filter_le
def zaa:=@List.length_map
def zC:=@List.length_nil
def k_List_length_pos_iff:=@List.length_pos_iff
def zfn:=@List.length_range
def zek:=@List.length_set
def zt:=@List.length_take
def zfh:=@List.length_take_le
def zaz:=@List.map_append
def zgo:=@List.map_congr_left
def zbQ:=@List.map_cons
def zhf:=@List.map_map
def zfm:=@List.map_nil
def zcq:=@List.mem_append
def zaV:=@List.mem_cons
def zcH:=@List.mem_cons_of_mem
def zct:=@List.mem_cons_self
def zcl:=@List.mem_filter
def zeh:=@List.mem_flatMap
def k_List_mem_iff_getElem_:=@List.mem_iff_getElem?
def zbk:=@List.mem_map
def zdq:=@List.mem_map_of_mem
def zfw:=@List.mem_of_find?_eq_some
def zD:=@List.mem_of_getElem?
def zii:=@List.mem_of_getLast?
def zbZ:=@List.mem_range
def zgc:=@List.mem_singleton
def zcM:=@List.nil_append
def zcx:=@List.nodup_append
def zgb:=@List.nodup_cons
def zbD:=@List.not_mem_nil
def zga:=@List.pairwise_append
def zdE:=@List.pairwise_iff_getElem
def zfe:=@List.perm_append_comm
def zdb:=@List.range_succ
def zfd:=@List.set_append_right
def zce:=@List.set_eq_take_append_cons_drop
def ziq:=@List.size_toArray
def zbS:=@List.take_append_drop
def zhU:=@List.take_length
def zS:=@List.take_of_length_le
def zeq:=@List.take_succ_cons
def zhY:=@List.take_take
def zfc:=@List.take_zero
def zhL:=@Nat.add_mul
def zfC:=@Nat.add_sub_cancel
def zfT:=@Nat.add_sub_cancel_left
def zhX:=@Nat.eq_of_beq_eq_true
def zdU:=@Nat.le_of_ble_eq_true
def zca:=@Nat.le_of_lt_succ
def zbR:=@Nat.le_refl
def zfl:=@Nat.le_trans
def zbK:=@Nat.lt_or_eq_of_le
def zcO:=@Nat.lt_or_ge
def zdX:=@Nat.min_eq_left
def zcb:=@Nat.mul_le_mul_right
def zif:=@Nat.mul_one
def zdv:=@Nat.zero_add
def zfg:=@Nat.zero_le
def zdK:=@Option.getD_some
def zhe:=@Option.isSome_none
def zfB:=@Option.map_eq_some_iff
def zck:=@Option.map_some
def zeO:=@Option.some.inj
def zeS:=@Option.some.injEq
def zcE:=@congrArg
def zhT:=@decide_eq_decide
def zcU:=@decide_eq_false
def zcw:=@decide_eq_false_iff_not
def zdi:=@decide_eq_true
def zX:=@decide_eq_true_eq
def zam:=@if_neg
def zab:=@if_pos
def zej:=@of_decide_eq_true
def zec:=@or_false
theorem zW (h:p:=by omega):p:=h
theorem zeu (h:p:=by kernel_rfl):p:=h
theorem t_de (h:p:=by decide):p:=h
theorem t_si (h:p:=by simp):p:=h
theorem t_as (h:p:=by assumption):p:=h
abbrev iV (a:Int):Value:=.int .i64 a
theorem zfH {a: α} {b: β} (h:(a,b)=(a',b')):a=a':=zcE Prod.fst h
theorem zcA {a: α} {b: β} (h:(a,b)=(a',b')):b=b':=zcE Prod.snd h
theorem zfZ:(∀ (n:Nat) (a:α) (l:List α),List.drop (n+1) (a::l)=List.drop n l)∧(∀ l:List α,List.drop 0 l=l)∧(∀ (n:Nat) (a:α) (l:List α),List.take (n+1) (a::l)=a::List.take n l)∧∀ l:List α,List.take 0 l=[]:=⟨fun _ _ _=>rfl,fun _=>rfl,fun _ _ _=>rfl,fun _=>rfl⟩
abbrev Env:=Nat→Value
variable {σ σ':Env}
def upd (σ:Env) (d:Nat) (v:Value):Env:=fun i=>bif Nat.beq i d then v else σ i
def updO (σ:Env) (d:Option Nat) (v:Value):Env:=match d with|some d=>upd σ d v|none=>σ
def ev (σ:Env):Operand→Value
 | .tmp t=>σ t
 | .const v=>v
 | .global g=>.pointer (some ⟨g,0,none⟩)
 | .func f=>.func (.func f) #[] #[]
theorem zqi (σ:Env) (d:Nat) (v:Value):upd σ d v d=v:=by simp[upd]
theorem zzh (σ:Env) (d i:Nat) (v:Value) (h:i≠d):upd σ d v i=σ i:=by
 have:Nat.beq i d=false:=by
  cases e:Nat.beq i d with
  | true=>exact absurd (zhX e) h
  | false=>rfl
 simp[upd,this]
theorem zrx (σ:Env) (d:Nat) (v:Value) (h:σ d=v):upd σ d v=σ:=by
 funext i
 by_cases e:i=d
 ·subst e;rw[zqi,h]
 rw[zzh _ _ _ _ e]
structure Fits (n:Nat) (a:Act) (σ:Env):Prop where
 size:a.tmps.size=n
 defers:a.defers=[]
 at_:∀ i,a.tmps.getD i undef=σ i
theorem Fits.eval {n:Nat} {a:Act} {σ:Env} (h:Fits n a σ):a.eval=ev σ:=by
 funext x;cases x <;> simp only[Act.eval,ev];exact h.at_ _
def zjw (n:Nat):Option Nat→Bool
 | some d=>Nat.blt d n
 | none=>true
theorem Fits.put {n:Nat} {a:Act} {σ:Env} (h:Fits n a σ) {d:Option Nat} (hd:zjw n d=true) (v:Value):Fits n (a.put d v) (updO σ d v):=by
 cases d with
 | none=>exact h
 | some d=>
  have hd':d<n:=zdU hd;refine ⟨by simp[Act.put,h.size],h.defers,fun i=>?_⟩;show (a.tmps.setIfInBounds d v).getD i undef=upd σ d v i
  by_cases e:i=d
  ·subst e;rw[zqi];simp[Array.getD,h.size,hd']
  ·rw[zzh _ _ _ _ e,← h.at_ i];simp only[zbb];rw[zbi (Ne.symm e)]
def W (P:Program) (n:Nat) (c:Code) (Q:Exit→Env→World→Prop) (σ:Env) (w:World):Prop:=
 ∀ a,Fits n a σ→c.wp P (fun e a' w'=>∃ σ',Fits n a' σ'∧Q e σ' w') a w
def zY (Kw:Env→World→Prop) (Q:Exit→Env→World→Prop):Exit→Env→World→Prop
 | .normal,σ,w=>Kw σ w
 | e,σ,w=>Q e σ w
def Blk (id:Nat) (Q:Exit→Env→World→Prop):Exit→Env→World→Prop
 | .exit id',σ,w=>if id'=id then Q .normal σ w else Q (.exit id') σ w
 | e,σ,w=>Q e σ w
section
variable {P:Program} {n:Nat} {Q:Exit→Env→World→Prop} {σ:Env} {w:World}
theorem zzU {Q':Exit→Env→World→Prop} (h:W P n c Q σ w) (hq:∀ e σ w,Q e σ w→Q' e σ w):W P n c Q' σ w:=
 fun a ha=>Code.wp_mono (fun _ _ _ ⟨σ',hf,q⟩=>⟨σ',hf,hq _ _ _ q⟩) (h a ha)
theorem zbO (h:Q .normal σ w):W P n .skip Q σ w:=fun _ ha=>wp_skip ⟨σ,ha,h⟩
theorem zzV {l:Nat} (h:Q .normal σ w):W P n (.label l) Q σ w:=fun _ ha=>wp_label ⟨σ,ha,h⟩
theorem zmO {id:Nat} (h:Q (.exit id) σ w):W P n (.exit id) Q σ w:=fun _ ha=>wp_exit ⟨σ,ha,h⟩
theorem zky (h:Q .ret σ w):W P n .ret Q σ w:=fun _ ha=>wp_ret ⟨σ,ha,h⟩
theorem zaM {x y:Code} (h:W P n x (zY (W P n y Q) Q) σ w):W P n (.seq x y) Q σ w:=by
 intro a ha;refine wp_seq (Code.wp_mono ?_ (h a ha));rintro e a' w' ⟨σ',hf,q⟩;cases e <;> first|exact q a' hf|exact ⟨σ',hf,q⟩
theorem zT {id:Nat} (h:W P n c (Blk id Q) σ w):W P n (.block id c) Q σ w:=by
 intro a ha;refine wp_block (Code.wp_mono ?_ (h a ha));rintro e a' w' ⟨σ',hf,q⟩;cases e with
 | exit id'=>
  simp only[Blk] at q;simp only[Exit.inBlock];split
  ·rename_i h;rw[zab h] at q;exact ⟨σ',hf,q⟩
  ·rename_i h;rw[zam h] at q;exact ⟨σ',hf,q⟩
 | _=>exact ⟨σ',hf,q⟩
theorem zaD {c:Operand} {x y:Code} {t:Bool} (hc:ev σ c=.bool t) (ht:t=true→W P n x Q σ w) (hf:t=false→W P n y Q σ w):W P n (.cond c x y) Q σ w:=by
 intro a ha;exact wp_cond_split (t:=t) (by rw[ha.eval];exact hc) (fun e=>ht e a ha) (fun e=>hf e a ha)
theorem zHE (I:G→Env→World→Prop) (μ:G→Nat) (g:G) (h0:I g σ w) (round:∀ g σ w,I g σ w→W P n c (zY (fun σ' w'=>∃ g',I g' σ' w'∧μ g'<μ g) Q) σ w):W P n (.loop c) Q σ w:=by
 intro a ha b kk cs;have key:∀ k g σ w a,μ g=k→I g σ w→Fits n a σ→
   ∃ e a' w',(∃ σ',Fits n a' σ'∧Q e σ' w')∧Arrives P (lone (b.at a (.code c::.inLoop c::kk)) cs w) b kk cs e a' w':=by
  intro k
  induction k using Nat.strongRecOn with
  | _ k ih=>
   intro g σ w a hk hI ha;obtain ⟨e,a₁,w₁,⟨σ₁,hf₁,hq⟩,harr⟩:=round g σ w hI a ha b (.inLoop c::kk) cs;cases e with
   | normal=>
    obtain ⟨g',hI',hlt⟩:=hq;obtain ⟨e₂,a₂,w₂,hq₂,harr₂⟩:=ih (μ g') (hk▸hlt) g' σ₁ w₁ a₁ rfl hI' hf₁;exact ⟨e₂,a₂,w₂,hq₂,.of_steps (Steps.trans harr (.one step_inLoop)) harr₂⟩
   | exit id=>exact ⟨_,a₁,w₁,⟨σ₁,hf₁,hq⟩,.pass (x:=.inLoop c) rfl (fun _ _=>.inl (by simp)) harr⟩
   | goto l=>exact ⟨_,a₁,w₁,⟨σ₁,hf₁,hq⟩,.pass (x:=.inLoop c) rfl (fun _ _=>.inl (by simp)) harr⟩
   | ret=>exact ⟨_,a₁,w₁,⟨σ₁,hf₁,hq⟩,.pass (x:=.inLoop c) rfl (fun _ _=>.inl (by simp)) harr⟩
   | panic ch=>exact ⟨_,a₁,w₁,⟨σ₁,hf₁,hq⟩,.pass (x:=.inLoop c) rfl (fun _ _=>.inl (by simp)) harr⟩
   | outgrown=>exact ⟨_,a₁,w₁,⟨σ₁,hf₁,hq⟩,.pass (x:=.inLoop c) rfl (fun _ _=>.inl (by simp)) harr⟩
 obtain ⟨e,a',w',hq,harr⟩:=key _ g σ w a rfl h0 ha;exact ⟨e,a',w',hq,.of_steps (.one step_loop) harr⟩
def M (P:Program) (n:Nat) (ops:Array Oper) (l:List Oper) (Kw:Env→World→Prop) (σ:Env) (w:World):Prop:=
 ∀ a,Fits n a σ→wpListIn Fence.wide 0 P ops (fun e a' w'=>e=.normal∧∃ σ',Fits n a' σ'∧Kw σ' w') l a w
theorem zah {id:Nat} (h:M P n l.toArray l (fun σ w=>Q .normal σ w) σ w):W P n (.region id l.toArray false) Q σ w:=by
 intro a ha;refine Code.wp_mono ?_ (wpIn_wide.1 (wpIn_region_lit (h a ha)));rintro e a' w' ⟨rfl,σ',hf,q⟩;exact ⟨σ',hf,q⟩
variable {ops:Array Oper} {rest:List Oper} {Kw:Env→World→Prop}
theorem zl (h:Kw σ w):M P n ops [] Kw σ w:=fun _ ha=>⟨rfl,σ,ha,h⟩
theorem M.of_wp {o:Oper} (hg:o.guard=none)
  (h:∀ a,Fits n a σ→o.uponIn Fence.wide 0 P a (wpListIn Fence.wide 0 P ops (fun e a' w'=>e=.normal∧∃ σ',Fits n a' σ'∧Kw σ' w') rest) (fun e a' w'=>e=.normal∧∃ σ',Fits n a' σ'∧Kw σ' w') ((execOp (ev σ) o).run P w)):M P n ops (o::rest) Kw σ w:=by
 intro a ha;unfold wpListIn;rw[zab (by simp[Region.wanted,hg])];refine ⟨fun _ _=>trivial,?_⟩;have:=h a ha;rw[← ha.eval] at this;exact this
theorem zax {o:Oper} (hg:o.guard=none) (hd:zjw n o.dst=true) (hrun:(execOp (ev σ) o).run P w=.ok (.value v) w') (h:M P n ops rest Kw (updO σ o.dst v) w'):M P n ops (o::rest) Kw σ w:=
 .of_wp hg fun a ha=>by
  rw[hrun];exact h _ (ha.put hd v)
theorem zU {o:Oper} (hE_:(o.guard,zjw n o.dst)=(none,true)) (hrun:(execOp (ev σ) o).run P w=.ok (.value v) w') (h:M P n ops rest Kw (updO σ o.dst v) w'):M P n ops (o::rest) Kw σ w:=zax (zfH hE_) (zcA hE_) hrun h
theorem zov {o:Oper} (hg:o.guard=none) (hd:o.dst=none) (hrun:(execOp (ev σ) o).run P w=.ok .skip w') (h:M P n ops rest Kw σ w'):M P n ops (o::rest) Kw σ w:=
 .of_wp hg fun a ha=>by
  rw[hrun];simp only[Oper.uponIn,hd,Act.put];exact h _ ha
theorem zcG {o:Oper} {args:Array Value} (hg:o.guard=none) (hd:zjw n o.dst=true) (hrun:(execOp (ev σ) o).run P w=.ok (.enter f args) w') (h:Calls P f args w' fun e w''=>∃ v,e=.returned v∧M P n ops rest Kw (updO σ o.dst v) w''):M P n ops (o::rest) Kw σ w:=
 .of_wp hg fun a ha=>by
  rw[hrun];refine ⟨(fun hh=>absurd hh (by decide)),callsIn_wide.2 (Calls.mono h ?_)⟩;rintro e w'' ⟨v,rfl,hv⟩;exact hv _ (ha.put hd v)
theorem zCr {o:Oper} {l:Nat} {tmps:Array Value} {assign body:Code} (hg:o.guard=none) (hd:zjw n o.dst=true) (hrun:(execOp (ev σ) o).run P w=.ok (.round l f tmps assign body) w') (h:RoundIn Fence.wide 0 P l f tmps assign body w' fun e w''=>∃ v,e=.returned v∧M P n ops rest Kw (updO σ o.dst v) w''):M P n ops (o::rest) Kw σ w:=
 .of_wp hg fun a ha=>by
  rw[hrun];refine ⟨(fun hh=>absurd hh (by decide)),RoundIn.mono h ?_⟩;rintro e w'' ⟨v,rfl,hv⟩;exact hv _ (ha.put hd v)
theorem zoL {a:Act} {b:Bool} (ha:Fits n a σ) (hg:(ops[g]?).bind (·.dst)=some d) (hd:Nat.blt d n=true) (hv:σ d=.bool b):yielded ops a.tmps g=some b:=by
 have hd':d<a.tmps.size:=by rw[ha.size];exact zdU hd
 have h1:a.tmps[d]?=some (.bool b):=by
  have:=ha.at_ d;rw[hv] at this;simp only[zbb] at this;rw[zcr hd'] at this ⊢;simpa using this
 simp[yielded,hg,h1]
theorem zuI {b:Bool} (hg:(ops[g]?).bind (·.dst)=some d) (hd:Nat.blt d n=true) (hv:σ d=.bool b) (h:M P n ops (⟨dst,op,type,pos,after,none⟩::rest) Kw σ w):M P n ops (⟨dst,op,type,pos,after,some (g,b)⟩::rest) Kw σ w:=by
 intro a ha;have:=h a ha;unfold wpListIn at this ⊢;rw[zab (by simp[Region.wanted])] at this;rw[zab (by simp[Region.wanted,zoL ha hg hd hv])];exact this
theorem X {b:Bool} (hE_:((ops[g]?).bind (·.dst),Nat.blt d n,σ d)=(some d,true,.bool b)) (h:M P n ops (⟨dst,op,type,pos,after,none⟩::rest) Kw σ w):M P n ops (⟨dst,op,type,pos,after,some (g,b)⟩::rest) Kw σ w:=zuI (zfH hE_) (zfH (zcA hE_)) (zcA (zcA hE_)) h
theorem zuG {b c:Bool} (hg:(ops[g]?).bind (·.dst)=some d) (hd:Nat.blt d n=true) (hv:σ d=.bool c) (hc:(c == b)=false) (hdst:zjw n dst=true) (h:M P n ops rest Kw (updO σ dst undef) w):M P n ops (⟨dst,op,type,pos,after,some (g,b)⟩::rest) Kw σ w:=by
 intro a ha;unfold wpListIn;rw[zam (by simp[Region.wanted,zoL ha hg hd hv];simpa using hc)];exact ⟨fun _ _=>trivial,h _ (ha.put hdst _)⟩
theorem zbX {t:Bool} (hv:σ d=.bool t) (h1:t=true→M P n ops l Kw (upd σ d (.bool true)) w) (h2:t=false→M P n ops l Kw (upd σ d (.bool false)) w):M P n ops l Kw σ w:=by
 cases t with
 | true=>have:=h1 rfl;rwa [zrx _ _ _ hv] at this
 | false=>have:=h2 rfl;rwa [zrx _ _ _ hv] at this
end
def zZ (fn:Func) (P:Program) (R:Ending→World→Prop):Exit→Env→World→Prop
 | .normal,σ,w|.ret,σ,w=>∀ tmps:Array Value,(∀ i,tmps.getD i undef=σ i)→∃ v,(results fn tmps).run P w=.ok v w∧R (.returned v) w
 | _,_,_=>False
def start:List Value→Env
 | [],_=>undef
 | v::_,0=>v
 | _::l,i+1=>start l i
theorem zAn (l:List Value):∀ i,l.getD i undef=start l i:=by
 induction l with
 | nil=>intro i;simp[start]
 | cons v l ih=>intro i;cases i with
  | zero=>simp[start]
  | succ i=>simpa [start] using ih i
theorem zGA {args:List Value} (hf:P.funcs[f]?=some fn) (hb:fn.body=some c) (hn:fn.ntmps=n) (hl:Nat.ble args.length n=true) (h:W P n c (zZ fn P R) (start args) w):Calls P f args.toArray w R:=by
 have hl':args.length≤n:=by simpa using hl
 refine calls_of_wp hf hb ?_;have hfit:Fits n { tmps:=args.toArray++Array.replicate (fn.ntmps-args.toArray.size) undef,defers:=[] } (start args):=by
  refine ⟨by simp[hn];omega,rfl,fun i=>?_⟩;rw[← zAn];simp only[zbb,List.getD_eq_getElem?_getD]
  by_cases hi:i<args.length
  ·rw[Array.getElem?_append_left (by simpa using hi)];simp
  ·rw[Array.getElem?_append_right (by simpa using hi),zbF zW]
   by_cases hj:i-args.toArray.size<fn.ntmps-args.toArray.size
   ·rw[zcF,zab hj];rfl
   ·rw[zcF,zam hj]
 refine Code.wp_mono ?_ (h _ hfit);rintro e a' w' ⟨σ',hf',hq⟩;cases e with
 | normal=>exact ⟨hf'.defers,hq _ hf'.at_⟩
 | ret=>exact ⟨hf'.defers,hq _ hf'.at_⟩
 | exit id=>exact hq.elim
 | goto l=>exact hq.elim
 | panic ch=>exact hq.elim
 | outgrown=>exact hq.elim
theorem zg (n:Nat) {args:List Value} (hf:P.funcs[f]?=some fn) (hE_:(fn.body,fn.ntmps,Nat.ble args.length n)=(some c,n,true)) (h:W P n c (zZ fn P R) (start args) w):Calls P f args.toArray w R:=zGA hf (zfH hE_) (zfH (zcA hE_)) (zcA (zcA hE_)) h
theorem zf {t:Nat} (hr:fn.results=#[.tmp t]) (h:R (.returned (σ t)) w):zZ fn P R .ret σ w:=
 fun tmps ht=>⟨_,results_tmp hr tmps P w,by rw[ht];exact h⟩
theorem zbu {t u:Nat} (hr:fn.results=#[.tmp t,.tmp u]) (h:R (.returned (.tuple #[σ t,σ u])) w):zZ fn P R .ret σ w:=
 fun tmps ht=>⟨_,results_tmp2 hr tmps P w,by rw[ht,ht];exact h⟩
theorem zob (hr:fn.results=#[]) (h:R (.returned (.tuple #[])) w):zZ fn P R .ret σ w:=
 fun tmps _=>⟨_,results_none hr tmps P w,h⟩
theorem zvq (hr:fn.results=#[]) (h:R (.returned (.tuple #[])) w):zZ fn P R .normal σ w:=zob (P:=P) hr h
def inL:List Nat→Nat→Bool
 | [],_=>false
 | d::l,i=>bif Nat.beq i d then true else inL l i
def mix (mods:List Nat) (τ σ:Env):Env:=fun i=>bif inL mods i then τ i else σ i
def known:List (Nat×Value)→Env→Env
 | [],σ=>σ
 | (d,v)::l,σ=>upd (known l σ) d v
def Has (σ:Env):List (Nat×Value)→Prop
 | []=>True
 | (d,v)::l=>σ d=v∧Has σ l
def zfs (mods:List Nat) (σ' σ:Env):Prop:=∀ i,inL mods i=false→σ' i=σ i
theorem zoq {l:List (Nat×Value)} (h:Has σ l):known l σ=σ:=by
 induction l with
 | nil=>rfl
 | cons p l ih=>
  obtain ⟨d,v⟩:=p;obtain ⟨h1,h2⟩:=h;simp only[known];rw[ih h2,zrx _ _ _ h1]
theorem zwQ (h:zfs mods σ' σ):mix mods σ' σ=σ':=by
 funext i;simp only[mix];cases e:inL mods i with
 | true=>rfl
 | false=>exact (h i e).symm
theorem zqm {l:List (Nat×Value)} (hh:Has σ' l) (ha:zfs mods σ' σ):∃ τ,σ'=known l (mix mods τ σ):=
 ⟨σ',by rw[zwQ ha,zoq hh]⟩
theorem zlV (mods:List Nat) (σ:Env):zfs mods σ σ:=fun _ _=>rfl
theorem znf (hd:inL mods d=true) (h:zfs mods σ' σ):zfs mods (upd σ' d v) σ:=fun i hi=>by
 have hne:i≠d:=by rintro rfl;rw[hd] at hi;cases hi
 rw[zzh _ _ _ _ hne];exact h i hi
theorem zqB (mods:List Nat) (τ σ:Env):zfs mods (mix mods τ σ) σ:=fun i hi=>by simp only[Pk.mix,hi,cond_false]
def subset (a b:List Nat):Bool:=a.all fun i=>inL b i
theorem zqA {mods' : List Nat} {τ: Env} (hs:subset mods' mods=true) (h:zfs mods σ' σ):zfs mods (Pk.mix mods' τ σ') σ:=fun i hi=>by
 simp only[Pk.mix];cases e:inL mods' i with
 | true=>
  have:inL mods i=true:=by
   clear hi h;revert hs e
   induction mods' with
   | nil=>intro _ e;cases e
   | cons d l ih=>
    intro hs e;simp only[subset,List.all_cons,zK] at hs;simp only[inL] at e;cases hd:Nat.beq i d with
    | true=>rw[zhX hd];exact hs.1
    | false=>rw[hd] at e;exact ih hs.2 e
  rw[this] at hi;cases hi
 | false=>exact h i hi

abbrev Heap:=Nat→Option Obj
variable {h h0:Heap}
def Sub (h:Heap) (w:World):Prop:=∀ b o,h b=some o→w.heap[b]?=some o
def Le (h h':Heap):Prop:=∀ b o,h b=some o→h' b=some o
theorem Le.refl (h:Heap):Le h h:=fun _ _ e=>e
theorem Le.trans {a b c:Heap} (x:Le a b) (y:Le b c):Le a c:=fun k o e=>y k o (x k o e)
def Heap.put (h:Heap) (b:Nat) (o:Obj):Heap:=fun i=>bif Nat.beq i b then some o else h i
theorem Heap.put_same (h:Heap) (b:Nat) (o:Obj):h.put b o b=some o:=by simp[Heap.put]
theorem Heap.put_ne (h:Heap) (b i:Nat) (o:Obj) (e:i≠b):h.put b o i=h i:=by
 have:Nat.beq i b=false:=by
  cases q:Nat.beq i b with
  | true=>exact absurd (zhX q) e
  | false=>rfl
 simp[Heap.put,this]
abbrev Own:=List (List (Nat×Obj))
variable {own':Own}
structure Bel (B:Nat) (w w':World):Prop where
 os:w'.os=w.os
 tape:w'.tape=w.tape
 output:w'.output=w.output
 size:w.heap.size≤w'.heap.size
 block:∀ k,k<B→w'.heap[k]?=w.heap[k]?
 drawn:w.drawn≤w'.drawn
theorem Bel.refl (B:Nat) (w:World):Bel B w w:=⟨rfl,rfl,rfl,zbR _,fun _ _=>rfl,zbR _⟩
theorem Bel.trans {B:Nat} {a b c:World} (h:Bel B a b) (k:Bel B b c):Bel B a c:=
 ⟨k.os.trans h.os,k.tape.trans h.tape,k.output.trans h.output,zfl h.size k.size,fun i hi=>(k.block i hi).trans (h.block i hi),zfl h.drawn k.drawn⟩
theorem Bel.mono {B' : Nat} (h:Bel B w w') (hB:B'≤B):Bel B' w w':=⟨h.os,h.tape,h.output,h.size,fun k hk=>h.block k (Nat.lt_of_lt_of_le hk hB),h.drawn⟩
theorem Bel.alloc {a: World} (h:Bel B a w) (hB:B≤w.heap.size) (o:Obj):Bel B a (w.alloc o):=
 h.trans ⟨rfl,rfl,rfl,by simp,fun k hk=>Below.heap_alloc _ _ _ zW,zbR _⟩
structure St (h0:Heap) (w0:World) (h:Heap) (w:World) (own:Own):Prop where
 le:Le h0 h
 new:∀ b,b<w0.heap.size→h b=h0 b
 sub:Sub h w
 below:Bel w0.heap.size w0 w
 mine:∀ p∈own.flatten,w.heap[p.1]?=some p.2∧h p.1=none∧w0.heap.size≤p.1
 nodup:(own.flatten.map (·.1)).Nodup
section
variable {h0 h h':Heap} {w0 w w':World} {own own':Own}
theorem St.start (hs:Sub h w):St h w h w []:=⟨Le.refl h,fun _ _=>rfl,hs,Bel.refl _ _,by simp,by simp⟩
theorem zgU {w:World} {o:Obj} (h:w.heap[b]?=some o):b<w.heap.size:=by
 rcases zcO b w.heap.size with h1|h1
 ·exact h1
 rw[Array.getElem?_eq_none h1] at h;cases h
theorem St.call (st:St h0 w0 h w own) (s:St h w h' w' own'):St h0 w0 h' w' (own++own'):=by
 refine ⟨st.le.trans s.le,fun b hb=>?_,s.sub,st.below.trans (s.below.mono st.below.size),?_,?_⟩
 ·rw[s.new b (Nat.lt_of_lt_of_le hb st.below.size),st.new b hb]
 ·intro p hp;rw[zdf,zcq] at hp
  rcases hp with hp|hp
  ·obtain ⟨a1,a2,a3⟩:=st.mine p hp;have hlt:=zgU a1;exact ⟨by rw[s.below.block _ hlt];exact a1,by rw[s.new _ hlt];exact a2,a3⟩
  ·obtain ⟨a1,a2,a3⟩:=s.mine p hp;exact ⟨a1,a2,zfl st.below.size a3⟩
 rw[zdf,zaz,zcx];refine ⟨st.nodup,s.nodup,?_⟩;intro a ha b hb e;subst e;simp only[zbk] at ha hb;obtain ⟨p,hp,rfl⟩:=ha;obtain ⟨q,hq,e⟩:=hb;have h1:=zgU (st.mine p hp).1;have h2:=(s.mine q hq).2.2;omega
theorem St.call0 (st:St h0 w0 h w own) (s:St h w h' w' []):St h0 w0 h' w' own:=by
 have:=st.call s;rwa [zbL] at this
theorem St.same (st:St h0 w0 h w own) (e:w'.heap=w.heap) (e1:w'.os=w.os) (e2:w'.tape=w.tape) (e3:w'.output=w.output) (e4:w.drawn≤w'.drawn):St h0 w0 h w' own:=by
 refine ⟨st.le,st.new,fun b o hb=>by rw[e];exact st.sub b o hb,st.below.trans ⟨e1,e2,e3,by rw[e];exact zbR _,fun k _=>by rw[e],e4⟩,fun p hp=>by rw[e];exact st.mine p hp,st.nodup⟩
theorem St.drew (st:St h0 w0 h w own):St h0 w0 h w.drew own:=st.same rfl rfl rfl rfl (Nat.le_succ _)
theorem zwO (hs:Sub h w) (hb:w.heap.size≤b):h b=none:=by
 cases e:h b with
 | none=>rfl
 | some o=>have:=zgU (hs b o e);omega
theorem zpj (w:World) (o:Obj) (k:Nat) (h:k<w.heap.size):(w.alloc o).heap[k]?=w.heap[k]?:=Below.heap_alloc w o k h
theorem zrI (w:World) (o:Obj):(w.alloc o).heap[w.heap.size]?=some o:=by
 show (w.heap.push o)[w.heap.size]?=_;simp
theorem St.alloc (st:St h0 w0 h w own) (o:Obj):St h0 w0 h (w.alloc o) (own++[[(w.heap.size,o)]]):=by
 refine st.call ⟨Le.refl h,fun _ _=>rfl,fun b o hb=>?_,(Bel.refl _ _).alloc (zbR _) o,?_,by simp⟩
 ·rw[zpj _ _ _ (zgU (st.sub b o hb))];exact st.sub b o hb
 intro p hp;simp at hp;subst hp;exact ⟨zrI w o,zwO st.sub (zbR _),zbR _⟩
theorem St.freeze (st:St h0 w0 h w own) {k:Nat} {o:Obj} (hk:own[k]?=some [(b,o)]):
  ∃ h',Le h h'∧h' b=some o∧St h0 w0 h' w (own.set k []):=by
 have hmem:(b,o)∈own.flatten:=List.mem_flatten.2 ⟨_,zD hk,by simp⟩;obtain ⟨a1,a2,a3⟩:=st.mine _ hmem;simp only at a1 a2 a3;have hle:Le h (h.put b o):=fun i q hq=>by
  by_cases e:i=b
  ·subst e;rw[a2] at hq;cases hq
  ·rw[Heap.put_ne _ _ _ _ e];exact hq
 have hlt:k<own.length:=by
  rcases zcO k own.length with h1|h1
  ·exact h1
  ·rw[zbF h1] at hk;cases hk
 have hsplit:own=own.take k++[(b,o)]::own.drop (k+1):=by
  have h1:own[k]=[(b,o)]:=by rw[zn hlt] at hk;simpa using hk
  rw[← h1,zhM hlt,zbS]
 have hset:own.set k []=own.take k++[]::own.drop (k+1):=by
  rw[zce,zab hlt]
 have hflat:(own.set k []).flatten=(own.take k).flatten++(own.drop (k+1)).flatten:=by rw[hset];simp
 have hflat':own.flatten=(own.take k).flatten++(b,o)::(own.drop (k+1)).flatten:=by
  conv=>lhs;rw[hsplit]
  simp
 have hnd:=st.nodup;rw[hflat'] at hnd;simp only[zaz,zbQ] at hnd;rw[zcx] at hnd;obtain ⟨n1,n2,n3⟩:=hnd;rw[zgb] at n2;refine ⟨h.put b o,hle,Heap.put_same _ _ _,st.le.trans hle,fun i hi=>?_,fun i q hq=>?_,st.below,?_,?_⟩
 ·rw[Heap.put_ne _ _ _ _ zW];exact st.new i hi
 ·by_cases e:i=b
  ·subst e;rw[Heap.put_same] at hq;cases hq;exact a1
  ·rw[Heap.put_ne _ _ _ _ e] at hq;exact st.sub i q hq
 ·intro p hp;rw[hflat] at hp;have hp':p∈own.flatten:=by
   rw[hflat'];simp only[zcq,zaV] at hp ⊢
   rcases hp with hp|hp
   ·exact .inl hp
   ·exact .inr (.inr hp)
  obtain ⟨c1,c2,c3⟩:=st.mine p hp';refine ⟨c1,?_,c3⟩;have hne:p.1≠b:=by
   rintro e;rw[zcq] at hp
   rcases hp with hp|hp
   ·exact n3 _ (zdq hp) _ (zct ..) e
   ·exact n2.1 (e▸zdq hp)
  rw[Heap.put_ne _ _ _ _ hne];exact c2
 ·rw[hflat,zaz,zcx];exact ⟨n1,n2.2,fun a ha c hc=>n3 a ha c (zcH _ hc)⟩
theorem St.drop (st:St h0 w0 h w own) (k:Nat):St h0 w0 h w (own.set k []):=by
 have hsub:(own.set k []).flatten.Sublist own.flatten:=by
  by_cases hlt:k<own.length
  ·have hset:own.set k []=own.take k++[]::own.drop (k+1):=by
    rw[zce,zab hlt]
   have hsplit:own=own.take k++own[k]::own.drop (k+1):=by
    rw[zhM hlt,zbS]
   have hf:own.flatten=(own.take k).flatten++(own[k]++(own.drop (k+1)).flatten):=by
    have e:=zcE List.flatten hsplit;rw[zdf,zfQ] at e;exact e
   rw[hset,hf];simp only[zdf,zfQ,zcM];exact (List.Sublist.refl _).append (List.sublist_append_right _ _)
  ·rw[List.set_eq_of_length_le zW];exact List.Sublist.refl _
 exact ⟨st.le,st.new,st.sub,st.below,fun p hp=>st.mine p (hsub.subset hp),(hsub.map _).nodup st.nodup⟩
theorem St.get (st:St h0 w0 h w own) {k: Nat} {o:Obj} (hk:own[k]?=some [(b,o)]):w.heap[b]?=some o:=
 (st.mine (b,o) (List.mem_flatten.2 ⟨_,zD hk,by simp⟩)).1
theorem zzj {w:World} {o:Obj} (hb:b<w.heap.size):({ w with heap:=w.heap.setIfInBounds b o }:World).heap[b]?=some o:=by
 simp[hb]
theorem St.set (st:St h0 w0 h w own) {k b:Nat} {o:Obj} (o':Obj) (hk:own[k]?=some [(b,o)]):
  St h0 w0 h { w with heap:=w.heap.setIfInBounds b o' } (own.set k [(b,o')]):=by
 have hmem:(b,o)∈own.flatten:=List.mem_flatten.2 ⟨_,zD hk,by simp⟩;obtain ⟨a1,a2,a3⟩:=st.mine _ hmem;simp only at a1 a2 a3;have hlt:k<own.length:=by
  rcases zcO k own.length with h1|h1
  ·exact h1
  ·rw[zbF h1] at hk;cases hk
 have hsplit:own=own.take k++[(b,o)]::own.drop (k+1):=by
  have h1:own[k]=[(b,o)]:=by rw[zn hlt] at hk;simpa using hk
  rw[← h1,zhM hlt,zbS]
 have hset:own.set k [(b,o')]=own.take k++[(b,o')]::own.drop (k+1):=by
  rw[zce,zab hlt]
 have hflat':own.flatten=(own.take k).flatten++(b,o)::(own.drop (k+1)).flatten:=by
  conv=>lhs;rw[hsplit]
  simp
 have hflat:(own.set k [(b,o')]).flatten=(own.take k).flatten++(b,o')::(own.drop (k+1)).flatten:=by rw[hset];simp
 have hnd:=st.nodup;have hnd':=hnd;rw[hflat'] at hnd';simp only[zaz,zbQ] at hnd';have hn3:=(zcx.1 hnd').2.2;have hn2:=(zgb.1 (zcx.1 hnd').2.1).1;have hbs:=zgU a1;have hother:∀ i,i≠b→({ w with heap:=w.heap.setIfInBounds b o' }:World).heap[i]?=w.heap[i]?:=fun i hi=>by
  simp only[zbi (Ne.symm hi)]
 refine ⟨st.le,st.new,fun i q hq=>?_,⟨st.below.os,st.below.tape,st.below.output,by simpa using st.below.size,fun i hi=>?_,st.below.drawn⟩,?_,?_⟩
 ·rw[hother i (by rintro rfl;rw[a2] at hq;cases hq)];exact st.sub i q hq
 ·rw[hother i zW];exact st.below.block i hi
 ·intro p hp;rw[hflat,zcq,zaV] at hp
  rcases hp with hp|rfl|hp
  ·have hne:p.1≠b:=fun e=>hn3 _ (zdq hp) _ (zct ..) e;rw[hother _ hne];exact st.mine p (by rw[hflat'];exact List.mem_append_left _ hp)
  ·exact ⟨zzj hbs,a2,a3⟩
  ·have hne:p.1≠b:=fun e=>hn2 (e▸zdq hp);rw[hother _ hne];exact st.mine p (by rw[hflat'];exact List.mem_append_right _ (zcH _ hp))
 ·rw[hflat];simpa using hnd'
theorem zte {w:World} {c:Array Value} (hb:w.heap[b]?=some (.cells c T fr)):
  w.setCell ⟨b,off,none⟩ v={ w with heap:=w.heap.setIfInBounds b (.cells (c.setIfInBounds off v) T fr) }:=by
 have hlt:=zgU hb;have hb':w.heap[b]=.cells c T fr:=by rw[zcr hlt] at hb;simpa using hb
 simp only[World.setCell,zhe,zbd,if_false];congr 1;apply zhg;intro i;rw[Array.getElem?_modify,zhu]
 by_cases e:b=i
 ·subst e;simp[hlt,hb']
 ·simp[e]
end
structure Lay (α:Type) where
 size:Nat
 R:Heap→List Value→α→Prop
 up:∀ {h h':Heap} {vs:List Value} {x:α},R h vs x→Le h h'→R h' vs x
 len:∀ {h:Heap} {vs:List Value} {x:α},R h vs x→vs.length=size
 one:∀ {h:Heap} {vs:List Value} {x:α},R h vs x→∀ u∈vs,u.oneCell'=true
variable {L:Lay α}
def zaL (h:Heap) (b off:Nat) (vs:List Value):Prop:=∃ c T fr,h b=some (.cells c T fr)∧∀ j v,vs[j]?=some v→c[off+j]?=some v
theorem zaL.up {h' : Heap} (hc:zaL h b off vs) (hl:Le h h'):zaL h' b off vs:=by
 obtain ⟨c,T,fr,hb,hv⟩:=hc;exact ⟨c,T,fr,hl _ _ hb,hv⟩
theorem zaL.cell {h:Heap} {w:World} {b off:Nat} {vs:List Value} (hc:zaL h b off vs) (hs:Sub h w) {j:Nat} {v:Value} (hv:vs[j]?=some v):w.cell? ⟨b,off+j,none⟩=some v:=by
 obtain ⟨c,T,fr,hb,hcv⟩:=hc;simp only[World.cell?,hs _ _ hb,zhe,zbd,if_false];exact hcv j v hv
def big:Nat:=2 ^ 48
def Sl {α:Type} (L:Lay α) (h:Heap) (v:Value) (xs:List α):Prop:=
 ∃ p c,v=.slice p xs.length c∧(xs.length≤big∧xs.length≤c)∧(xs=[]∨∃ b off,p=some ⟨b,off,none⟩∧∀ i x,xs[i]?=some x→∃ vs,zaL h b (off+i*L.size) vs∧L.R h vs x)
theorem Sl.up {α:Type} {L:Lay α} {h h':Heap} {v:Value} {xs:List α} (hs:Sl L h v xs) (hl:Le h h'):Sl L h' v xs:=by
 obtain ⟨p,c,hv,hb,he⟩:=hs;refine ⟨p,c,hv,hb,?_⟩
 rcases he with he|⟨b,off,hp,hx⟩
 ·exact .inl he
 exact .inr ⟨b,off,hp,fun i x hi=>let ⟨vs,h1,h2⟩:=hx i x hi;⟨vs,h1.up hl,L.up h2 hl⟩⟩
theorem Sl.nil (L:Lay α) (h:Heap):Sl L h (.slice none 0 0) []:=⟨none,0,rfl,⟨zfg _,zfg _⟩,.inl rfl⟩
theorem Sl.le (hs:Sl L h v xs):xs.length≤281474976710656:=hs.choose_spec.choose_spec.2.1.1
abbrev Str:=List UInt8
variable {s:Str}
def zae (s:Str):Value:=.string ⟨s.toArray⟩
def zeg:Lay Int:={ size:=1,R:=fun _ vs x=>vs=[.int .i64 x],up:=fun h _=>h,len:=by rintro _ _ _ rfl;rfl,one:=by rintro _ _ _ rfl u hu;simp at hu;subst hu;rfl }
def LU8:Lay Int:={ size:=1,R:=fun _ vs x=>vs=[.int .u8 x]∧0≤x∧x≤255,up:=fun h _=>h,len:=by rintro _ _ _ ⟨rfl,_⟩;rfl,one:=by rintro _ _ _ ⟨rfl,_⟩ u hu;simp at hu;subst hu;rfl }
def zea:Lay Str:={ size:=1,R:=fun _ vs x=>vs=[zae x]∧x.length≤big,up:=fun h _=>h,len:=by rintro _ _ _ ⟨rfl,_⟩;rfl,one:=by rintro _ _ _ ⟨rfl,_⟩ u hu;simp at hu;subst hu;rfl }
theorem Sl.one (hs:Sl L h v xs):v.oneCell'=true:=by
 obtain ⟨p,c,rfl,_⟩:=hs;rfl
def LSl {α:Type} (L:Lay α):Lay (List α):={ size:=1,R:=fun h vs xs=>∃ v,vs=[v]∧Sl L h v xs,up:=fun ⟨v,e,h⟩ hl=>⟨v,e,h.up hl⟩,len:=by rintro _ _ _ ⟨v,rfl,_⟩;rfl,one:=by rintro _ _ _ ⟨v,rfl,hs⟩ u hu;simp at hu;subst hu;exact hs.one }
theorem zik (b off k:Nat):(⟨b,off,none⟩:Addr).add k=⟨b,off+k,none⟩:=by
 unfold Addr.add;split
 ·rename_i h;subst h;rfl
 rfl
section
variable {P:Program} {σ:Env} {w:World} {ty:TypeId} {pos:String} {aft:Array Edge} {g:Option (Nat×Bool)} {dst:Option Tmp}
abbrev Run (P:Program) (σ:Env) (w:World) (o:Oper) (v:Value) (w':World):Prop:=(execOp (ev σ) o).run P w=.ok (.value v) w'
theorem znt (hv:ev σ x=v):Run P σ w ⟨dst,.move x,ty,pos,aft,g⟩ v w:=by subst hv;rfl
theorem zbw (v:Value) (hE_:ev σ x=v):Run P σ w ⟨dst,.move x,ty,pos,aft,g⟩ v w:=znt hE_
theorem zmq (hv:ev σ x=v):Run P σ w ⟨dst,.assign x,ty,pos,aft,g⟩ v w:=by subst hv;rfl
theorem zEE {c a b:Operand} {t:Bool} (hc:ev σ c=.bool t) (hv:(bif t then ev σ a else ev σ b)=v):Run P σ w ⟨dst,.pick c a b,ty,pos,aft,g⟩ v w:=by
 subst hv;cases t <;> simp[Run,execOp,hc,asBool]
theorem zGN {t: TypeId} {k:IntKind} {b: Int} (hx:ev σ x=.int k a) (hy:ev σ y=.int k b):Run P σ w ⟨dst,.binOp .lss t x y t',ty,pos,aft,g⟩ (.bool (decide (a<b))) w:=by
 simp[Run,execOp,hx,hy,eqGuard,binOp,Op.intCmp]
theorem zpI {t: TypeId} {k:IntKind} {b: Int} (hx:ev σ x=.int k a) (hy:ev σ y=.int k b):Run P σ w ⟨dst,.binOp .leq t x y t',ty,pos,aft,g⟩ (.bool (decide (a≤b))) w:=by
 simp[Run,execOp,hx,hy,eqGuard,binOp,Op.intCmp]
theorem zGO {t: TypeId} {k:IntKind} {b: Int} (hx:ev σ x=.int k a) (hy:ev σ y=.int k b):Run P σ w ⟨dst,.binOp .gtr t x y t',ty,pos,aft,g⟩ (.bool (decide (b<a))) w:=by
 simp[Run,execOp,hx,hy,eqGuard,binOp,Op.intCmp]
theorem zHP {t: TypeId} {k:IntKind} {b: Int} (hx:ev σ x=.int k a) (hy:ev σ y=.int k b):Run P σ w ⟨dst,.binOp .geq t x y t',ty,pos,aft,g⟩ (.bool (decide (b≤a))) w:=by
 simp[Run,execOp,hx,hy,eqGuard,binOp,Op.intCmp]
theorem zzQ (a b:Int):(a == b)=decide (a=b):=by
 by_cases h:a=b
 ·subst h;simp
 simp[h]
theorem zGP {t: TypeId} {k:IntKind} {b: Int} (hx:ev σ x=.int k a) (hy:ev σ y=.int k b):Run P σ w ⟨dst,.binOp .eql t x y t',ty,pos,aft,g⟩ (.bool (decide (a=b))) w:=by
 simp[Run,execOp,hx,hy,eqGuard,binOp,Op.intCmp,zzQ]
theorem zGM {t: TypeId} {k:IntKind} {b: Int} (hx:ev σ x=.int k a) (hy:ev σ y=.int k b):Run P σ w ⟨dst,.binOp .neq t x y t',ty,pos,aft,g⟩ (.bool (decide (a≠b))) w:=by
 simp[Run,execOp,hx,hy,eqGuard,binOp,Op.intCmp,zzQ,bne]
theorem zkU {t: TypeId} {b: Int} (hx:ev σ x=.int .i64 a) (hy:ev σ y=.int .i64 b) (hb:-9223372036854775808≤a+b∧a+b≤9223372036854775807):Run P σ w ⟨dst,.binOp .add t x y t',ty,pos,aft,g⟩ (.int .i64 (a+b)) w:=by
 simp[Run,execOp,hx,hy,eqGuard,binOp,Op.intArith,IntWalk.i64_in _ hb]
theorem zpf {t: TypeId} {b: Int} (hx:ev σ x=.int .i64 a) (hy:ev σ y=.int .i64 b) (hb:-9223372036854775808≤a-b∧a-b≤9223372036854775807):Run P σ w ⟨dst,.binOp .sub t x y t',ty,pos,aft,g⟩ (.int .i64 (a-b)) w:=by
 simp[Run,execOp,hx,hy,eqGuard,binOp,Op.intArith,IntWalk.i64_in _ hb]
theorem zpH {t:TypeId} {b:Bool} (hx:ev σ x=.bool b):Run P σ w ⟨dst,.unOp .not t x,ty,pos,aft,g⟩ (.bool (!b)) w:=by
 simp[Run,execOp,hx,Op.unary]
theorem ziO (s:Str):(⟨s.toArray⟩:ByteArray).toList=s:=by rw[ByteArray.toList_eq]
theorem zzP (s t:Str):(s == t)=decide (s=t):=by
 by_cases h:s=t
 ·subst h;simp
 simp[h]
theorem zEC {t: TypeId} {a b:Str} (hx:ev σ x=zae a) (hy:ev σ y=zae b):Run P σ w ⟨dst,.binOp .eql t x y t',ty,pos,aft,g⟩ (.bool (decide (a=b))) w:=by
 simp only[zae] at hx hy;simp[Run,execOp,hx,hy,eqGuard,binOp,Op.stringOp,zzP]
theorem zpg {t: TypeId} {a b:Str} (hx:ev σ x=zae a) (hy:ev σ y=zae b):Run P σ w ⟨dst,.binOp .neq t x y t',ty,pos,aft,g⟩ (.bool (decide (a≠b))) w:=by
 simp only[zae] at hx hy;simp[Run,execOp,hx,hy,eqGuard,binOp,Op.stringOp,zzP]
theorem zEB {t: TypeId} {a b:Str} (hx:ev σ x=zae a) (hy:ev σ y=zae b):Run P σ w ⟨dst,.binOp .lss t x y t',ty,pos,aft,g⟩ (.bool (Op.bytesLess a b)) w:=by
 simp only[zae] at hx hy;simp[Run,execOp,hx,hy,eqGuard,binOp,Op.stringOp]
theorem zED {t: TypeId} {a b:Str} (hx:ev σ x=zae a) (hy:ev σ y=zae b) (hl:a.length+b.length≤9223372036854775807):Run P σ w ⟨dst,.binOp .add t x y t',ty,pos,aft,g⟩ (zae (a++b)) w:=by
 simp only[zae] at hx hy;have h2:(⟨a.toArray⟩:ByteArray)++⟨b.toArray⟩=⟨(a++b).toArray⟩:=by
  apply WideShapes.bytes_inj;simp
 simp[Run,execOp,hx,hy,eqGuard,binOp,Op.stringOp,h2,zae,ByteArray.size];omega
theorem zFD (f:Operand→Value) (xs:Array Operand):xs.map f=(xs.toList.map f).toArray:=by
 apply Array.ext';simp
theorem zpb {o:Oper} {b:Builtin} (ho:o.op=.call ⟨.builtin b,args,ats⟩) (hv:args.toList.map (ev σ)=vs) (hb:∀ cs,(builtin b ats o.type cs vs.toArray).run P w=.ok (.value v) w'):Run P σ w o v w':=by
 subst hv;unfold Run execOp;simp only[ho,resolve,zFD,Sem.run_bind,Sem.run_pure,Result.andThen_ok,invoke];exact hb _
theorem zyJ {t:TypeId} (hx:ev σ x=zae s) (hu:P.underlying t=some .string):
  Run P σ w ⟨dst,.call ⟨.builtin .len,#[x],#[t]⟩,ty,pos,aft,g⟩ (.int .i64 s.length) w:=by
 refine zpb rfl (vs:=[zae s]) (by simp[hx]) fun cs=>?_;simp only[builtin,Sem.run_bind,Sem.run_pure,Result.andThen_ok,run_len_string w t ty _ hu,zae];simp[goInt,ByteArray.size]
theorem zwH {t: TypeId} {a:Option Addr} {c: Nat} (hx:ev σ x=.slice a n c) (hu:P.underlying t=some (.slice e)):
  Run P σ w ⟨dst,.call ⟨.builtin .len,#[x],#[t]⟩,ty,pos,aft,g⟩ (.int .i64 n) w:=by
 refine zpb rfl (vs:=[.slice a n c]) (by simp[hx]) fun cs=>?_;have hu':P.underlying t=some (.slice (P.elem t)):=by simp[Program.elem,hu]
 simp only[builtin,Sem.run_bind,Sem.run_pure,Result.andThen_ok,run_len_slice w t ty _ _ _ hu',goInt]
theorem zrE {t: TypeId} (hs:Sl L h v xs) (hx:ev σ x=v) (hu:P.underlying t=some (.slice e)):
  Run P σ w ⟨dst,.call ⟨.builtin .len,#[x],#[t]⟩,ty,pos,aft,g⟩ (.int .i64 xs.length) w:=by
 obtain ⟨p,c,rfl,_⟩:=hs;exact zwH hx hu
theorem zpJ {t:TypeId} {k:Nat} {b:UInt8} (hx:ev σ x=zae s) (hi:ev σ ix=.int .i64 i) (hk:i=(k:Int)) (hb:s[k]?=some b) (hu:P.underlying t=some .string):
  Run P σ w ⟨dst,.index t x ix,ty,pos,aft,g⟩ (.int .u8 b.toNat) w:=by
 subst hk;simp only[zae] at hx;have h1:(({ data:=s.toArray }:ByteArray)[k]?:Option UInt8)=some b:=by
  obtain ⟨h1,h2⟩:=k_List_getElem__eq_some_iff.1 hb;have h3:k<(⟨s.toArray⟩:ByteArray).size:=by simpa [ByteArray.size] using h1
  rw[getElem?_pos (⟨s.toArray⟩:ByteArray) k h3];exact zcE some (by simpa [ByteArray.getElem_eq_getElem_data] using h2)
 simp[Run,execOp,hx,hi,Instr.index,asIntOf,run_underlying hu,h1]
theorem zqK {s:TypeId} {k: Nat} {f:Field} (hx:ev σ x=.pointer (some ⟨b,off,none⟩)) (hu:P.underlying s=some (.struct fs)) (hf:fs[k]?=some f) (hz:∀ w,(sizeOf f.type).run P w=.ok (m+1) w) (ho:off+f.offset=off'):
  Run P σ w ⟨dst,.fieldAddr s x k,ty,pos,aft,g⟩ (.pointer (some ⟨b,off',none⟩)) w:=by
 subst ho;simp[Run,execOp,hx,Instr.fieldAt,run_underlying hu,hf,Instr.sureAddr,fieldPlace,hz,zik]
theorem zh {s:TypeId} {k: Nat} {f:Field} (hu:P.underlying s=some (.struct fs)) (hE_:(ev σ x,fs[k]?,off+f.offset)=(.pointer (some ⟨b,off,none⟩),some f,off')) (hz:∀ w,(sizeOf f.type).run P w=.ok (m+1) w):Run P σ w ⟨dst,.fieldAddr s x k,ty,pos,aft,g⟩ (.pointer (some ⟨b,off',none⟩)) w:=zqK (zfH hE_) hu (zfH (zcA hE_)) hz (zcA (zcA hE_))
theorem zzp {t:TypeId} (hx:ev σ x=.pointer (some ⟨b,off,none⟩)) (ha:∀ w,(isAgg t).run P w=.ok false w) (hc:w.cell? ⟨b,off,none⟩=some v):
  Run P σ w ⟨dst,.load t x,ty,pos,aft,g⟩ v w:=by
 simp[Run,execOp,hx,Instr.loadAt,Instr.sureAddr,loadVar,ha,hc]
theorem zwj {t:TypeId} (hx:ev σ x=.pointer (some ⟨b,off,none⟩)) (ha:∀ w,(isAgg t).run P w=.ok true w) (hz:∀ w,(sizeOf t).run P w=.ok n w) (hn:vs.length=n) (hc:∀ j v,vs[j]?=some v→w.cell? ⟨b,off+j,none⟩=some v):
  Run P σ w ⟨dst,.load t x,ty,pos,aft,g⟩ (.agg vs.toArray) w:=by
 subst hn;have hl:=run_loadCells_list (P:=P) (w:=w) ⟨b,off,none⟩ vs (fun j v hj=>by rw[zik];exact hc j v hj);simp[Run,execOp,hx,Instr.loadAt,Instr.sureAddr,loadVar,ha,hz,hl]
theorem zpY (hs:Sub h w) {t:TypeId} (hc:zaL h b off vs) (hx:ev σ x=.pointer (some ⟨b,off',none⟩)) (ho:off'=off+j) (hv:vs[j]?=some v) (ha:∀ w,(isAgg t).run P w=.ok false w):
  Run P σ w ⟨dst,.load t x,ty,pos,aft,g⟩ v w:=by
 subst ho;exact zzp hx ha (hc.cell hs hv)
theorem zm {t:TypeId} (j:Nat) (hs:Sub h w) (hc:zaL h b off vs) (ha:∀ w,(isAgg t).run P w=.ok false w) (hE_:(ev σ x,off',vs[j]?)=(.pointer (some ⟨b,off',none⟩),off+j,some v)):Run P σ w ⟨dst,.load t x,ty,pos,aft,g⟩ v w:=zpY hs hc (zfH hE_) (zfH (zcA hE_)) (zcA (zcA hE_)) ha
theorem zhK (hs:Sub h w) {t:TypeId} (hc:zaL h b off vs) (hx:ev σ x=.pointer (some ⟨b,off',none⟩)) (ho:off'=off+j) (ha:∀ w,(isAgg t).run P w=.ok true w) (hz:∀ w,(sizeOf t).run P w=.ok n w) (hu:(vs.drop j).take n=us) (hn:us.length=n):
  Run P σ w ⟨dst,.load t x,ty,pos,aft,g⟩ (.agg us.toArray) w:=by
 subst ho;refine zwj hx ha hz hn ?_;intro i v hi;subst hu;rw[Nat.add_assoc];refine hc.cell hs ?_;rw[zaR] at hi;split at hi
 ·rwa [zdL] at hi
 ·cases hi
theorem zbv {t:TypeId} (j:Nat) (us:List Value) (hs:Sub h w) (hc:zaL h b off vs) (ha:∀ w,(isAgg t).run P w=.ok true w) (hz:∀ w,(sizeOf t).run P w=.ok n w) (hE_:(ev σ x,off',(vs.drop j).take n,us.length)=(.pointer (some ⟨b,off',none⟩),off+j,us,n)):Run P σ w ⟨dst,.load t x,ty,pos,aft,g⟩ (.agg us.toArray) w:=zhK hs hc (zfH hE_) (zfH (zcA hE_)) ha hz (zfH (zcA (zcA hE_))) (zcA (zcA (zcA hE_)))
theorem zha {k:Nat} (hx:ev σ x=.tuple vs.toArray) (hv:vs[k]?=some v):Run P σ w ⟨dst,.extract x k,ty,pos,aft,g⟩ v w:=by
 simp[Run,execOp,hx,Instr.extract,hv]
theorem ztX {t:TypeId} {lo: Operand} {k:Nat} (hx:ev σ x=zae s) (hi:ev σ lo=.int .i64 i) (hk:i=(k:Int)) (hle:k≤s.length) (hu:P.underlying t=some .string):
  Run P σ w ⟨dst,.slice t x (some lo) none none,ty,pos,aft,g⟩ (zae (s.drop k)) w:=by
 subst hk;simp only[zae] at hx ⊢;have h2:(⟨s.toArray⟩:ByteArray).extract k s.length=⟨(s.drop k).toArray⟩:=by
  apply WideShapes.bytes_inj;simp;exact zS (by simp)
 have:=run_slice_string_l (P:=P) (w:=w) (t:=t) (s:=⟨s.toArray⟩) hu .i64 k zW (by simp[ByteArray.size];exact hle);unfold Run execOp;simp only[hx,hi,zck,Option.map_none,Sem.run_bind,run_sliceAt_string w t _ _ _ _ hu,this,Result.andThen_ok,Sem.run_pure];simp[ByteArray.size,h2]
theorem zwG {t:TypeId} {hi_: Operand} {k:Nat} (hx:ev σ x=zae s) (hi:ev σ hi_=.int .i64 i) (hk:i=(k:Int)) (hle:k≤s.length) (hu:P.underlying t=some .string):
  Run P σ w ⟨dst,.slice t x none (some hi_) none,ty,pos,aft,g⟩ (zae (s.take k)) w:=by
 subst hk;simp only[zae] at hx ⊢;have h2:(⟨s.toArray⟩:ByteArray).extract 0 k=⟨(s.take k).toArray⟩:=by
  apply WideShapes.bytes_inj;simp
 have:=run_slice_string_h (P:=P) (w:=w) (t:=t) (s:=⟨s.toArray⟩) hu .i64 k zW (by simp[ByteArray.size];exact hle);unfold Run execOp;simp only[hx,hi,zck,Option.map_none,Sem.run_bind,run_sliceAt_string w t _ _ _ _ hu,this,Result.andThen_ok,Sem.run_pure];simp[h2]
theorem zGQ (hx:ev σ x=v) (hc:v.cells=cs.toArray):
  Run P σ w ⟨dst,.box e x,ty,pos,aft,g⟩ (.pointer (some ⟨w.heap.size,0,none⟩)) (w.alloc (.cells cs.toArray e)):=by
 simp[Run,execOp,hx,Instr.box,newVar,newRow,hc]
theorem zCB (hz:∀ w,(zeroValue e).run P w=.ok z w) (hc:z.cells=cs.toArray):
  Run P σ w ⟨dst,.alloc e,ty,pos,aft,g⟩ (.pointer (some ⟨w.heap.size,0,none⟩)) (w.alloc (.cells cs.toArray e)):=by
 simp[Run,execOp,Instr.alloc,hz,newVar,newRow,hc]
theorem zdT {t:TypeId} (hb:P.built t (parts.toList.map fun p=>(p.1,ev σ p.2))=some cs.toArray):
  Run P σ w ⟨dst,.build t parts,ty,pos,aft,g⟩ (.agg cs.toArray) w:=by
 have:=run_build (P:=P) w t (parts.map fun p=>(p.1,ev σ p.2)) cs.toArray (by rw[Array.toList_map];exact hb);simp[Run,execOp,this]
theorem zAE {fn:Fn} {first captured:Array Operand} {fs: List Value} (hf:first.toList.map (ev σ)=fs) (hc:captured.toList.map (ev σ)=cs):
  Run P σ w ⟨dst,.makeFunc fn first captured,ty,pos,aft,g⟩ (.func fn fs.toArray cs.toArray) w:=by
 subst hf;subst hc;simp[Run,execOp,Instr.makeFunc,zFD]
theorem zdH {a:Addr} (hx:ev σ x=.pointer (some a)):Run P σ w ⟨dst,.nilCheck x,ty,pos,aft,g⟩ (.pointer (some a)) w:=by
 simp[Run,execOp,hx]
theorem zkH {s d:TypeId} {k k':IntKind} {n m:Int} (hx:ev σ x=.int k n) (hs:(P.underlying s).isSome=true) (hu:P.underlying d=some (.int k')) (hm:k'.wrap n=m):
  Run P σ w ⟨dst,.convert s d x,ty,pos,aft,g⟩ (.int k' m) w:=by
 subst hm;cases e:P.underlying s with
 | none=>rw[e] at hs;cases hs
 | some ds=>simp[Run,execOp,convert,run_underlying e,run_underlying hu,hx,Conv.intToInt]
end
theorem zcT {o:Oper} (ho:o.op=.call ⟨.value (.func f),args,ats⟩) (hf:∀ a w,(callFunc f a).run P w=.ok (.enter f a) w) (hv:args.toList.map (ev σ)=vs):(execOp (ev σ) o).run P w=.ok (.enter f vs.toArray) w:=by
 subst hv;simp[execOp,ho,resolve,Deferred.ofValue,ev,invoke,hf,zFD]
theorem zfk {o:Oper} {fs: List Value} (ho:o.op=.call ⟨.value x,args,ats⟩) (hx:ev σ x=.func (.func f) fs.toArray cs.toArray) (hf:∀ a w,(callFunc f a).run P w=.ok (.enter f a) w) (hv:fs++args.toList.map (ev σ)++cs=vs):(execOp (ev σ) o).run P w=.ok (.enter f vs.toArray) w:=by
 subst hv;simp[execOp,ho,resolve,Deferred.ofValue,hx,invoke,hf,zFD]
def zuf (a b:Int):Int:=if b > a then b else a
def zBY (a b:Int):Int:=if b<a then b else a
section
variable {P:Program} {σ:Env} {w:World} {ty:TypeId} {pos:String} {aft:Array Edge} {g:Option (Nat×Bool)} {dst:Option Tmp}
theorem zEG {k:IntKind} {b: Int} (hx:ev σ x=.int k a) (hy:ev σ y=.int k b):Run P σ w ⟨dst,.call ⟨.builtin .max,#[x,y],ats⟩,ty,pos,aft,g⟩ (.int k (zuf a b)) w:=by
 refine zpb rfl (vs:=[.int k a,.int k b]) (by simp[hx,hy]) fun cs=>?_;simp[builtin,run_max_int2,zuf]
theorem zEF {k:IntKind} {b: Int} (hx:ev σ x=.int k a) (hy:ev σ y=.int k b):Run P σ w ⟨dst,.call ⟨.builtin .min,#[x,y],ats⟩,ty,pos,aft,g⟩ (.int k (zBY a b)) w:=by
 refine zpb rfl (vs:=[.int k a,.int k b]) (by simp[hx,hy]) fun cs=>?_;simp[builtin,run_min_int2,zBY]
end
def zai (P:Program) (n:Nat) (ops:Array Oper) (C:World→Prop) (l:List Oper) (Kw:Env→Prop) (σ:Env):Prop:=
 ∀ a,Fits n a σ→wpQuiet P ops C (fun a'=>∃ σ',Fits n a' σ'∧Kw σ') l a
def Cls (h:Heap) (w:World):World→Prop:=fun w'=>∃ h',St h w h' w' []
section
variable {P:Program} {n:Nat} {ops:Array Oper} {C:World→Prop} {rest:List Oper} {Kw:Env→Prop} {σ:Env} {w:World}
theorem zci (h:Kw σ):zai P n ops C [] Kw σ:=fun _ ha=>⟨σ,ha,h⟩
theorem zbf {o:Oper} (hg:o.guard=none) (hd:zjw n o.dst=true) (hrun:∀ w,C w→Run P σ w o v w) (h:zai P n ops C rest Kw (updO σ o.dst v)):zai P n ops C (o::rest) Kw σ:=by
 intro a ha;unfold wpQuiet;rw[zab (by simp[Region.wanted,hg])];refine ⟨v,fun w hw=>?_,h _ (ha.put hd v)⟩;unfold Oper.quietAt;rw[ha.eval,hrun w hw];exact ⟨rfl,rfl⟩
theorem zeI {o:Oper} {args:Array Value} (hg:o.guard=none) (hd:zjw n o.dst=true) (hrun:∀ w,(execOp (ev σ) o).run P w=.ok (.enter f args) w) (hc:∀ w,C w→Calls P f args w fun e w'=>e=.returned v∧C w') (h:zai P n ops C rest Kw (updO σ o.dst v)):zai P n ops C (o::rest) Kw σ:=by
 intro a ha;unfold wpQuiet;rw[zab (by simp[Region.wanted,hg])];refine ⟨v,fun w hw=>?_,h _ (ha.put hd v)⟩;unfold Oper.quietAt;rw[ha.eval,hrun w];exact ⟨rfl,hc w hw⟩
theorem zAb {b:Bool} (hg:(ops[g]?).bind (·.dst)=some d) (hd:Nat.blt d n=true) (hv:σ d=.bool b) (h:zai P n ops C (⟨dst,op,type,pos,after,none⟩::rest) Kw σ):zai P n ops C (⟨dst,op,type,pos,after,some (g,b)⟩::rest) Kw σ:=by
 intro a ha;have:=h a ha;unfold wpQuiet at this ⊢;rw[zab (by simp[Region.wanted])] at this;rw[zab (by simp[Region.wanted,zoL ha hg hd hv])];exact this
theorem zc {b:Bool} (hE_:((ops[g]?).bind (·.dst),Nat.blt d n,σ d)=(some d,true,.bool b)) (h:zai P n ops C (⟨dst,op,type,pos,after,none⟩::rest) Kw σ):zai P n ops C (⟨dst,op,type,pos,after,some (g,b)⟩::rest) Kw σ:=zAb (zfH hE_) (zfH (zcA hE_)) (zcA (zcA hE_)) h
theorem zAa {b c:Bool} (hg:(ops[g]?).bind (·.dst)=some d) (hd:Nat.blt d n=true) (hv:σ d=.bool c) (hc:(c == b)=false) (hdst:zjw n dst=true) (h:zai P n ops C rest Kw (updO σ dst undef)):zai P n ops C (⟨dst,op,type,pos,after,some (g,b)⟩::rest) Kw σ:=by
 intro a ha;unfold wpQuiet;rw[zam (by simp[Region.wanted,zoL ha hg hd hv];simpa using hc)];exact h _ (ha.put hdst _)
theorem zjJ {t:Bool} (hv:σ d=.bool t) (h1:t=true→zai P n ops C l Kw (upd σ d (.bool true))) (h2:t=false→zai P n ops C l Kw (upd σ d (.bool false))):zai P n ops C l Kw σ:=by
 cases t with
 | true=>have:=h1 rfl;rwa [zrx _ _ _ hv] at this
 | false=>have:=h2 rfl;rwa [zrx _ _ _ hv] at this
theorem zpU {Q Q':Act→Prop} (hq:∀ a,Q a→Q' a):∀ (l:List Oper) (a:Act),wpQuiet P ops C Q l a→wpQuiet P ops C Q' l a
 | [],a,h=>hq a h
 | o::l,a,h=>by
  unfold wpQuiet at h ⊢;split
  ·rename_i hw;rw[zab hw] at h;exact Oper.quiet_mono (zpU hq l) h
  ·rename_i hw;rw[zam hw] at h;exact zpU hq l _ h
theorem zcY {Q:Exit→Env→World→Prop} {id:Nat} (hm:P.follows .mixedOrders=true) (hB:Region.lexB .any l.toArray=true) (C:World→Prop) (hC:C w.drew) (h:zai P n l.toArray C l (fun σ'=>∀ w',C w'→Q .normal σ' w') σ):W P n (.region id l.toArray true) Q σ w:=by
 intro a ha;refine wp_region_quiet (C:=C) hm hB hC ?_;have h1:=h a ha;show wpQuiet P l.toArray C _ l a;refine zpU ?_ _ _ h1;rintro a' ⟨σ',hf,hk⟩ w' hw';exact ⟨σ',hf,hk w' hw'⟩
end
section
variable {P:Program} {n:Nat} {Q:Exit→Env→World→Prop} {Kw:Env→World→Prop} {σ:Env} {w:World}
theorem zF (h:Kw σ w):zY Kw Q .normal σ w:=h
theorem zfu {id:Nat} (h:Q (.exit id) σ w):zY Kw Q (.exit id) σ w:=h
theorem zN (h:Q .ret σ w):zY Kw Q .ret σ w:=h
theorem zhQ {id:Nat} (h:Q .normal σ w):Blk id Q .normal σ w:=h
theorem zgE {id:Nat} (h:Q .ret σ w):Blk id Q .ret σ w:=h
theorem zls {id:Nat} (h:Q .normal σ w):Blk id Q (.exit id) σ w:=by simp only[Blk,if_true];exact h
theorem zlU {id id':Nat} (hne:Nat.beq id' id=false) (h:Q (.exit id') σ w):Blk id Q (.exit id') σ w:=by
 have:¬ id'=id:=fun e=>by subst e;simp at hne
 simp only[Blk,zam this];exact h
theorem zaI (mods:List Nat) (vals:G→List (Nat×Value)) (I:G→World→Prop) (μ:G→Nat) (g:G) (h0:Has σ (vals g)) (h1:I g w) (round:∀ g τ w,I g w→W P n c (zY (fun σ' w'=>∃ g',Has σ' (vals g')∧zfs mods σ' σ∧I g' w'∧μ g'<μ g) Q) (known (vals g) (mix mods τ σ)) w):W P n (.loop c) Q σ w:=by
 refine zHE (fun g σ' w'=>∃ τ,σ'=known (vals g) (mix mods τ σ)∧I g w') μ g ?_ ?_
 ·obtain ⟨τ,hτ⟩:=zqm (mods:=mods) h0 (zlV mods σ);exact ⟨τ,hτ,h1⟩
 ·rintro g σ' w' ⟨τ,rfl,hI⟩;refine zzU (round g τ w' hI) ?_;intro e σ'' w'' hq;cases e with
  | normal=>
   obtain ⟨g',a1,a2,a3,a4⟩:=hq;obtain ⟨τ',hτ'⟩:=zqm a1 a2;exact ⟨g',⟨τ',hτ',a3⟩,a4⟩
  | _=>exact hq
end
theorem zng {mods:List Nat} {σ' σ:Env}:∀ {l:List (Nat×Value)},(l.all fun p=>inL mods p.1)=true→zfs mods σ' σ→zfs mods (known l σ') σ
 | [],_,h=>h
 | (d,v)::l,hl,h=>by
  simp only[List.all_cons,zK] at hl;exact znf hl.1 (zng hl.2 h)
theorem zfs.trans {mods:List Nat} {a b c:Env} (h:zfs mods a b) (k:zfs mods b c):zfs mods a c:=fun i hi=>(h i hi).trans (k i hi)
theorem zpw (hd:inL mods d=true) (h:zfs mods σ' σ):zfs mods (Pk.updO σ' (some d) v) σ:=znf hd h
def zqz (v:Value) (k s b o:Nat):Prop:=∃ off n c,v=.slice (some ⟨b,off,none⟩) n c∧k<n∧o=off+k*s
theorem Sl.elem {k:Nat} {y:α} (hs:Sl L h v xs) (hy:xs[k]?=some y):∃ b o vs,zqz v k L.size b o∧zaL h b o vs∧L.R h vs y:=by
 obtain ⟨p,c,rfl,_,hh⟩:=hs
 rcases hh with rfl|⟨b,off,rfl,hh⟩
 ·simp at hy
 obtain ⟨vs,hc,hr⟩:=hh k y hy;obtain ⟨h1,_⟩:=k_List_getElem__eq_some_iff.1 hy;exact ⟨b,_,vs,⟨off,_,c,rfl,h1,rfl⟩,hc,hr⟩
section
variable {P:Program} {σ:Env} {w:World} {ty:TypeId} {pos:String} {aft:Array Edge} {g:Option (Nat×Bool)} {dst:Option Tmp}
theorem zcD {t: TypeId} {k s o: Nat} (he:zqz v k s b o) (hx:ev σ x=v) (hi:ev σ ix=.int .i64 i) (hk:i=(k:Int)) (hu:P.underlying t=some (.slice e)) (hz:∀ w,(sizeOf e).run P w=.ok s w):Run P σ w ⟨dst,.indexAddr t x ix,ty,pos,aft,g⟩ (.pointer (some ⟨b,o,none⟩)) w:=by
 obtain ⟨off,m,c,rfl,hlt,rfl⟩:=he;subst hk;have h2:(k:Int)<(m:Int):=by omega
 simp[Run,execOp,hx,hi,Instr.indexAt,asIntOf,run_underlying hu,hz,hlt,zik]
theorem zdW {t: TypeId} {k s o: Nat} (he:zqz v k s b o) (hu:P.underlying t=some (.slice e)) (hz:∀ w,(sizeOf e).run P w=.ok s w) (hE_:(ev σ x,ev σ ix,i)=(v,.int .i64 i,(k:Int))):Run P σ w ⟨dst,.indexAddr t x ix,ty,pos,aft,g⟩ (.pointer (some ⟨b,o,none⟩)) w:=zcD he (zfH hE_) (zfH (zcA hE_)) (zcA (zcA hE_)) hu hz
theorem zho {k:IntKind} (hv:ev σ x=.int k a):Run P σ w ⟨dst,.move x,ty,pos,aft,g⟩ (.int k a) w:=znt hv
theorem znK {a:Bool} (hv:ev σ x=.bool a):Run P σ w ⟨dst,.move x,ty,pos,aft,g⟩ (.bool a) w:=znt hv
theorem zyI {a:Str} (hv:ev σ x=zae a):Run P σ w ⟨dst,.move x,ty,pos,aft,g⟩ (zae a) w:=znt hv
theorem ztY {a:List Value} (hv:ev σ x=.tuple a.toArray):Run P σ w ⟨dst,.move x,ty,pos,aft,g⟩ (.tuple a.toArray) w:=znt hv
theorem zks {a:Option Addr} (hv:ev σ x=.pointer a):Run P σ w ⟨dst,.move x,ty,pos,aft,g⟩ (.pointer a) w:=znt hv
theorem zHO {f:Fn} {a c:Array Value} (hv:ev σ x=.func f a c):Run P σ w ⟨dst,.move x,ty,pos,aft,g⟩ (.func f a c) w:=znt hv
theorem zqj {k:IntKind} (hv:ev σ x=.int k a):Run P σ w ⟨dst,.assign x,ty,pos,aft,g⟩ (.int k a) w:=zmq hv
theorem zvG {a:Bool} (hv:ev σ x=.bool a):Run P σ w ⟨dst,.assign x,ty,pos,aft,g⟩ (.bool a) w:=zmq hv
theorem zCz {a:Str} (hv:ev σ x=zae a):Run P σ w ⟨dst,.assign x,ty,pos,aft,g⟩ (zae a) w:=zmq hv
theorem zHQ {a:Option Addr} (hv:ev σ x=.pointer a):Run P σ w ⟨dst,.assign x,ty,pos,aft,g⟩ (.pointer a) w:=zmq hv
theorem zCA {f:Fn} {a c:Array Value} (hv:ev σ x=.func f a c):Run P σ w ⟨dst,.assign x,ty,pos,aft,g⟩ (.func f a c) w:=zmq hv
theorem zHR {a:Option Addr} {c: Nat} (hv:ev σ x=.slice a m c):Run P σ w ⟨dst,.assign x,ty,pos,aft,g⟩ (.slice a m c) w:=zmq hv
theorem zsj {c a b:Operand} (hc:ev σ c=.bool true) (hv:ev σ a=v):Run P σ w ⟨dst,.pick c a b,ty,pos,aft,g⟩ v w:=zEE hc hv
theorem zoe {c a b:Operand} (hc:ev σ c=.bool false) (hv:ev σ b=v):Run P σ w ⟨dst,.pick c a b,ty,pos,aft,g⟩ v w:=zEE hc hv
theorem zlX {t:TypeId} (hb:w.heap[b]?=some (.cells cs.toArray T fr)) (hx:ev σ x=.pointer (some ⟨b,off,none⟩)) (hv:cs[off]?=some v) (ha:∀ w,(isAgg t).run P w=.ok false w):
  Run P σ w ⟨dst,.load t x,ty,pos,aft,g⟩ v w:=by
 refine zzp hx ha ?_;simp[World.cell?,hb,hv]
theorem zDy {t:TypeId} (hb:w.heap[b]?=some (.cells cs.toArray T fr)) (hx:ev σ x=.pointer (some ⟨b,off,none⟩)) (ha:∀ w,(isAgg t).run P w=.ok true w) (hz:∀ w,(sizeOf t).run P w=.ok m w) (hu:(cs.drop off).take m=us) (hn:us.length=m):Run P σ w ⟨dst,.load t x,ty,pos,aft,g⟩ (.agg us.toArray) w:=by
 refine zwj hx ha hz hn ?_;intro j v hj;subst hu;rw[zaR] at hj;split at hj
 ·rw[zdL] at hj;simp[World.cell?,hb,hj]
 ·cases hj
theorem zvE {t:TypeId} (hb:w.heap[b]?=some (.cells cs.toArray T fr)) (hx:ev σ x=.pointer (some ⟨b,0,none⟩)) (ha:∀ w,(isAgg t).run P w=.ok true w) (hz:∀ w,(sizeOf t).run P w=.ok m w) (hn:cs.length=m):Run P σ w ⟨dst,.load t x,ty,pos,aft,g⟩ (.agg cs.toArray) w:=
 zDy hb hx ha hz (by rw[← hn];simp) hn
theorem zaQ (hs:Sub h w) {t:TypeId} {o: Nat} (hc:zaL h b o vs) (hx:ev σ x=.pointer (some ⟨b,o,none⟩)) (ha:∀ w,(isAgg t).run P w=.ok true w) (hz:∀ w,(sizeOf t).run P w=.ok m w) (hn:vs.length=m):
  Run P σ w ⟨dst,.load t x,ty,pos,aft,g⟩ (.agg vs.toArray) w:=
 zwj hx ha hz hn fun _ _ hj=>hc.cell hs hj
end
theorem St.done {own:Own} (st:St h0 w0 h w own):St h0 w0 h w []:=
 ⟨st.le,st.new,st.sub,st.below,by simp,by simp⟩
theorem Cls.sub {h:Heap} {w w':World} (hc:Cls h w w'):Sub h w':=by
 obtain ⟨h',s⟩:=hc;exact fun b o hb=>s.sub b o (s.le b o hb)
theorem Cls.block {h:Heap} {w w':World} (hc:Cls h w w') {b:Nat} {o:Obj} (hb:w.heap[b]?=some o):w'.heap[b]?=some o:=by
 obtain ⟨h',s⟩:=hc;rw[s.below.block b (zgU hb)];exact hb
theorem Cls.drew {h0 h:Heap} {w0 w:World} {own:Own} (st:St h0 w0 h w own):Cls h w w.drew:=⟨h,(St.start st.sub).drew⟩
theorem Cls.trans {h h':Heap} {w w' w'':World} (hc:Cls h w w') (s:St h w' h' w'' []):Cls h w w'':=by
 obtain ⟨h1,s1⟩:=hc
 -- the callee starts from the same frozen heap, seen in a later world
 have e:∀ b,b<w.heap.size→h' b=h b:=fun b hb=>s.new b (Nat.lt_of_lt_of_le hb s1.below.size);exact ⟨h',s.le,e,s.sub,s1.below.trans (s.below.mono s1.below.size),by simp,by simp⟩
def zbH (h:Heap) (w:World) (Φ:Heap→World→Value→Prop):Ending→World→Prop:=fun e w'=>∃ h' v,e=.returned v∧St h w h' w' []∧Φ h' w' v
theorem zbH.quiet {args:Array Value} (hcls:Cls h w w') (hc:Calls P f args w' (zbH h w' fun _ _ r=>r=v)):Calls P f args w' fun e w''=>e=.returned v∧Cls h w w'':=by
 refine hc.mono ?_;rintro e w'' ⟨h',r,rfl,s,rfl⟩;exact ⟨rfl,hcls.trans s⟩
theorem St.take {h0 h:Heap} {w0 w:World} {own:Own} (st:St h0 w0 h w own) (m:Nat):St h0 w0 h w (own.take m):=by
 have hsub:(own.take m).flatten.Sublist own.flatten:=by
  have e:own.flatten=(own.take m).flatten++(own.drop m).flatten:=by rw[← zdf,zbS]
  rw[e];exact List.sublist_append_left _ _
 exact ⟨st.le,st.new,st.sub,st.below,fun p hp=>st.mine p (hsub.subset hp),(hsub.map _).nodup st.nodup⟩
theorem zaL.of (hb:h b=some (.cells cs.toArray T fr)):zaL h b 0 cs:=
 ⟨_,_,_,hb,fun j v hv=>by simpa using hv⟩
theorem zjb {g:Option (Nat×Bool)} {t: TypeId} {a b:List Value} {v:Bool} (hx:ev σ x=.agg a.toArray) (hy:ev σ y=.agg b.toArray) (hg:P.eqGuardType P.depth t=false) (he:∀ w,(binOp .eql t (.agg a.toArray) (.agg b.toArray)).run P w=.ok (.bool v) w):Run P σ w ⟨dst,.binOp .eql t x y t',ty,pos,aft,g⟩ (.bool v) w:=by
 simp[Run,execOp,hx,hy,run_eqGuard_agg w _ t x y _ _ hg,he]
theorem zkG {g:Option (Nat×Bool)} {t: TypeId} {a b:List Value} [Decidable p] (hx:ev σ x=.agg a.toArray) (hy:ev σ y=.agg b.toArray) (hg:P.eqGuardType P.depth t=false) (he:∀ w,(binOp .eql t (.agg a.toArray) (.agg b.toArray)).run P w=.ok (.bool (decide p)) w):Run P σ w ⟨dst,.binOp .neq t x y t',ty,pos,aft,g⟩ (.bool (decide (¬ p))) w:=by
 have h1:=he w;rw[run_eql_struct] at h1;have h2:(binOp .neq t (.agg a.toArray) (.agg b.toArray)).run P w=.ok (.bool (!decide p)) w:=by
  rw[run_neq_struct];generalize (Op.equalIn 10000 t (.agg a.toArray) (.agg b.toArray)).run P w=r at h1;cases r with
  | ok u w'=>simp at h1;obtain ⟨rfl,rfl⟩:=h1;simp
  | halt x w'=>simp at h1
 simp[Run,execOp,hx,hy,run_eqGuard_agg w _ t x y _ _ hg,h2]
theorem zgB:(([]:List Value).all (·.oneCell'))=true:=rfl
theorem zbI (h1:v.oneCell'=true) (h2:(vs.all (·.oneCell'))=true):((v::vs).all (·.oneCell'))=true:=by simp[h1];simpa using h2
theorem zbg {k:Nat} {y:α} (h:xs[k]?=some y):xs.take (k+1)=xs.take k++[y]:=by
 obtain ⟨h1,h2⟩:=k_List_getElem__eq_some_iff.1 h;rw[List.take_succ_eq_append_getElem h1,h2]
theorem Sl.to (hs:Sl L h v xs) (e:xs=ys):Sl L h v ys:=e▸hs
theorem zfS {a a' b b':Value} (h1:a=a') (h2:b=b'):Value.tuple #[a,b]=Value.tuple #[a',b']:=by rw[h1,h2]
theorem zP {a b:Bool} (h:a=b):Value.bool a=Value.bool b:=by rw[h]
theorem zan {k:IntKind} {b: Int} (h:a=b):Value.int k a=Value.int k b:=by rw[h]
theorem ziE {a b:Str} (h:a=b):zae a=zae b:=by rw[h]
section
variable {P:Program} {n:Nat} {ops:Array Oper} {rest:List Oper} {Kw:Env→World→Prop} {σ:Env} {w w0:World} {h0 h:Heap} {own:Own} {ty:TypeId} {pos:String} {aft:Array Edge} {d:Nat}
theorem zoV (st:St h0 w0 h w own) (hx:ev σ x=v) (hc:v.cells=cs.toArray) (hd:Nat.blt d n=true) (hk:∀ b w' h',Le h h'→zaL h' b 0 cs→St h0 w0 h' w' own→M P n ops rest Kw (upd σ d (.pointer (some ⟨b,0,none⟩))) w'):M P n ops (⟨some d,.box e x,ty,pos,aft,none⟩::rest) Kw σ w:=by
 refine zax rfl hd (zGQ hx hc) ?_;have st':=st.alloc (.cells cs.toArray e);obtain ⟨h',hl,hb,st''⟩:=st'.freeze (k:=own.length) (b:=w.heap.size) (o:=.cells cs.toArray e) (by simp);have e1:(own++[[(w.heap.size,Obj.cells cs.toArray e)]]).set own.length []=own++[[]]:=by simp
 rw[e1] at st'';refine hk _ _ h' hl ⟨_,_,_,hb,fun j v hv=>by simpa using hv⟩ ?_;exact ⟨st''.le,st''.new,st''.sub,st''.below,fun p hp=>st''.mine p (by simpa using hp),by simpa using st''.nodup⟩
theorem J (cs:List Value) (st:St h0 w0 h w own) (hE_:(ev σ x,v.cells,Nat.blt d n)=(v,cs.toArray,true)) (hk:∀ b w' h',Le h h'→zaL h' b 0 cs→St h0 w0 h' w' own→M P n ops rest Kw (upd σ d (.pointer (some ⟨b,0,none⟩))) w'):M P n ops (⟨some d,.box e x,ty,pos,aft,none⟩::rest) Kw σ w:=zoV st (zfH hE_) (zfH (zcA hE_)) (zcA (zcA hE_)) hk
theorem zvs (st:St h0 w0 h w own) (hx:ev σ x=v) (hc:v.cells=cs.toArray) (hd:Nat.blt d n=true) (hk:∀ b w',St h0 w0 h w' (own++[[(b,.cells cs.toArray e)]])→M P n ops rest Kw (upd σ d (.pointer (some ⟨b,0,none⟩))) w'):M P n ops (⟨some d,.box e x,ty,pos,aft,none⟩::rest) Kw σ w:=
 zax rfl hd (zGQ hx hc) (hk _ _ (st.alloc _))
theorem zaf (st:St h0 w0 h w own) (hz:∀ w,(zeroValue e).run P w=.ok z w) (hc:z.cells=cs.toArray) (hd:Nat.blt d n=true) (hk:∀ b w',St h0 w0 h w' (own++[[(b,.cells cs.toArray e)]])→M P n ops rest Kw (upd σ d (.pointer (some ⟨b,0,none⟩))) w'):M P n ops (⟨some d,.alloc e,ty,pos,aft,none⟩::rest) Kw σ w:=
 zax rfl hd (zCB hz hc) (hk _ _ (st.alloc _))
theorem zwA {t:TypeId} (hb:w.heap[b]?=some (.cells cs.toArray T)) (hx:ev σ x=.pointer (some ⟨b,off,none⟩)) (hy:ev σ y=v) (h1:v.oneCell'=true) (hz:∀ w,(sizeOf t).run P w=.ok 1 w) (ho:off<cs.length) {g:Option (Nat×Bool)}:
  (execOp (ev σ) ⟨dst,.store t x y,ty,pos,aft,g⟩).run P w=.ok .skip { w with heap:=w.heap.setIfInBounds b (.cells (cs.set off v).toArray T) }:=by
 have hcell:w.cell? ⟨b,off,none⟩=some cs[off]:=by simp[World.cell?,hb,ho]
 have hfr:w.frozen? ⟨b,off,none⟩=false:=by simp[World.frozen?,hb]
 have hcs:v.cells=#[v]:=by cases v <;> first|rfl|cases h1
 have hst:=run_store P w ⟨b,off,none⟩ v .plain h1;rw[hcell] at hst;simp only[hfr] at hst;have hadd:(⟨b,off,none⟩:Addr).add 0=⟨b,off,none⟩:=rfl;simp[execOp,hx,hy,Instr.storeAt,Instr.sureAddr,storeVar,hz,hcs,storeCells,hadd,hst,zte hb]
theorem zeH (st:St h0 w0 h w own) {t:TypeId} {k: Nat} (hk:own[k]?=some [(b,.cells cs.toArray T)]) (hx:ev σ x=.pointer (some ⟨b,off,none⟩)) (hy:ev σ y=v) (h1:v.oneCell'=true) (hz:∀ w,(sizeOf t).run P w=.ok 1 w) (ho:Nat.blt off cs.length=true) (hcs:cs.set off v=cs') (hown:own.set k [(b,.cells cs'.toArray T)]=own') (hk':∀ w',St h0 w0 h w' own'→M P n ops rest Kw σ w'):M P n ops (⟨none,.store t x y,ty,pos,aft,none⟩::rest) Kw σ w:=by
 subst hcs;subst hown;exact zov rfl rfl (zwA (st.get hk) hx hy h1 hz (zdU ho)) (hk' _ (st.set _ hk))
theorem zaw {t:TypeId} (k:Nat) (st:St h0 w0 h w own) (hE_:(own[k]?,ev σ x,ev σ y,v.oneCell',Nat.blt off cs.length,cs.set off v,own.set k [(b,.cells cs'.toArray T)])=(some [(b,.cells cs.toArray T)],.pointer (some ⟨b,off,none⟩),v,true,true,cs',own')) (hz:∀ w,(sizeOf t).run P w=.ok 1 w) (hk':∀ w',St h0 w0 h w' own'→M P n ops rest Kw σ w'):M P n ops (⟨none,.store t x y,ty,pos,aft,none⟩::rest) Kw σ w:=zeH st (zfH hE_) (zfH (zcA hE_)) (zfH (zcA (zcA hE_))) (zfH (zcA (zcA (zcA hE_)))) hz (zfH (zcA (zcA (zcA (zcA hE_))))) (zfH (zcA (zcA (zcA (zcA (zcA hE_)))))) (zcA (zcA (zcA (zcA (zcA (zcA hE_)))))) hk'
theorem World.setCells_own {w:World} {b:Nat} {T:TypeId}:∀ (vs:List Value) (cs:List Value) (o:Nat),w.heap[b]?=some (.cells cs.toArray T)→
  w.setCells b o vs={ w with heap:=w.heap.setIfInBounds b (.cells ((vs.zipIdx o).foldl (fun c p=>c.set p.2 p.1) cs).toArray T) }
 | [],cs,o,hb=>by
  have:w.heap.setIfInBounds b (.cells cs.toArray T)=w.heap:=by
   apply zhg;intro i;rw[zhu];split
   ·rename_i e;subst e;split
    ·exact hb.symm
    ·rename_i hlt;rw[Array.getElem?_eq_none zW] 
   ·rfl
  simp only[World.setCells,List.zipIdx_nil,zhZ,this]
 | v::vs,cs,o,hb=>by
  have hb':(w.setCell ⟨b,o,none⟩ v).heap[b]?=some (.cells (cs.set o v).toArray T):=by
   rw[zte hb];simp[zgU hb]
  have:=World.setCells_own vs (cs.set o v) (o+1) hb';simp only[World.setCells];rw[this,zte hb];simp[List.zipIdx_cons]
def zlm (cs:List Value) (off:Nat):List Value→List Value
 | []=>cs
 | v::vs=>zlm (cs.set off v) (off+1) vs
theorem zwu:∀ (us cs:List Value) (off:Nat),(us.zipIdx off).foldl (fun c p=>c.set p.2 p.1) cs=zlm cs off us
 | [],_,_=>rfl
 | v::vs,cs,off=>by simp[List.zipIdx_cons,zlm,zwu vs]
theorem zBL {t:TypeId} (hb:w.heap[b]?=some (.cells cs.toArray T)) (hx:ev σ x=.pointer (some ⟨b,off,none⟩)) (hy:ev σ y=.agg us.toArray) (h1:us.all (·.oneCell')=true) (hz:∀ w,(sizeOf t).run P w=.ok us.length w) (ho:Nat.ble (off+us.length) cs.length=true) {g:Option (Nat×Bool)}:
  (execOp (ev σ) ⟨dst,.store t x y,ty,pos,aft,g⟩).run P w=.ok .skip { w with heap:=w.heap.setIfInBounds b (.cells (zlm cs off us).toArray T) }:=by
 have ho':off+us.length≤cs.length:=by simpa using ho
 have:=run_storeCells_cells (P:=P) b off us 0 w
  (fun j hj=>by simp[World.cell?,hb];omega)
  (fun j hj=>by simp[World.frozen?,hb])
  (fun v hv=>(zal.1 h1) v hv)
 simp only[Nat.add_zero] at this;rw[World.setCells_own us cs off hb,zwu] at this;simp[execOp,hx,hy,Instr.storeAt,Instr.sureAddr,storeVar,hz,Value.cells,this]
theorem zou (st:St h0 w0 h w own) {t:TypeId} {k: Nat} (hk:own[k]?=some [(b,.cells cs.toArray T)]) (hx:ev σ x=.pointer (some ⟨b,off,none⟩)) (hy:ev σ y=.agg us.toArray) (h1:us.all (·.oneCell')=true) (hz:∀ w,(sizeOf t).run P w=.ok us.length w) (ho:Nat.ble (off+us.length) cs.length=true) (hcs:zlm cs off us=cs') (hown:own.set k [(b,.cells cs'.toArray T)]=own') (hk':∀ w',St h0 w0 h w' own'→M P n ops rest Kw σ w'):M P n ops (⟨none,.store t x y,ty,pos,aft,none⟩::rest) Kw σ w:=by
 subst hcs;subst hown;exact zov rfl rfl (zBL (st.get hk) hx hy h1 hz ho) (hk' _ (st.set _ hk))
theorem zaU {t:TypeId} (k:Nat) (st:St h0 w0 h w own) (hE_:(own[k]?,ev σ x,ev σ y,Nat.ble (off+us.length) cs.length,zlm cs off us,own.set k [(b,.cells cs'.toArray T)])=(some [(b,.cells cs.toArray T)],.pointer (some ⟨b,off,none⟩),.agg us.toArray,true,cs',own')) (h1:us.all (·.oneCell')=true) (hz:∀ w,(sizeOf t).run P w=.ok us.length w) (hk':∀ w',St h0 w0 h w' own'→M P n ops rest Kw σ w'):M P n ops (⟨none,.store t x y,ty,pos,aft,none⟩::rest) Kw σ w:=zou st (zfH hE_) (zfH (zcA hE_)) (zfH (zcA (zcA hE_))) h1 hz (zfH (zcA (zcA (zcA hE_)))) (zfH (zcA (zcA (zcA (zcA hE_))))) (zcA (zcA (zcA (zcA (zcA hE_))))) hk'
theorem zq {t:TypeId} (k:Nat) (st:St h0 w0 h w own) (hE_:(own[k]?,ev σ x,ev σ y,us.all (·.oneCell'),Nat.ble (off+us.length) cs.length,zlm cs off us,own.set k [(b,.cells cs'.toArray T)])=(some [(b,.cells cs.toArray T)],.pointer (some ⟨b,off,none⟩),.agg us.toArray,true,true,cs',own')) (hz:∀ w,(sizeOf t).run P w=.ok us.length w) (hk':∀ w',St h0 w0 h w' own'→M P n ops rest Kw σ w'):M P n ops (⟨none,.store t x y,ty,pos,aft,none⟩::rest) Kw σ w:=zou st (zfH hE_) (zfH (zcA hE_)) (zfH (zcA (zcA hE_))) (zfH (zcA (zcA (zcA hE_)))) hz (zfH (zcA (zcA (zcA (zcA hE_))))) (zfH (zcA (zcA (zcA (zcA (zcA hE_)))))) (zcA (zcA (zcA (zcA (zcA (zcA hE_)))))) hk'
theorem zau {o:Oper} {Φ:Heap→World→Value→Prop} (st:St h0 w0 h w own) (ho:o.op=.call ⟨.value (.func f),args,ats⟩) (hg:o.guard=none) (hd:zjw n o.dst=true) (hf:∀ a w,(callFunc f a).run P w=.ok (.enter f a) w) (hv:args.toList.map (ev σ)=vs) (hc:Calls P f vs.toArray w (zbH h w Φ)) (hk:∀ v w' h',Le h h'→St h0 w0 h' w' own→Φ h' w' v→M P n ops rest Kw (updO σ o.dst v) w'):M P n ops (o::rest) Kw σ w:=by
 refine zcG hg hd (zcT ho hf hv) (hc.mono ?_);rintro e w' ⟨h',v,rfl,s,hΦ⟩;exact ⟨v,rfl,hk v w' h' s.le (st.call0 s) hΦ⟩
theorem zi {o:Oper} {Φ:Heap→World→Value→Prop} (st:St h0 w0 h w own) (hE_:(o.op,o.guard,zjw n o.dst,args.toList.map (ev σ))=(.call ⟨.value (.func f),args,ats⟩,none,true,vs)) (hf:∀ a w,(callFunc f a).run P w=.ok (.enter f a) w) (hc:Calls P f vs.toArray w (zbH h w Φ)) (hk:∀ v w' h',Le h h'→St h0 w0 h' w' own→Φ h' w' v→M P n ops rest Kw (updO σ o.dst v) w'):M P n ops (o::rest) Kw σ w:=zau st (zfH hE_) (zfH (zcA hE_)) (zfH (zcA (zcA hE_))) hf (zcA (zcA (zcA hE_))) hc hk
end
section
variable {α:Type} {L:Lay α} {T:TypeId}
def Enc (L:Lay α) (h:Heap) (cs:List Value) (xs:List α):Prop:=cs.length=xs.length*L.size∧∀ i x,xs[i]?=some x→L.R h ((cs.drop (i*L.size)).take L.size) x
def OSl (L:Lay α) (T:TypeId) (h:Heap) (v:Value) (xs:List α) (o:List (Nat×Obj)):Prop:=
 ∃ cs,Enc L h cs xs∧(((∃ p,v=.slice p 0 0)∧xs=[]∧o=[])∨∃ g cap cur,v=.slice (some ⟨g,0,none⟩) xs.length cap∧o=[(g,.cells cur T)]∧xs.length≤cap∧cap≤maxLen∧cur.size=cap*L.size∧cur.toList.take (xs.length*L.size)=cs)
theorem Enc.up {h h':Heap} {cs:List Value} {xs:List α} (e:Enc L h cs xs) (hl:Le h h'):Enc L h' cs xs:=⟨e.1,fun i x hi=>L.up (e.2 i x hi) hl⟩
theorem OSl.up {h h':Heap} {v:Value} {xs:List α} {o:List (Nat×Obj)} (e:OSl L T h v xs o) (hl:Le h h'):OSl L T h' v xs o:=by
 obtain ⟨cs,e1,e2⟩:=e;exact ⟨cs,e1.up hl,e2⟩
theorem OSl.nil (L:Lay α) (T:TypeId) (h:Heap):OSl L T h (.slice none 0 0) [] []:=⟨[],⟨by simp,by simp⟩,.inl ⟨⟨_,rfl⟩,rfl,rfl⟩⟩
theorem OSl.nil0 (L:Lay α) (T:TypeId) (h:Heap) (hv:∃ p,v=.slice p 0 0):OSl L T h v [] []:=⟨[],⟨by simp,by simp⟩,.inl ⟨hv,rfl,rfl⟩⟩
theorem OSl.to {xs ys:List α} (e:OSl L T h v xs o) (eq:xs=ys):OSl L T h v ys o:=eq▸e
theorem OSl.form {xs:List α} (e:OSl L T h v xs o):∃ p c,v=.slice p xs.length c:=by
 obtain ⟨cs,_,⟨⟨p,rfl⟩,rfl,_⟩|⟨g,cap,cur,rfl,_⟩⟩:=e
 ·exact ⟨_,_,rfl⟩
 exact ⟨_,_,rfl⟩
theorem OSl.one {xs:List α} (e:OSl L T h v xs o):v.oneCell'=true:=by
 obtain ⟨p,c,rfl⟩:=e.form;rfl
theorem Enc.one {h:Heap} {cs:List Value} {xs:List α} (e:Enc L h cs xs) (hp:0<L.size):∀ u∈cs,u.oneCell'=true:=by
 intro u hu;obtain ⟨j,hj⟩:=k_List_mem_iff_getElem_.1 hu;obtain ⟨h1,h2⟩:=k_List_getElem__eq_some_iff.1 hj;have hi:j / L.size<xs.length:=by rw[e.1] at h1;exact Nat.div_lt_of_lt_mul (by rwa [Nat.mul_comm])
 have hr:=e.2 (j / L.size) _ (zn hi);refine L.one hr u ?_;refine k_List_mem_iff_getElem_.2 ⟨j % L.size,?_⟩;rw[zaR,zab (Nat.mod_lt _ hp),zdL];rw[Nat.mul_comm,Nat.div_add_mod];exact hj
theorem Enc.append {ds: List Value} {xs ys:List α} (e:Enc L h cs xs) (f:Enc L h ds ys):Enc L h (cs++ds) (xs++ys):=by
 refine ⟨by rw[zj,zj,e.1,f.1,zhL],fun i x hi=>?_⟩
 by_cases hlt:i<xs.length
 ·rw[zcN hlt] at hi;have hr:=e.2 i x hi;have hle:i*L.size+L.size≤cs.length:=by
   rw[e.1,← Nat.succ_mul];exact zcb _ hlt
  rw[List.drop_append_of_le_length zW,List.take_append_of_le_length (by rw[zeQ];omega)];exact hr
 rw[zdg zW] at hi;have hr:=f.2 _ x hi;have e1:i*L.size=cs.length+(i-xs.length)*L.size:=by
  rw[e.1,← zhL];congr 1;omega
 rw[e1,List.drop_append,zeV zW,zcM,zfT];exact hr
theorem Sl.enc {xs:List α} (hs:Sl L h v xs):∃ p c cs,v=.slice p xs.length c∧Enc L h cs xs∧(xs=[]∨∃ b off,p=some ⟨b,off,none⟩∧∀ w,Sub h w→∀ j u,cs[j]?=some u→w.cell? ⟨b,off+j,none⟩=some u):=by
 obtain ⟨p,c,rfl,_,hh⟩:=hs
 rcases hh with rfl|⟨b,off,rfl,hh⟩
 ·exact ⟨p,c,[],rfl,⟨by simp,by simp⟩,.inl rfl⟩
 have hx:∀ i (hi:i<xs.length),∃ vs,zaL h b (off+i*L.size) vs∧L.R h vs xs[i]:=fun i hi=>hh i _ (zn hi)
 -- the cells, read in the heap
 have key:∀ n,n≤xs.length→∃ cs,Enc L h cs (xs.take n)∧∀ w,Sub h w→∀ j u,cs[j]?=some u→w.cell? ⟨b,off+j,none⟩=some u:=by
  intro n
  induction n with
  | zero=>intro _;exact ⟨[],⟨by simp,by simp⟩,by simp⟩
  | succ n ih=>
   intro hn;obtain ⟨cs,e,hc⟩:=ih zW;obtain ⟨vs,hv,hr⟩:=hx n zW;have hvl:=L.len hr;have hcl:cs.length=n*L.size:=by rw[e.1,zt,zdX zW]
   refine ⟨cs++vs,?_,fun w hs j u hj=>?_⟩
   ·have f:Enc L h vs [xs[n]]:=⟨by simp[hvl],fun i x hi=>by
     cases i with
     | zero=>simp at hi;subst hi;simpa [← hvl] using hr
     | succ i=>simp at hi⟩
    have:=e.append f;rwa [← List.take_succ_eq_append_getElem zW] at this
   ·by_cases hlt:j<cs.length
    ·rw[zcN hlt] at hj;exact hc w hs j u hj
    ·rw[zdg zW] at hj;have:=hv.cell hs hj;rw[hcl] at this hlt;have e2:off+n*L.size+(j-n*L.size)=off+j:=by omega
     rwa [e2] at this
 obtain ⟨cs,e,hc⟩:=key xs.length (zbR _);rw[zhU] at e;exact ⟨_,c,cs,rfl,e,.inr ⟨b,off,rfl,hc⟩⟩
theorem OSl.freeze {h0 h:Heap} {w0 w:World} {own:Own} {k:Nat} {v:Value} {xs:List α} {o:List (Nat×Obj)} (st:St h0 w0 h w own) (e:OSl L T h v xs o) (hk:own[k]?=some o) (hb:xs.length≤281474976710656):
  ∃ h',Le h h'∧Sl L h' v xs∧St h0 w0 h' w (own.set k []):=by
 obtain ⟨cs,e1,⟨⟨p,rfl⟩,rfl,rfl⟩|⟨g,cap,cur,rfl,rfl,hnc,_,hsz,htk⟩⟩:=e
 ·exact ⟨h,Le.refl h,⟨p,0,rfl,⟨zfg _,zfg _⟩,.inl rfl⟩,st.drop k⟩
 ·obtain ⟨h',hl,hg,st'⟩:=st.freeze hk;refine ⟨h',hl,⟨_,cap,rfl,⟨hb,hnc⟩,.inr ⟨g,0,rfl,fun i x hi=>⟨_,⟨cur,T,_,hg,fun j u hj=>?_⟩,L.up (e1.2 i x hi) hl⟩⟩⟩,st'⟩;have hjl:j<L.size:=by
   rw[zaR] at hj;split at hj
   ·assumption
   ·cases hj
  rw[zaR,zab hjl,zdL,← htk,zaR] at hj;split at hj
  ·rw[zdv];simpa using hj
  ·cases hj
theorem St.put {own:Own} {k:Nat} (st:St h0 w0 h w own) (hk:own[k]?=some o) (ob:Obj) (w':World) (hw:w'.heap=w.heap.push ob) (e1:w'.os=w.os) (e2:w'.tape=w.tape) (e3:w'.output=w.output) (e4:w.drawn≤w'.drawn):
  St h0 w0 h w' (own.set k [(w.heap.size,ob)]):=by
 have st1:=(st.alloc ob).drop k;have hlt:k<own.length:=by
  rcases zcO k own.length with h1|h1
  ·exact h1
  ·rw[zbF h1] at hk;cases hk
 have st2:St h0 w0 h w' ((own++[[(w.heap.size,ob)]]).set k []):=st1.same (w':=w') (by rw[hw];rfl) e1 e2 e3 e4;rw[List.set_append_left _ _ hlt] at st2
 -- the new entry stands at k
 have hp:(own.set k [(w.heap.size,ob)]).flatten.Perm ((own.set k []++[[(w.heap.size,ob)]]).flatten):=by
  rw[zce,zab hlt,zce,zab hlt];simp only[zdf,zfQ,zcM,List.flatten_nil,zbL,zaB];exact zgt _ (zfe (l₁:=[(w.heap.size,ob)]))
 exact ⟨st2.le,st2.new,st2.sub,st2.below,fun p hq=>st2.mine p (hp.mem_iff.1 hq),(hp.map _).nodup_iff.2 st2.nodup⟩
theorem zBM {own:Own} {k:Nat} {xs ys:List α} {t: TypeId} {i:TypeInfo} (ty:TypeId) (st:St h0 w0 h w own) (hO:OSl L e h v xs o) (hk:own[k]?=some o) (hS:Sl L h v2 ys) (ht:P.underlying t=some (.slice e)) (hi:P.info? e=some i) (hz:i.zero=some z) (hsize:i.size=L.size) (hzs:z.cells.size=L.size) (hpos:0<L.size) (hb:(xs.length+ys.length)*i.bytes≤140737488355328) (h63:xs.length+ys.length≤281474976710656):
  ∃ v' o' w',(Builtin.append_ #[t,t] ty #[v,v2]).run P w=.ok v' w'∧OSl L e h v' (xs++ys) o'∧St h0 w0 h w' (own.set k o'):=by
 obtain ⟨p,c,ds,rfl,f1,f2⟩:=hS.enc;obtain ⟨cs,e1,ee⟩:=hO;have hm:maxLen=9223372036854775807:=rfl;have one:=f1.one hpos;have hlen:(cs++ds).length=(xs.length+ys.length)*i.size:=by rw[zj,e1.1,f1.1,zhL,hsize]
 -- the row that is zlt anew
 have grown:∀ old,old<xs.length+ys.length→OSl L e h (.slice (some ⟨w.heap.size,0,none⟩) (xs.length+ys.length) (grownCap w (xs.length+ys.length) old e)) (xs++ys)
   [(w.heap.size,.cells (cs.toArray++ds.toArray++Builtin.zeroCells z.cells (grownCap w (xs.length+ys.length) old e-(xs.length+ys.length))) e)]:=by
  intro old ho;have hge:=grownCap_ge w (xs.length+ys.length) old e;have hcm:grownCap w (xs.length+ys.length) old e≤maxLen:=grownCap_le_maxLen w _ old e zW;refine ⟨cs++ds,e1.append f1,.inr ⟨w.heap.size,grownCap w (xs.length+ys.length) old e,_,by rw[zj],rfl,by rw[zj];exact hge,hcm,?_,?_⟩⟩
  ·simp only[Array.size_append,ziq,size_zeroCells,hzs,e1.1,f1.1,← zhL];congr 1;omega
  ·rw[zj,← hsize,← hlen];simp only[Array.toList_append,zaB];rw[← zaB];exact List.take_left
 rcases ee with ⟨⟨p0,rfl⟩,rfl,rfl⟩|⟨g,cap,cur,rfl,rfl,hnc,hcm,hcs,htk⟩
 ·have hcs0:cs=[]:=zee (by simpa using e1.1);subst hcs0
  by_cases hy:ys=[]
  ·subst hy;refine ⟨.slice p0 0 0,[],w,?_,by simpa using OSl.nil0 L e h ⟨p0,rfl⟩,st.drop k⟩;cases p0 <;> cases p <;> simp[Builtin.append_,run_underlying ht,sizeOf,typeInfo,hi,Builtin.lenOf,Builtin.firstCells,loadCells,loadCellsFrom,storeCells]
  ·rcases f2 with f2|⟨b,off,rfl,f2⟩
   ·exact absurd f2 hy
   ·have hy0:0<ys.length:=k_List_length_pos_iff.2 hy;have hg:=grown 0 (by simpa using hy0);cases p0 with
    | none=>
     have hr:=run_append_nil (P:=P) w t ty e i z ht hi hz ⟨b,off,none⟩ ys.length c ds (by rw[f1.1,hsize]) (fun j u hj=>by rw[zik];exact f2 w st.sub j u hj) hy0 zW (by have:=hb;simp only[zC,zdv] at this;omega);simp only[zC,zdv,zcM,Array.empty_append] at hg;have hr':(Builtin.append_ #[t,t] ty #[.slice none ([]:List α).length 0,.slice (some ⟨b,off,none⟩) ys.length c]).run P w=_:=hr;exact ⟨_,_,_,hr',by simpa using hg,st.put hk _ _ rfl rfl rfl rfl (Nat.le_succ _)⟩
    | some b0=>
     have hr:=run_append_grow (P:=P) w t ty e i z ht hi hz b0 0 0 [] (by simp) (by simp) ⟨b,off,none⟩ ys.length c ds (by rw[f1.1,hsize]) (fun j u hj=>by rw[zik];exact f2 w st.sub j u hj) zW zW (growslice_fits zW (by simpa using hb));exact ⟨_,_,_,hr,by simpa using hg,st.put hk _ _ rfl rfl rfl rfl (Nat.le_succ _)⟩
 ·have hgw:=st.get hk;have hlt:=zgU hgw
  by_cases hroom:xs.length+ys.length≤cap
  ·have hfit:xs.length*i.size+ds.length≤cur.size:=by rw[f1.1,hcs,hsize,← zhL];exact zcb _ hroom
   rcases f2 with f2|⟨b,off,rfl,f2⟩
   ·subst f2;have hds:ds=[]:=zee (by simpa using f1.1);subst hds;refine ⟨.slice (some ⟨g,0,none⟩) xs.length cap,[(g,.cells cur e)],w,?_,?_,?_⟩
    ·have hn:xs.length≤cap:=hnc;cases p <;> simp[Builtin.append_,run_underlying ht,sizeOf,typeInfo,hi,Builtin.lenOf,Builtin.firstCells,loadCells,loadCellsFrom,hn,storeCells]
    ·rw[zbL];exact ⟨cs,e1,.inr ⟨g,cap,cur,rfl,rfl,hnc,hcm,hcs,htk⟩⟩
    ·have e3:own.set k [(g,.cells cur e)]=own:=by
      apply zeF;intro j;rw[zir];split
      ·rename_i e4;subst e4;split
       ·exact hk.symm
       ·rename_i h5;rw[zbF zW]
      ·rfl
     rw[e3];exact st
   ·have hr:=run_append_room (P:=P) w t ty e i ht hi g xs.length cap cur hgw ⟨b,off,none⟩ ys.length c ds (by rw[f1.1,hsize]) (fun j u hj=>by rw[zik];exact f2 w st.sub j u hj) one hroom hfit;refine ⟨_,[(g,.cells (cur.toList.take (xs.length*i.size)++ds++cur.toList.drop (xs.length*i.size+ds.length)).toArray e)],_,hr,?_,?_⟩
    ·refine ⟨cs++ds,e1.append f1,.inr ⟨g,cap,_,by rw[zj],rfl,by rw[zj];exact hroom,hcm,?_,?_⟩⟩
     ·simp only[ziq,zj,zt,zeQ,zhE];rw[← hcs];omega
     ·rw[zj,← hsize,← hlen,hsize,htk];exact List.take_left
    ·have:=st.set (.cells (cur.toList.take (xs.length*i.size)++ds++cur.toList.drop (xs.length*i.size+ds.length)).toArray e) hk;refine this.same ?_ rfl rfl rfl (zbR _);apply zhg;intro j
     by_cases ej:j=g
     ·subst ej;rw[setRow_heap w _ cur _ e _ hgw];simp[hlt]
     ·rw[setRow_other w g j _ ej];simp[Ne.symm ej]
  ·rcases f2 with f2|⟨b,off,rfl,f2⟩
   ·subst f2;simp at hroom;omega
   ·have holds:∀ j u,cs[j]?=some u→w.cell? ((⟨g,0,none⟩:Addr).add j)=some u:=by
     intro j u hj;rw[zik];rw[← htk,zaR] at hj;split at hj
     ·simp only[World.cell?,hgw,zhe,zbd,if_false,zdv];simpa using hj
     ·cases hj
    have hr:=run_append_grow (P:=P) w t ty e i z ht hi hz ⟨g,0,none⟩ xs.length cap cs (by rw[e1.1,hsize]) holds ⟨b,off,none⟩ ys.length c ds (by rw[f1.1,hsize]) (fun j u hj=>by rw[zik];exact f2 w st.sub j u hj) zW zW (growslice_fits zW hb);exact ⟨_,_,_,hr,grown cap zW,st.put hk _ _ rfl rfl rfl rfl (Nat.le_succ _)⟩
end
section
variable {P:Program} {n:Nat} {ops:Array Oper} {rest:List Oper} {Kw:Env→World→Prop} {σ:Env} {w w0:World} {h0 h:Heap} {own:Own} {ty:TypeId} {pos:String} {aft:Array Edge} {d:Nat}
theorem zbe {k:Nat} {t: TypeId} {i:TypeInfo} (st:St h0 w0 h w own) (hO:OSl L e h v xs o) (hk:own[k]?=some o) (hS:Sl L h v2 ys) (hx:ev σ x=v) (hy:ev σ y=v2) (hd:Nat.blt d n=true) (ht:P.underlying t=some (.slice e)) (hi:P.info? e=some i) (hz:i.zero=some z) (hsize:i.size=L.size) (hzs:z.cells.size=L.size) (hpos:0<L.size) {nb:Nat} (hnb:i.bytes=nb) (hb:(xs.length+ys.length)*nb≤140737488355328) (h63:xs.length+ys.length≤281474976710656) (hK:∀ v' o' w' own',own'=own.set k o'→OSl L e h v' (xs++ys) o'→St h0 w0 h w' own'→M P n ops rest Kw (upd σ d v') w'):
  M P n ops (⟨some d,.call ⟨.builtin .append,#[x,y],#[t,t]⟩,ty,pos,aft,none⟩::rest) Kw σ w:=by
 subst hnb;obtain ⟨v',o',w',hr,h1,h2⟩:=zBM (P:=P) ty st hO hk hS ht hi hz hsize hzs hpos hb h63;refine zax rfl hd (zpb rfl (vs:=[v,v2]) (by simp[hx,hy]) fun cs=>?_) (hK v' o' w' _ rfl h1 h2);simp only[builtin,Sem.run_bind,hr,Result.andThen_ok,Sem.run_pure]
theorem zyK {t: TypeId} {g:Option (Nat×Bool)} (hs:OSl L T h v xs o) (hx:ev σ x=v) (hu:P.underlying t=some (.slice e)):
  Run P σ w ⟨dst,.call ⟨.builtin .len,#[x],#[t]⟩,ty,pos,aft,g⟩ (.int .i64 xs.length) w:=by
 obtain ⟨p,c,rfl⟩:=hs.form;exact zwH hx hu
theorem zkF {t: TypeId} {i:TypeInfo} {len:Nat} (st:St h0 w0 h w own) (hE:Enc L h cs xs) (hlen:len=xs.length) (hbig:Nat.ble len 1000000=true) (hd:Nat.blt d n=true) (ht:P.underlying t=some (.slice e)) (hi:P.info? e=some i) (hz:i.zero=some z) (hsm:Nat.ble (len*i.size) 16777216=true) (hpos:Nat.beq (len*i.size) 0=false) (hf:Instr.fill (fun j=>some (j*i.size,i.size)) ((Array.range (len*i.size)).map (z.cells[· % z.cells.size]!)) (parts.toList.map fun p=>(p.1,ev σ p.2))=some cs.toArray) (hK:∀ v w' h',Le h h'→Sl L h' v xs→St h0 w0 h' w' own→M P n ops rest Kw (upd σ d v) w'):
  M P n ops (⟨some d,.buildSlice t len parts,ty,pos,aft,none⟩::rest) Kw σ w:=by
 have h1:¬ len*i.size > 2 ^ 24:=by have:=zdU hsm;omega
 have h2:¬ len*i.size=0:=fun e=>by rw[e] at hpos;cases hpos
 have hr:=run_buildSlice (P:=P) w t e len (parts.map fun p=>(p.1,ev σ p.2)) cs.toArray i z ht hi hz h1 h2 (by rw[Array.toList_map];exact hf);have st':=st.alloc (.cells cs.toArray e);obtain ⟨h',hl,hb,st''⟩:=st'.freeze (k:=own.length) (b:=w.heap.size) (o:=.cells cs.toArray e) (by simp);have e1:(own++[[(w.heap.size,Obj.cells cs.toArray e)]]).set own.length []=own++[[]]:=by simp
 rw[e1] at st'';have st3:St h0 w0 h' (w.alloc (.cells cs.toArray e)) own:=⟨st''.le,st''.new,st''.sub,st''.below,fun p hp=>st''.mine p (by simpa using hp),by simpa using st''.nodup⟩;have hle:len≤1000000:=zdU hbig;refine zax rfl hd (v:=.slice (some ⟨w.heap.size,0,none⟩) len len) (by simp[Run,execOp,hr]) (hK _ _ h' hl ?_ st3);subst hlen;refine ⟨_,xs.length,rfl,⟨by unfold big;omega,zbR _⟩,.inr ⟨w.heap.size,0,rfl,fun j x hj=>⟨_,⟨cs.toArray,e,_,hb,fun q u hq=>?_⟩,L.up (hE.2 j x hj) hl⟩⟩⟩;rw[zaR] at hq;split at hq
 ·rw[zdL] at hq;simpa using hq
 ·cases hq
theorem zA (L:Lay α) {t: TypeId} {i:TypeInfo} {len:Nat} (xs:List α) (cs:List Value) (st:St h0 w0 h w own) (hE:Enc L h cs xs) (hE_:(len,Nat.ble len 1000000,Nat.blt d n,i.zero,Nat.ble (len*i.size) 16777216,Nat.beq (len*i.size) 0)=(xs.length,true,true,some z,true,false)) (ht:P.underlying t=some (.slice e)) (hi:P.info? e=some i) (hf:Instr.fill (fun j=>some (j*i.size,i.size)) ((Array.range (len*i.size)).map (z.cells[· % z.cells.size]!)) (parts.toList.map fun p=>(p.1,ev σ p.2))=some cs.toArray) (hK:∀ v w' h',Le h h'→Sl L h' v xs→St h0 w0 h' w' own→M P n ops rest Kw (upd σ d v) w'):M P n ops (⟨some d,.buildSlice t len parts,ty,pos,aft,none⟩::rest) Kw σ w:=zkF st hE (zfH hE_) (zfH (zcA hE_)) (zfH (zcA (zcA hE_))) ht hi (zfH (zcA (zcA (zcA hE_)))) (zfH (zcA (zcA (zcA (zcA hE_))))) (zcA (zcA (zcA (zcA (zcA hE_))))) hf hK
theorem zse {t: TypeId} {i:TypeInfo} {len:Nat} (st:St h0 w0 h w own) (hE:Enc L h cs xs) (hlen:len=xs.length) (hbig:Nat.ble len 1000000=true) (hd:Nat.blt d n=true) (ht:P.underlying t=some (.slice e)) (hi:P.info? e=some i) (hz:i.zero=some z) (hsz:i.size=L.size) (hsm:Nat.ble (len*i.size) 16777216=true) (hpos:Nat.beq (len*i.size) 0=false) (hf:Instr.fill (fun j=>some (j*i.size,i.size)) ((Array.range (len*i.size)).map (z.cells[· % z.cells.size]!)) (parts.toList.map fun p=>(p.1,ev σ p.2))=some cs.toArray) (hK:∀ v o w',OSl L e h v xs o→St h0 w0 h w' (own++[o])→M P n ops rest Kw (upd σ d v) w'):
  M P n ops (⟨some d,.buildSlice t len parts,ty,pos,aft,none⟩::rest) Kw σ w:=by
 have h1:¬ len*i.size > 2 ^ 24:=by have:=zdU hsm;omega
 have h2:¬ len*i.size=0:=fun e=>by rw[e] at hpos;cases hpos
 have hr:=run_buildSlice (P:=P) w t e len (parts.map fun p=>(p.1,ev σ p.2)) cs.toArray i z ht hi hz h1 h2 (by rw[Array.toList_map];exact hf);have hle:len≤1000000:=zdU hbig;have hm:maxLen=9223372036854775807:=rfl;refine zax rfl hd (v:=.slice (some ⟨w.heap.size,0,none⟩) len len) (by simp[Run,execOp,hr]) (hK _ [(w.heap.size,.cells cs.toArray e)] _ ?_ (st.alloc _));subst hlen;refine ⟨cs,hE,.inr ⟨_,xs.length,_,rfl,rfl,zbR _,by omega,by simpa using hE.1,?_⟩⟩;simp only[];rw[← hE.1];simp
theorem zpR {t: TypeId} (st:St h0 w0 h w own) (hd:Nat.blt d n=true) (hs:∃ m,∀ w,(sizeOf e).run P w=.ok m w) (ht:P.underlying t=some (.slice e)) (hK:∀ v o w',OSl L e h v ([]:List α) o→St h0 w0 h w' (own++[o])→M P n ops rest Kw (upd σ d v) w'):
  M P n ops (⟨some d,.buildSlice t 0 #[],ty,pos,aft,none⟩::rest) Kw σ w:=by
 obtain ⟨m,hs⟩:=hs;refine zax rfl hd (v:=.slice (some ⟨w.heap.size,0,none⟩) 0 0) (w':=w.alloc (.cells #[] e)) ?_ (hK _ [(w.heap.size,.cells #[] e)] _ ?_ (st.alloc _))
 ·have e0:Array.range 0=#[]:=rfl;simp[Run,execOp,Instr.buildSlice,run_underlying ht,hs,Instr.fill,newRow,e0]
 ·exact ⟨[],⟨by simp,by simp⟩,.inr ⟨_,0,_,rfl,rfl,zbR _,by simp[maxLen],by simp,by simp⟩⟩
theorem St.snoc (st:St h0 w0 h w own):St h0 w0 h w (own++[[]]):=by
 have e:(own++[[]]).flatten=own.flatten:=by simp
 exact ⟨st.le,st.new,st.sub,st.below,fun p hp=>st.mine p (by rwa [e] at hp),by rw[e];exact st.nodup⟩
theorem OSl.elem {k:Nat} {y:α} (hO:OSl L T h v xs o) (hy:xs[k]?=some y):
  ∃ b off cur vs,o=[(b,.cells cur T)]∧zqz v k L.size b off∧L.R h vs y∧(∀ j u,vs[j]?=some u→cur[off+j]?=some u):=by
 obtain ⟨cs,e1,⟨⟨p,rfl⟩,rfl,rfl⟩|⟨g,cap,cur,rfl,rfl,_,_,_,htk⟩⟩:=hO
 ·simp at hy
 ·obtain ⟨h1,_⟩:=k_List_getElem__eq_some_iff.1 hy;refine ⟨g,0+k*L.size,cur,_,rfl,⟨0,_,cap,rfl,h1,rfl⟩,e1.2 k y hy,fun j u hj=>?_⟩;rw[zaR] at hj;split at hj
  ·rw[zdL,← htk,zaR] at hj;split at hj
   ·rw[zdv];simpa using hj
   ·cases hj
  ·cases hj
theorem zjv {u:Value} {t:TypeId} {g:Option (Nat×Bool)} (hb:w.heap[b]?=some (.cells cur T fr)) (hc:∀ j u,vs[j]?=some u→cur[off+j]?=some u) (hx:ev σ x=.pointer (some ⟨b,off',none⟩)) (ho:off'=off+j) (hv:vs[j]?=some u) (ha:∀ w,(isAgg t).run P w=.ok false w):
  Run P σ w ⟨dst,.load t x,ty,pos,aft,g⟩ u w:=by
 subst ho;refine zzp hx ha ?_;simp only[World.cell?,hb,zhe,zbd,if_false];exact hc j u hv
theorem zmT {t:TypeId} {g:Option (Nat×Bool)} (hb:w.heap[b]?=some (.cells cur T fr)) (hc:∀ j u,vs[j]?=some u→cur[off+j]?=some u) (hx:ev σ x=.pointer (some ⟨b,off,none⟩)) (ha:∀ w,(isAgg t).run P w=.ok true w) (hz:∀ w,(sizeOf t).run P w=.ok m w) (hn:vs.length=m):
  Run P σ w ⟨dst,.load t x,ty,pos,aft,g⟩ (.agg vs.toArray) w:=by
 refine zwj hx ha hz hn fun j u hj=>?_;simp only[World.cell?,hb,zhe,zbd,if_false];exact hc j u hj
theorem Enc.one1 {x:α} (hr:L.R h vs x):Enc L h vs [x]:=by
 have:=L.len hr;exact ⟨by simp[this],fun i y hi=>by
  cases i with
  | zero=>simp at hi;subst hi;simpa [← this] using hr
  | succ i=>simp at hi⟩
theorem Enc.cons {x:α} (hr:L.R h vs x) (hE:Enc L h cs xs):Enc L h (vs++cs) (x::xs):=(Enc.one1 hr).append hE
theorem Enc.nil:Enc L h [] ([]:List α):=⟨by simp,by simp⟩
end
section
variable {κ υ:Type} {ek:κ→Value} {eu:υ→Value}
def Ent (ek:κ→Value) (eu:υ→Value):List MapEntry→List (κ×υ)→Prop
 | [],[]=>True
 | e::es,p::m=>e.key=ek p.1∧e.val=eu p.2∧Ent ek eu es m
 | _,_=>False
def OM (ek:κ→Value) (eu:υ→Value) (m:List (κ×υ)) (o:List (Nat×Obj)) (v:Value):Prop:=
 ∃ b es clock,o=[(b,.map es clock)]∧v=.map (some b)∧Ent ek eu es.toList m∧(∀ e∈es.toList,e.born<clock)∧(es.toList.map (·.born)).Nodup
def zcI [DecidableEq κ] (m:List (κ×υ)) (k:κ):Option υ:=(m.find? fun p=>decide (p.1=k)).map (·.2)
def ziL [DecidableEq κ] (m:List (κ×υ)) (k:κ) (v:υ):List (κ×υ):=if (zcI m k).isSome then m.map fun p=>if p.1=k then (k,v) else p else m++[(k,v)]
theorem zio [DecidableEq κ] (m:List (κ×υ)) (k k':κ) (v:υ):zcI (ziL m k v) k'=if k'=k then some v else zcI m k':=by
 unfold ziL;split
 ·rename_i h;have key:∀ l:List (κ×υ),zcI (l.map fun p=>if p.1=k then (k,v) else p) k'=if k'=k then (if (zcI l k).isSome then some v else none) else zcI l k':=by
   intro l
   induction l with
   | nil=>simp[zcI]
   | cons p l ih=>
    simp only[zcI,zbQ,zdu] at ih ⊢
    by_cases h1:p.1=k
    ·by_cases h2:k'=k
     ·simp[h1,h2]
     ·have h3:¬ k=k':=fun e=>h2 e.symm;simp only[h1,if_true,h3,decide_false,h2,if_false] at ih ⊢;exact ih
    ·by_cases h2:k'=k
     ·subst h2;simp only[h1,if_false,decide_false,if_true] at ih ⊢;exact ih
     ·by_cases h4:p.1=k'
      ·simp[h1,h4,h2]
      ·simp only[h1,if_false,h4,decide_false,h2] at ih ⊢;exact ih
  rw[key m,h];simp
 rename_i h;have hn:zcI m k=none:=by simpa using h
 simp only[zcI,zgS] at hn ⊢
 by_cases h2:k'=k
 ·subst h2;cases h3:m.find? fun p=>decide (p.1=k') with
  | none=>simp
  | some q=>rw[h3] at hn;cases hn
 have h3:¬ k=k':=fun e=>h2 e.symm;cases m.find? fun p=>decide (p.1=k') with
 | none=>simp[h2,h3]
 | some q=>simp[h2]
theorem Ent.len:∀ {es:List MapEntry} {m:List (κ×υ)},Ent ek eu es m→es.length=m.length
 | [],[],_=>rfl
 | _::_,_::_,h=>by simp[Ent.len h.2.2]
 | [],_::_,h=>h.elim
 | _::_,[],h=>h.elim
def zFF [DecidableEq κ] (kind:TypeDesc) (ek:κ→Value):Prop:=∀ a b,Instr.sameNow kind (ek a) (ek b)=some (decide (a=b))
theorem zqp [DecidableEq κ] {kind:TypeDesc} (hk:zFF kind ek) {k:κ}:∀ {es:List MapEntry} {m:List (κ×υ)} (i:Nat),Ent ek eu es m→zcI m k=none→Instr.findNow kind (ek k) es i=some none
 | [],[],_,_,_=>rfl
 | e::es,p::m,i,h,hl=>by
  simp only[zcI,zdu] at hl;have hne:¬ p.1=k:=fun e=>by simp[e] at hl
  simp only[hne,decide_false] at hl;have hne':¬ k=p.1:=fun e=>hne e.symm;have e1:decide (k=p.1)=false:=by simp[hne']
  simp only[Instr.findNow,h.1];rw[hk k p.1,e1];exact zqp hk (i+1) h.2.2 hl
 | [],_::_,_,h,_=>h.elim
 | _::_,[],_,h,_=>h.elim
theorem zqo [DecidableEq κ] {kind:TypeDesc} (hk:zFF kind ek) {k:κ} {v:υ}:∀ {es:List MapEntry} {m:List (κ×υ)} (i:Nat),Ent ek eu es m→zcI m k=some v→
  ∃ j,j<es.length∧m[j]?=some (k,v)∧(∀ q,q<j→∀ p,m[q]?=some p→p.1≠k)∧Instr.findNow kind (ek k) es i=some (some (i+j,eu v))
 | [],[],_,_,hl=>by cases hl
 | e::es,p::m,i,h,hl=>by
  by_cases hne:p.1=k
  ·simp only[zcI,zdu,hne,decide_true,zck,zeS] at hl;refine ⟨0,by simp,by rw[← hne,← hl];rfl,fun q hq=>by omega,?_⟩;have e1:decide (k=p.1)=true:=by simp[hne]
   simp only[Instr.findNow,h.1];rw[hk k p.1,e1];simp only[h.2.1,hl,Nat.add_zero]
  ·have hl':zcI m k=some v:=by simpa only[zcI,zdu,hne,decide_false] using hl
   obtain ⟨j,h1,h2,h3,h4⟩:=zqo hk (i+1) h.2.2 hl';have hne':¬ k=p.1:=fun e=>hne e.symm;refine ⟨j+1,by simp[h1],by simpa using h2,fun q hq r hr=>?_,?_⟩
   ·cases q with
    | zero=>simp at hr;subst hr;exact hne
    | succ q=>exact h3 q zW r (by simpa using hr)
   ·have e1:decide (k=p.1)=false:=by simp[hne']
    simp only[Instr.findNow,h.1];rw[hk k p.1,e1];simp only[];rw[h4,show i+(j+1)=i+1+j by omega]
 | [],_::_,_,h,_=>h.elim
 | _::_,[],_,h,_=>h.elim
theorem Ent.snoc:∀ {es:List MapEntry} {m:List (κ×υ)} {e:MapEntry} {p:κ×υ},Ent ek eu es m→e.key=ek p.1→e.val=eu p.2→Ent ek eu (es++[e]) (m++[p])
 | [],[],_,_,_,h1,h2=>⟨h1,h2,trivial⟩
 | _::_,_::_,_,_,h,h1,h2=>⟨h.1,h.2.1,h.2.2.snoc h1 h2⟩
 | [],_::_,_,_,h,_,_=>h.elim
 | _::_,[],_,_,h,_,_=>h.elim
theorem Ent.modify [DecidableEq κ] {k:κ} {v:υ}:∀ {es:List MapEntry} {m:List (κ×υ)} {j:Nat} {u:υ},Ent ek eu es m→(m.map (·.1)).Nodup→m[j]?=some (k,u)→
  Ent ek eu (es.modify j fun e=>{ e with key:=ek k,val:=eu v }) (m.map fun p=>if p.1=k then (k,v) else p)
 | [],[],_,_,_,_,h=>by simp at h
 | e::es,p::m,0,u,h,hn,hj=>by
  simp only[zeL,zeS] at hj;subst hj;simp only[zbQ,zgb] at hn;have hid:∀ (l:List (κ×υ)),k ∉ l.map (·.1)→(l.map fun p=>if p.1=k then (k,v) else p)=l:=by
   intro l hl
   conv=>rhs;rw[← List.map_id l]
   apply zgo;intro p hp;have hpk:¬ p.1=k:=by rintro rfl;exact hl (zdq hp)
   rw[zam hpk];rfl
  simp only[List.modify_zero_cons,zbQ,if_true];rw[hid m hn.1];exact ⟨rfl,rfl,h.2.2⟩
 | e::es,p::m,j+1,u,h,hn,hj=>by
  simp only[zbQ,zgb] at hn;have hj':m[j]?=some (k,u):=by simpa using hj
  have hne:¬ p.1=k:=by
   intro e';exact hn.1 (e'▸zbk.2 ⟨(k,u),zD hj',rfl⟩)
  simp only[List.modify_succ_cons,zbQ,zam hne];exact ⟨h.1,h.2.1,h.2.2.modify hn.2 hj'⟩
 | [],_::_,_,_,h,_,_=>h.elim
 | _::_,[],_,_,h,_,_=>h.elim
structure Key [DecidableEq κ] (P:Program) (kt:TypeId) (kind:TypeDesc) (ek:κ→Value):Prop where
 under:P.underlying kt=some kind
 tells:zFF kind ek
 check:∀ b k w,(Instr.checkKey b 10000 kt (ek k)).run P w=.ok () w
 stays:∀ k,Instr.sameBits 10000 (ek k) (ek k)=true
end
theorem zqM {ik:IntKind} (hu:P.underlying kt=some (.int ik)):Key P kt (.int ik) (fun n:Int=>.int .i64 n) where
 under:=hu
 tells:=fun a b=>by simp[Instr.sameNow,zzQ]
 check:=fun b k w=>by
  unfold Instr.checkKey;simp[run_underlying hu]
 stays:=fun k=>by simp[Instr.sameBits]
theorem zEd (s t:Str):((⟨s.toArray⟩:ByteArray) == ⟨t.toArray⟩)=decide (s=t):=by
 rw[beq_toListBytes,ziO,ziO,zzP]
section
variable {κ υ:Type} {ek:κ→Value} {eu:υ→Value}
variable {P:Program} {n:Nat} {ops:Array Oper} {rest:List Oper} {Kw:Env→World→Prop} {σ:Env} {w w0:World} {h0 h:Heap} {own:Own} {ty:TypeId} {pos:String} {aft:Array Edge} {d:Nat} {dst:Option Tmp} {g:Option (Nat×Bool)}
theorem ziN (st:St h0 w0 h w own) {t:TypeId} (hd:Nat.blt d n=true)
  (hk:∀ v o w',OM ek eu ([]:List (κ×υ)) o v→St h0 w0 h w' (own++[o])→M P n ops rest Kw (upd σ d v) w') :
  M P n ops (⟨some d,.makeMap t none,ty,pos,aft,none⟩::rest) Kw σ w:=by
 refine zax rfl hd (v:=.map (some w.heap.size)) (w':=w.alloc (.map #[] 0)) ?_ (hk _ [(w.heap.size,.map #[] 0)] _ ⟨_,_,_,rfl,rfl,trivial,by simp,by simp⟩ (st.alloc _));simp[Run,execOp,Instr.makeMap]
theorem zmS [DecidableEq κ] (hK:Key P kt kind ek) (k:κ) (es:List MapEntry) (r:Option (Nat×Value)) (h:Instr.findNow kind (ek k) es 0=some r) (w:World):(Instr.findKey kt (ek k) es).run P w=.ok r w:=by
 simp[Instr.findKey,run_underlying hK.under,h]
theorem zEH [DecidableEq κ] {t: TypeId} {m:List (κ×υ)} {k:κ} (hK:Key P kt kind ek) (ht:P.underlying t=some (.map kt et)) (hM:OM ek eu m o v) (hw:∀ b ob,o=[(b,ob)]→w.heap[b]?=some ob) (hz:∀ w,(zeroValue et).run P w=.ok zv w) (hx:ev σ x=v) (hy:ev σ y=ek k):
  Run P σ w ⟨dst,.lookup t x y false,ty,pos,aft,g⟩ (match zcI m k with|some u=>eu u|none=>zv) w:=by
 obtain ⟨b,es,clock,rfl,rfl,hE,_,_⟩:=hM;have hb:=hw b _ rfl;have hgo:∀ r,Instr.findNow kind (ek k) es.toList 0=some r→(Instr.lookup t (.map (some b)) (ek k) false).run P w=.ok (match r with|some (_,v)=>v|none=>zv) w:=by
  intro r hr;have hf:=zmS hK k es.toList r hr w;have hc:=hK.check es.isEmpty k w;have hg:(getObj b).run P w=.ok (.map es clock) w:=by simp[getObj,Sem.run,hb]
  simp only[Instr.lookup,Sem.run_bind,run_underlying ht,Result.andThen_ok,hg,Sem.run_pure,hc,hf];cases r with
  | none=>simp[hz]
  | some r=>simp
 cases hl:zcI m k with
 | none=>
  have:=hgo _ (zqp hK.tells 0 hE hl);simp[Run,execOp,hx,hy,this]
 | some u=>
  obtain ⟨j,_,_,_,h4⟩:=zqo hK.tells 0 hE hl;have:=hgo _ h4;simp[Run,execOp,hx,hy,this]
theorem zAF [DecidableEq κ] {t: TypeId} {m:List (κ×υ)} {k:κ} (hK:Key P kt kind ek) (ht:P.underlying t=some (.map kt et)) (hM:OM ek eu m o v) (hw:∀ b ob,o=[(b,ob)]→w.heap[b]?=some ob) (hz:∀ w,(zeroValue et).run P w=.ok zv w) (hx:ev σ x=v) (hy:ev σ y=ek k):
  Run P σ w ⟨dst,.lookup t x y true,ty,pos,aft,g⟩ (.tuple #[match zcI m k with|some u=>eu u|none=>zv,.bool (zcI m k).isSome]) w:=by
 obtain ⟨b,es,clock,rfl,rfl,hE,_,_⟩:=hM;have hb:=hw b _ rfl;have hgo:∀ r,Instr.findNow kind (ek k) es.toList 0=some r→(Instr.lookup t (.map (some b)) (ek k) true).run P w=.ok (.tuple #[match r with|some (_,v)=>v|none=>zv,.bool r.isSome]) w:=by
  intro r hr;have hf:=zmS hK k es.toList r hr w;have hc:=hK.check es.isEmpty k w;have hg:(getObj b).run P w=.ok (.map es clock) w:=by simp[getObj,Sem.run,hb]
  simp only[Instr.lookup,Sem.run_bind,run_underlying ht,Result.andThen_ok,hg,Sem.run_pure,hc,hf];cases r with
  | none=>simp[hz]
  | some r=>simp
 cases hl:zcI m k with
 | none=>
  have:=hgo _ (zqp hK.tells 0 hE hl);simp[Run,execOp,hx,hy,this]
 | some u=>
  obtain ⟨j,_,_,_,h4⟩:=zqo hK.tells 0 hE hl;have:=hgo _ h4;simp[Run,execOp,hx,hy,this]
theorem zEI [DecidableEq κ] {t: TypeId} {m:List (κ×υ)} {k:κ} {zu:υ} (hK:Key P kt kind ek) (ht:P.underlying t=some (.map kt et)) (hM:OM ek eu m o v) (hw:∀ b ob,o=[(b,ob)]→w.heap[b]?=some ob) (hz:∀ w,(zeroValue et).run P w=.ok zv w) (hzu:zv=eu zu) (hx:ev σ x=v) (hy:ev σ y=ek k):
  Run P σ w ⟨dst,.lookup t x y false,ty,pos,aft,g⟩ (eu ((zcI m k).getD zu)) w:=by
 have:=zEH (P:=P) (σ:=σ) (w:=w) (ty:=ty) (pos:=pos) (aft:=aft) (dst:=dst) (g:=g) hK ht hM hw hz hx hy;subst hzu;cases h:zcI m k <;> simpa [h] using this
theorem zDx [DecidableEq κ] {t: TypeId} {m:List (κ×υ)} {k:κ} {zu:υ} (hK:Key P kt kind ek) (ht:P.underlying t=some (.map kt et)) (hM:OM ek eu m o v) (hw:∀ b ob,o=[(b,ob)]→w.heap[b]?=some ob) (hz:∀ w,(zeroValue et).run P w=.ok zv w) (hzu:zv=eu zu) (hx:ev σ x=v) (hy:ev σ y=ek k):
  Run P σ w ⟨dst,.lookup t x y true,ty,pos,aft,g⟩ (.tuple [eu ((zcI m k).getD zu),.bool (zcI m k).isSome].toArray) w:=by
 have:=zAF (P:=P) (σ:=σ) (w:=w) (ty:=ty) (pos:=pos) (aft:=aft) (dst:=dst) (g:=g) hK ht hM hw hz hx hy;subst hzu;cases h:zcI m k <;> simpa [h] using this
theorem St.ent {h0 h:Heap} {w0 w:World} {own:Own} (st:St h0 w0 h w own) {k:Nat} (hk:own[k]?=some o):∀ b ob,o=[(b,ob)]→w.heap[b]?=some ob:=fun _ _ e=>st.get (e▸hk)
theorem zpv [DecidableEq κ] {t: TypeId} {z: Operand} {m:List (κ×υ)} {k:κ} {u:υ} {i:Nat} (st:St h0 w0 h w own) (hM:OM ek eu m o v) (hi:own[i]?=some o) (hn:(m.map (·.1)).Nodup) (hK:Key P kt kind ek) (ht:P.underlying t=some (.map kt et)) (hx:ev σ x=v) (hy:ev σ y=ek k) (hz:ev σ z=eu u) (hk:∀ o' w' own',own'=own.set i o'→OM ek eu (ziL m k u) o' v→((ziL m k u).map (·.1)).Nodup→St h0 w0 h w' own'→M P n ops rest Kw σ w'):
  M P n ops (⟨none,.mapUpdate t x y z,ty,pos,aft,none⟩::rest) Kw σ w:=by
 obtain ⟨b,es,clock,rfl,rfl,hE,hB,hD⟩:=hM;have hb:=st.get hi;have hg:(getObj b).run P w=.ok (.map es clock) w:=by simp[getObj,Sem.run,hb]
 have hset:∀ es' c',(setObj b (.map es' c')).run P w=.ok () { w with heap:=w.heap.setIfInBounds b (.map es' c') }:=by
  intro es' c';simp[setObj,Sem.run,hb]
 have hc:=hK.check false k w;cases hl:zcI m k with
 | none=>
  have hf:=zmS hK k es.toList none (zqp hK.tells 0 hE hl) w;have hp:ziL m k u=m++[(k,u)]:=by simp[ziL,hl]
  refine zov rfl rfl (w':={ w with heap:=w.heap.setIfInBounds b (.map (es.push { key:=ek k,val:=eu u,born:=clock }) (clock+1)) }) ?_ (hk _ _ _ rfl ⟨b,es.push { key:=ek k,val:=eu u,born:=clock },clock+1,rfl,rfl,?_,?_,?_⟩ ?_ (st.set _ hi))
  ·simp only[execOp,hx,hy,hz,Instr.mapUpdate,Sem.run_bind,run_underlying ht,Result.andThen_ok,hg,hc,hf,hset,Sem.run_pure]
  ·rw[hp,zfR];exact hE.snoc rfl rfl
  ·intro e he;rw[zfR,zcq] at he
   rcases he with he|he
   ·exact Nat.lt_succ_of_lt (hB e he)
   ·simp at he;subst he;exact Nat.lt_succ_self _
  ·rw[zfR,zaz,zcx];refine ⟨hD,by simp,fun a ha c hc'=>?_⟩;simp at hc';subst hc';obtain ⟨e,he,rfl⟩:=zbk.1 ha;exact Nat.ne_of_lt (hB e he)
  ·rw[hp,zaz,zcx];refine ⟨hn,by simp,fun a ha c hc'=>?_⟩;simp at hc';subst hc';rintro rfl;obtain ⟨p,hp',rfl⟩:=zbk.1 ha;have:(m.find? fun q=>decide (q.1=p.1)).isSome=true:=by
    rw[List.find?_isSome];exact ⟨p,hp',by simp⟩
   simp only[zcI,Option.map_eq_none_iff] at hl;rw[hl] at this;cases this
 | some q=>
  obtain ⟨j,h1,h2,_,h4⟩:=zqo hK.tells 0 hE hl;have hf:=zmS hK k es.toList _ h4 w;simp only[zdv] at hf;have hlen:=hE.len;have hp:ziL m k u=m.map fun p=>if p.1=k then (k,u) else p:=by simp[ziL,hl]
  have hkey:((es[j]?).map (·.key)).getD (ek k)=ek k:=by
   have h5:∀ {es:List MapEntry} {m:List (κ×υ)} {j:Nat} {p:κ×υ},Ent ek eu es m→m[j]?=some p→∃ e,es[j]?=some e∧e.key=ek p.1:=by
    intro es
    induction es with
    | nil=>intro m j p hE hj;cases m with
     | nil=>simp at hj
     | cons=>exact hE.elim
    | cons e es ih=>intro m j p hE hj;cases m with
     | nil=>exact hE.elim
     | cons r m=>cases j with
      | zero=>simp at hj;subst hj;exact ⟨e,rfl,hE.1⟩
      | succ j=>obtain ⟨e',h6,h7⟩:=ih hE.2.2 (by simpa using hj);exact ⟨e',by simpa using h6,h7⟩
   obtain ⟨e,h6,h7⟩:=h5 hE h2;rw[← zgu,h6];simpa using h7
  refine zov rfl rfl (w':={ w with heap:=w.heap.setIfInBounds b (.map (es.modify j fun e=>{ e with key:=ek k,val:=eu u }) clock) }) ?_ (hk _ _ _ rfl ⟨b,es.modify j fun e=>{ e with key:=ek k,val:=eu u },clock,rfl,rfl,?_,?_,?_⟩ ?_ (st.set _ hi))
  ·simp only[execOp,hx,hy,hz,Instr.mapUpdate,Sem.run_bind,run_underlying ht,Result.andThen_ok,hg,hc,hf,hkey,Instr.keyThatStays,hK.stays,if_true,hset,Sem.run_pure]
  ·rw[hp,zet];exact hE.modify hn h2
  ·intro e he;rw[zet] at he;obtain ⟨i',hi'⟩:=k_List_mem_iff_getElem_.1 he;rw[zfx] at hi';cases h8:es.toList[i']? with
   | none=>simp[h8] at hi'
   | some e'=>
    simp only[h8,zck] at hi';have:=hB e' (zD h8);split at hi' <;> (cases hi';exact this)
  ·have h9:((es.modify j fun e=>{ e with key:=ek k,val:=eu u }).toList.map (·.born))=es.toList.map (·.born):=by
    rw[zet];apply zeF;intro i';rw[zcy,zcy,zfx];cases es.toList[i']? with
    | none=>rfl
    | some e'=>simp only[zck];split <;> rfl
   rw[h9];exact hD
  ·have h10:(ziL m k u).map (·.1)=m.map (·.1):=by
    rw[hp,zhf];apply zgo;intro p _;simp only[Function.comp];split
    ·rename_i e;exact e.symm
    ·rfl
   rw[h10];exact hn
end
section
variable {P:Program} {n:Nat} {Q:Exit→Env→World→Prop} {σ:Env} {w:World}
def zsQ (Q:Exit→Env→World→Prop):Exit→Env→World→Prop
 | .goto _,_,_=>False
 | e,σ,w=>Q e σ w
theorem zzS (h:W P n c (zsQ Q) σ w):W P n (.scope c) Q σ w:=by
 intro a ha;refine wp_scope_straight (Code.wp_mono ?_ (h a ha));rintro e a' w' ⟨σ',hf,q⟩;cases e <;> first|exact ⟨σ',hf,q⟩|exact q.elim
theorem zsQ.exit {id:Nat} (h:Q (.exit id) σ w):zsQ Q (.exit id) σ w:=h
theorem zlS (h:Q .ret σ w):zsQ Q .ret σ w:=h
end
theorem zyu {ops:Array Oper} {rest:List Oper} {Kw:Env→World→Prop} {own:Own} {sT dT: TypeId} (st:St h0 w0 h w own) (hx:ev σ x=zae s) (hl:s.length≤281474976710656) (hd:Nat.blt d n=true) (hs:P.underlying sT=some .string) (ht:P.underlying dT=some (.slice e)) (he:P.underlying e=some (.int .u8)) (hsz:∀ w,(sizeOf e).run P w=.ok 1 w) (hk:∀ v w' h',Le h h'→Sl LU8 h' v (s.map fun c=>(c.toNat:Int))→St h0 w0 h' w' own→M P n ops rest Kw (upd σ d v) w'):
  M P n ops (⟨some d,.convert sT dT x,ty,pos,aft,none⟩::rest) Kw σ w:=by
 have hr:=run_bytes_of_string (P:=P) w sT dT e ⟨s.toArray⟩ hs ht he;have hge:=grownCap_ge w (⟨s.toArray⟩:ByteArray).size 0 e;generalize hcap:grownCap w (⟨s.toArray⟩:ByteArray).size 0 e=cap at hr hge;generalize hrow:bytesRow ⟨s.toArray⟩ cap=row at hr;have st':=(st.drew).alloc (.cells row e (row.size,row.size+1));obtain ⟨h',hl',hb,st''⟩:=st'.freeze (k:=own.length) (b:=w.heap.size) (o:=.cells row e (row.size,row.size+1)) (by simp);have e1:(own++[[(w.drew.heap.size,Obj.cells row e (row.size,row.size+1))]]).set own.length []=own++[[]]:=by simp
 rw[e1] at st'';have st3:St h0 w0 h' (w.drew.alloc (.cells row e (row.size,row.size+1))) own:=⟨st''.le,st''.new,st''.sub,st''.below,fun p hp=>st''.mine p (by simpa using hp),by simpa using st''.nodup⟩;refine zax rfl hd (v:=.slice (some ⟨w.heap.size,0,none⟩) (⟨s.toArray⟩:ByteArray).size cap) (w':=w.drew.alloc (.cells row e (row.size,row.size+1))) ?_ (hk _ _ h' hl' ?_ st3)
 ·simp only[zae] at hx;simp[Run,execOp,hx,hr]
 ·refine ⟨_,cap,by simp[ByteArray.size],⟨by simpa [big] using hl,by simpa [ByteArray.size] using hge⟩,.inr ⟨w.heap.size,0,rfl,fun i x hi=>⟨_,⟨row,e,_,hb,fun j u hj=>?_⟩,⟨rfl,?_⟩⟩⟩⟩
  ·cases j with
   | zero=>
    simp only[zeL,zeS] at hj;subst hj;simp only[zcy,zfB] at hi;obtain ⟨c,hc,rfl⟩:=hi;obtain ⟨h1,h2⟩:=k_List_getElem__eq_some_iff.1 hc;have:=bytesRow_at ⟨s.toArray⟩ cap i (by simpa using h1);rw[← hrow];simp only[LU8,zif,zdv,Nat.add_zero];rw[this];simp[h2]
   | succ j=>simp at hj
  ·simp only[zcy,zfB] at hi;obtain ⟨c,_,rfl⟩:=hi;have:=c.toNat_lt;omega
end Go.Pk
