/- A PART OF THE PROOF: contracts of functions, each walked once (much of it printed by a program of the author's own). -/
import Derived.Test.YtjkkoclmagdpoaaGreatDoorT2
import Derived.Test.YtjkkoclmagdpoaaGreatDoorT0
import Derived.Test.YtjkkoclmagdpoaaGreatDoorT3
import Derived.Test.YtjkkoclmagdpoaaGreatDoorT1
set_option linter.unusedSimpArgs false
set_option linter.unusedVariables false
set_option maxRecDepth 4000
namespace Go.Pk
open Go Go.RowKit
variable {a b i:Int} {p:Prop} {α β:Type} {l l':List Oper} {k n d m off off' o j u:Nat} {h h0:Heap} {w w0:World} {P:Program} {Q:Exit→Env→World→Prop} {σ σ':Env} {c x y ix:Operand} {ops:Array Oper} {K:Env→World→Prop} {C:World→Prop} {t' s e T kt et:TypeId} {v zv c':Value} {vs cs hds:List Value} {bv:Bool} {fs:Array Field} {f f0 f1 f2 f3 f4:Field} {L:Lay α} {xs:List α} {fr:Nat×Nat} {fn:Func} {a':α} {b':β} {hd:Head} {R:Ending→World→Prop} {r:Reading}
theorem Y {α:Sort _} {a:α}:a=a:=rfl
theorem zbL (h:p:=by kernel_rfl):p:=h
theorem zbq (h:p:=by first|assumption|(simp[big];done)|(simp[big];omega)|omega):p:=h
theorem zdb (h:p:=by first|assumption|decide|omega|(dsimp only;omega)|(simp;omega)):p:=h
theorem zaS (h:p:=by first|omega|(simp;omega)):p:=h
theorem zdK (h:p:=by first|omega|(simp only[List.length_append,List.length_take,List.length_drop,List.length_map,List.length_cons,List.length_nil];omega)|(simp;omega)):p:=h
theorem zaR (h:p:=by repeat (first|exact zzi _ _ _|exact zmV _ _|refine zxI rfl ?_|refine zod rfl ?_|refine zrv rfl ?_|refine zzh rfl ?_)):p:=h
theorem zbm (h:p:=by first|omega|simp|trivial):p:=h
theorem zrU [Decidable p] (h:decide p=false):¬ p:=of_decide_eq_false h
theorem zrT [Decidable p] (h:decide p=true):p:=of_decide_eq_true h
theorem zch {l:List α} (h:k<l.length):∃ y,l[k]?=some y:=⟨_,List.getElem?_eq_getElem h⟩
def zcp (a n:Nat):List Nat:=List.range' a n
theorem zbM (hs:Sub h w):St h w h w []:=St.start hs
theorem zS {x y:Code} [Decidable p] (hc:ev σ c=.bool (decide p)) (ht:p→W P n x Q σ w) (hf:¬ p→W P n y Q σ w):W P n (.cond c x y) Q σ w:=zap hc (fun h=>ht (of_decide_eq_true h)) (fun h=>hf (of_decide_eq_false h))
theorem zaC [Decidable p] (hv:σ d=.bool (decide p)) (h1:p→E P n ops l K (upd σ d (.bool true)) w) (h2:¬ p→E P n ops l K (upd σ d (.bool false)) w):E P n ops l K σ w:=zbp hv (fun h=>h1 (of_decide_eq_true h)) (fun h=>h2 (of_decide_eq_false h))
theorem zeI {K:Env→Prop} [Decidable p] (hv:σ d=.bool (decide p)) (h1:p→zaA P n ops C l K (upd σ d (.bool true))) (h2:¬ p→zaA P n ops C l K (upd σ d (.bool false))):zaA P n ops C l K σ:=zfd hv (fun h=>h1 (of_decide_eq_true h)) (fun h=>h2 (of_decide_eq_false h))
section
variable {P:Program} {n:Nat} {ops:Array Oper} {rest:List Oper} {K:Env→World→Prop} {C:World→Prop} {σ:Env} {w:World} {ty:TypeId} {pos:String} {aft:Array Edge} {d:Nat}
theorem zx {id:Nat} {y:Code} (h:E P n l.toArray l (fun σ w=>zV (W P n y Q) Q .normal σ w) σ w):W P n (.seq (.region id l.toArray false) y) Q σ w:=zaH (zag h)
theorem zb {K':Env→World→Prop} (h:K' σ w):E P n ops [] (fun σ w=>zV K' Q .normal σ w) σ w:=zB (zz h)
end
section
variable {P:Program} {nT:Nat} {opT:Array Oper} {rsT:List Oper} {KT:Env→World→Prop} {CT:World→Prop} {σ:Env} {w:World} {ty:TypeId} {pos:String} {aft:Array Edge} {dT:Nat}
theorem zDn {t: TypeId} (hx:ev σ x=.int .i64 a) (hy:ev σ y=.int .i64 b) (hb:-9223372036854775808≤a+b∧a+b≤9223372036854775807) (hdT:Nat.blt dT nT=true) (hKT:E P nT opT rsT KT (upd σ dT (.int .i64 (a+b))) w):E P nT opT (⟨some dT,.binOp .add t x y t',ty,pos,aft,none⟩::rsT) KT σ w:=zar rfl hdT (zjC hx hy hb) hKT
theorem zy {t: TypeId} (hE_:(ev σ x,ev σ y,Nat.blt dT nT)=(.int .i64 a,.int .i64 b,true)) (hb:-9223372036854775808≤a+b∧a+b≤9223372036854775807) (hKT:E P nT opT rsT KT (upd σ dT (.int .i64 (a+b))) w):E P nT opT (⟨some dT,.binOp .add t x y t',ty,pos,aft,none⟩::rsT) KT σ w:=zDn (zdM hE_) (zdM (zca hE_)) hb (zca (zca hE_)) hKT
theorem zzo {KT:Env→Prop} {t: TypeId} (hx:ev σ x=.int .i64 a) (hy:ev σ y=.int .i64 b) (hb:-9223372036854775808≤a+b∧a+b≤9223372036854775807) (hdT:Nat.blt dT nT=true) (hKT:zaA P nT opT CT rsT KT (upd σ dT (.int .i64 (a+b)))):zaA P nT opT CT (⟨some dT,.binOp .add t x y t',ty,pos,aft,none⟩::rsT) KT σ:=zbU rfl hdT (fun _ _=>zjC hx hy hb) hKT
theorem zDm {a:Bool} (hv:ev σ x=.bool a) (hdT:Nat.blt dT nT=true) (hKT:E P nT opT rsT KT (upd σ dT (.bool a)) w):E P nT opT (⟨some dT,.assign x,ty,pos,aft,none⟩::rsT) KT σ w:=zar rfl hdT (zpH hv) hKT
theorem zd {a:Bool} (hE_:(ev σ x,Nat.blt dT nT)=(.bool a,true)) (hKT:E P nT opT rsT KT (upd σ dT (.bool a)) w):E P nT opT (⟨some dT,.assign x,ty,pos,aft,none⟩::rsT) KT σ w:=zDm (zdM hE_) (zca hE_) hKT
theorem zjS {KT:Env→Prop} {a:Bool} (hv:ev σ x=.bool a) (hdT:Nat.blt dT nT=true) (hKT:zaA P nT opT CT rsT KT (upd σ dT (.bool a))):zaA P nT opT CT (⟨some dT,.assign x,ty,pos,aft,none⟩::rsT) KT σ:=zbU rfl hdT (fun _ _=>zpH hv) hKT
theorem zDl {k:IntKind} (hv:ev σ x=.int k a) (hdT:Nat.blt dT nT=true) (hKT:E P nT opT rsT KT (upd σ dT (.int k a)) w):E P nT opT (⟨some dT,.assign x,ty,pos,aft,none⟩::rsT) KT σ w:=zar rfl hdT (zns hv) hKT
theorem zc {k:IntKind} (hE_:(ev σ x,Nat.blt dT nT)=(.int k a,true)) (hKT:E P nT opT rsT KT (upd σ dT (.int k a)) w):E P nT opT (⟨some dT,.assign x,ty,pos,aft,none⟩::rsT) KT σ w:=zDl (zdM hE_) (zca hE_) hKT
theorem zBW {KT:Env→Prop} {k:IntKind} (hv:ev σ x=.int k a) (hdT:Nat.blt dT nT=true) (hKT:zaA P nT opT CT rsT KT (upd σ dT (.int k a))):zaA P nT opT CT (⟨some dT,.assign x,ty,pos,aft,none⟩::rsT) KT σ:=zbU rfl hdT (fun _ _=>zns hv) hKT
theorem zcP {a:Option Addr} {c: Nat} (hv:ev σ x=.slice a m c) (hdT:Nat.blt dT nT=true) (hKT:E P nT opT rsT KT (upd σ dT (.slice a m c)) w):E P nT opT (⟨some dT,.assign x,ty,pos,aft,none⟩::rsT) KT σ w:=zar rfl hdT (zDu hv) hKT
theorem zjx {a:Option Addr} (hv:ev σ x=.pointer a) (hdT:Nat.blt dT nT=true) (hKT:E P nT opT rsT KT (upd σ dT (.pointer a)) w):E P nT opT (⟨some dT,.assign x,ty,pos,aft,none⟩::rsT) KT σ w:=zar rfl hdT (zDt hv) hKT
theorem zff {a:Str} (hv:ev σ x=zae a) (hdT:Nat.blt dT nT=true) (hKT:E P nT opT rsT KT (upd σ dT (zae a)) w):E P nT opT (⟨some dT,.assign x,ty,pos,aft,none⟩::rsT) KT σ w:=zar rfl hdT (zxP hv) hKT
theorem zvF {KT:Env→Prop} {a:Str} (hv:ev σ x=zae a) (hdT:Nat.blt dT nT=true) (hKT:zaA P nT opT CT rsT KT (upd σ dT (zae a))):zaA P nT opT CT (⟨some dT,.assign x,ty,pos,aft,none⟩::rsT) KT σ:=zbU rfl hdT (fun _ _=>zxP hv) hKT
theorem zdo (hv:ev σ x=v) (hdT:Nat.blt dT nT=true) (hKT:E P nT opT rsT KT (upd σ dT v) w):E P nT opT (⟨some dT,.assign x,ty,pos,aft,none⟩::rsT) KT σ w:=zar rfl hdT (zjB hv) hKT
theorem zH (v:Value) (hE_:(ev σ x,Nat.blt dT nT)=(v,true)) (hKT:E P nT opT rsT KT (upd σ dT v) w):E P nT opT (⟨some dT,.assign x,ty,pos,aft,none⟩::rsT) KT σ w:=zdo (zdM hE_) (zca hE_) hKT
theorem zvE {KT:Env→Prop} (hv:ev σ x=v) (hdT:Nat.blt dT nT=true) (hKT:zaA P nT opT CT rsT KT (upd σ dT v)):zaA P nT opT CT (⟨some dT,.assign x,ty,pos,aft,none⟩::rsT) KT σ:=zbU rfl hdT (fun _ _=>zjB hv) hKT
theorem zeb {t: TypeId} {k:IntKind} (hx:ev σ x=.int k a) (hy:ev σ y=.int k b) (hdT:Nat.blt dT nT=true) (hKT:E P nT opT rsT KT (upd σ dT (.bool (decide (a=b)))) w):E P nT opT (⟨some dT,.binOp .eql t x y t',ty,pos,aft,none⟩::rsT) KT σ w:=zar rfl hdT (zCd hx hy) hKT
theorem znl {KT:Env→Prop} {t: TypeId} {k:IntKind} (hx:ev σ x=.int k a) (hy:ev σ y=.int k b) (hdT:Nat.blt dT nT=true) (hKT:zaA P nT opT CT rsT KT (upd σ dT (.bool (decide (a=b))))):zaA P nT opT CT (⟨some dT,.binOp .eql t x y t',ty,pos,aft,none⟩::rsT) KT σ:=zbU rfl hdT (fun _ _=>zCd hx hy) hKT
theorem zgl (hx:ev σ x=.tuple vs.toArray) (hv:vs[k]?=some v) (hdT:Nat.blt dT nT=true) (hKT:E P nT opT rsT KT (upd σ dT v) w):E P nT opT (⟨some dT,.extract x k,ty,pos,aft,none⟩::rsT) KT σ w:=zar rfl hdT (zft hx hv) hKT
theorem zaL (v:Value) (hE_:(ev σ x,vs[k]?,Nat.blt dT nT)=(.tuple vs.toArray,some v,true)) (hKT:E P nT opT rsT KT (upd σ dT v) w):E P nT opT (⟨some dT,.extract x k,ty,pos,aft,none⟩::rsT) KT σ w:=zgl (zdM hE_) (zdM (zca hE_)) (zca (zca hE_)) hKT
theorem zbQ {av:Addr} (hE_:(ev σ x,vs[k]?,Nat.blt dT nT)=(.tuple vs.toArray,some (Value.pointer (some av)),true)) (hKT:E P nT opT rsT KT (upd σ dT (Value.pointer (some av))) w):E P nT opT (⟨some dT,.extract x k,ty,pos,aft,none⟩::rsT) KT σ w:=zgl (zdM hE_) (zdM (zca hE_)) (zca (zca hE_)) hKT
theorem zR {kv:IntKind} {av:Int} (hE_:(ev σ x,vs[k]?,Nat.blt dT nT)=(.tuple vs.toArray,some (Value.int kv av),true)) (hKT:E P nT opT rsT KT (upd σ dT (Value.int kv av)) w):E P nT opT (⟨some dT,.extract x k,ty,pos,aft,none⟩::rsT) KT σ w:=zgl (zdM hE_) (zdM (zca hE_)) (zca (zca hE_)) hKT
theorem zbK (hE_:(ev σ x,vs[k]?,Nat.blt dT nT)=(.tuple vs.toArray,some (Value.bool bv),true)) (hKT:E P nT opT rsT KT (upd σ dT (Value.bool bv)) w):E P nT opT (⟨some dT,.extract x k,ty,pos,aft,none⟩::rsT) KT σ w:=zgl (zdM hE_) (zdM (zca hE_)) (zca (zca hE_)) hKT
theorem znR {KT:Env→Prop} (hx:ev σ x=.tuple vs.toArray) (hv:vs[k]?=some v) (hdT:Nat.blt dT nT=true) (hKT:zaA P nT opT CT rsT KT (upd σ dT v)):zaA P nT opT CT (⟨some dT,.extract x k,ty,pos,aft,none⟩::rsT) KT σ:=zbU rfl hdT (fun _ _=>zft hx hv) hKT
theorem zuS {b: Nat} (hx:ev σ x=.pointer (some ⟨b,off,none⟩)) (hu:P.underlying s=some (.struct fs)) (hf:fs[k]?=some f) (hz:∀ w,(sizeOf f.type).run P w=.ok (m+1) w) (ho:off+f.offset=off') (hdT:Nat.blt dT nT=true) (hKT:E P nT opT rsT KT (upd σ dT (.pointer (some ⟨b,off',none⟩))) w):E P nT opT (⟨some dT,.fieldAddr s x k,ty,pos,aft,none⟩::rsT) KT σ w:=zar rfl hdT (zmx hx hu hf hz ho) hKT
theorem U {b: Nat} (hu:P.underlying s=some (.struct fs)) (hE_:(ev σ x,fs[k]?,off+f.offset,Nat.blt dT nT)=(.pointer (some ⟨b,off,none⟩),some f,off',true)) (hz:∀ w,(sizeOf f.type).run P w=.ok (m+1) w) (hKT:E P nT opT rsT KT (upd σ dT (.pointer (some ⟨b,off',none⟩))) w):E P nT opT (⟨some dT,.fieldAddr s x k,ty,pos,aft,none⟩::rsT) KT σ w:=zuS (zdM hE_) hu (zdM (zca hE_)) hz (zdM (zca (zca hE_))) (zca (zca (zca hE_))) hKT
theorem zuU {KT:Env→Prop} {b: Nat} (hx:ev σ x=.pointer (some ⟨b,off,none⟩)) (hu:P.underlying s=some (.struct fs)) (hf:fs[k]?=some f) (hz:∀ w,(sizeOf f.type).run P w=.ok (m+1) w) (ho:off+f.offset=off') (hdT:Nat.blt dT nT=true) (hKT:zaA P nT opT CT rsT KT (upd σ dT (.pointer (some ⟨b,off',none⟩)))):zaA P nT opT CT (⟨some dT,.fieldAddr s x k,ty,pos,aft,none⟩::rsT) KT σ:=zbU rfl hdT (fun _ _=>zmx hx hu hf hz ho) hKT
theorem zD {KT:Env→Prop} {b: Nat} (hu:P.underlying s=some (.struct fs)) (hE_:(ev σ x,fs[k]?,off+f.offset,Nat.blt dT nT)=(.pointer (some ⟨b,off,none⟩),some f,off',true)) (hz:∀ w,(sizeOf f.type).run P w=.ok (m+1) w) (hKT:zaA P nT opT CT rsT KT (upd σ dT (.pointer (some ⟨b,off',none⟩)))):zaA P nT opT CT (⟨some dT,.fieldAddr s x k,ty,pos,aft,none⟩::rsT) KT σ:=zuU (zdM hE_) hu (zdM (zca hE_)) hz (zdM (zca (zca hE_))) (zca (zca (zca hE_))) hKT
theorem zkU {t: TypeId} {k:IntKind} (hx:ev σ x=.int k a) (hy:ev σ y=.int k b) (hdT:Nat.blt dT nT=true) (hKT:E P nT opT rsT KT (upd σ dT (.bool (decide (b≤a)))) w):E P nT opT (⟨some dT,.binOp .geq t x y t',ty,pos,aft,none⟩::rsT) KT σ w:=zar rfl hdT (zDs hx hy) hKT
theorem zfe {t: TypeId} {k:IntKind} (hx:ev σ x=.int k a) (hy:ev σ y=.int k b) (hdT:Nat.blt dT nT=true) (hKT:E P nT opT rsT KT (upd σ dT (.bool (decide (b<a)))) w):E P nT opT (⟨some dT,.binOp .gtr t x y t',ty,pos,aft,none⟩::rsT) KT σ w:=zar rfl hdT (zCc hx hy) hKT
theorem zBV {KT:Env→Prop} {t: TypeId} {k:IntKind} (hx:ev σ x=.int k a) (hy:ev σ y=.int k b) (hdT:Nat.blt dT nT=true) (hKT:zaA P nT opT CT rsT KT (upd σ dT (.bool (decide (b<a))))):zaA P nT opT CT (⟨some dT,.binOp .gtr t x y t',ty,pos,aft,none⟩::rsT) KT σ:=zbU rfl hdT (fun _ _=>zCc hx hy) hKT
theorem zwR {t: TypeId} {s b: Nat} (he:zlz v k s b o) (hx:ev σ x=v) (hi:ev σ ix=.int .i64 i) (hk:i=(k:Int)) (hu:P.underlying t=some (.slice e)) (hz:∀ w,(sizeOf e).run P w=.ok s w) (hdT:Nat.blt dT nT=true) (hKT:E P nT opT rsT KT (upd σ dT (.pointer (some ⟨b,o,none⟩))) w):E P nT opT (⟨some dT,.indexAddr t x ix,ty,pos,aft,none⟩::rsT) KT σ w:=zar rfl hdT (zbz he hx hi hk hu hz) hKT
theorem zL {t: TypeId} {s b: Nat} (he:zlz v k s b o) (hu:P.underlying t=some (.slice e)) (hz:∀ w,(sizeOf e).run P w=.ok s w) (hE_:(ev σ x,ev σ ix,i,Nat.blt dT nT)=(v,.int .i64 i,(k:Int),true)) (hKT:E P nT opT rsT KT (upd σ dT (.pointer (some ⟨b,o,none⟩))) w):E P nT opT (⟨some dT,.indexAddr t x ix,ty,pos,aft,none⟩::rsT) KT σ w:=zwR he (zdM hE_) (zdM (zca hE_)) (zdM (zca (zca hE_))) hu hz (zca (zca (zca hE_))) hKT
theorem zwS {KT:Env→Prop} {t: TypeId} {s b: Nat} (he:zlz v k s b o) (hx:ev σ x=v) (hi:ev σ ix=.int .i64 i) (hk:i=(k:Int)) (hu:P.underlying t=some (.slice e)) (hz:∀ w,(sizeOf e).run P w=.ok s w) (hdT:Nat.blt dT nT=true) (hKT:zaA P nT opT CT rsT KT (upd σ dT (.pointer (some ⟨b,o,none⟩)))):zaA P nT opT CT (⟨some dT,.indexAddr t x ix,ty,pos,aft,none⟩::rsT) KT σ:=zbU rfl hdT (fun _ _=>zbz he hx hi hk hu hz) hKT
theorem zaq {KT:Env→Prop} {t: TypeId} {s b: Nat} (he:zlz v k s b o) (hu:P.underlying t=some (.slice e)) (hz:∀ w,(sizeOf e).run P w=.ok s w) (hE_:(ev σ x,ev σ ix,i,Nat.blt dT nT)=(v,.int .i64 i,(k:Int),true)) (hKT:zaA P nT opT CT rsT KT (upd σ dT (.pointer (some ⟨b,o,none⟩)))):zaA P nT opT CT (⟨some dT,.indexAddr t x ix,ty,pos,aft,none⟩::rsT) KT σ:=zwS he (zdM hE_) (zdM (zca hE_)) (zdM (zca (zca hE_))) hu hz (zca (zca (zca hE_))) hKT
theorem zDk {t: TypeId} (hs:Sl L h v xs) (hx:ev σ x=v) (hu:P.underlying t=some (.slice e)) (hdT:Nat.blt dT nT=true) (hKT:E P nT opT rsT KT (upd σ dT (.int .i64 xs.length)) w):E P nT opT (⟨some dT,.call ⟨.builtin .len,#[x],#[t]⟩,ty,pos,aft,none⟩::rsT) KT σ w:=zar rfl hdT (znr hs hx hu) hKT
theorem zK {t: TypeId} (hs:Sl L h v xs) (hu:P.underlying t=some (.slice e)) (hE_:(ev σ x,Nat.blt dT nT)=(v,true)) (hKT:E P nT opT rsT KT (upd σ dT (.int .i64 xs.length)) w):E P nT opT (⟨some dT,.call ⟨.builtin .len,#[x],#[t]⟩,ty,pos,aft,none⟩::rsT) KT σ w:=zDk hs (zdM hE_) hu (zca hE_) hKT
theorem zpu {KT:Env→Prop} {t: TypeId} (hs:Sl L h v xs) (hx:ev σ x=v) (hu:P.underlying t=some (.slice e)) (hdT:Nat.blt dT nT=true) (hKT:zaA P nT opT CT rsT KT (upd σ dT (.int .i64 xs.length))):zaA P nT opT CT (⟨some dT,.call ⟨.builtin .len,#[x],#[t]⟩,ty,pos,aft,none⟩::rsT) KT σ:=zbU rfl hdT (fun _ _=>znr hs hx hu) hKT
theorem zin {o:List (Nat×Obj)} {t: TypeId} (hs:OSl L T h v xs o) (hx:ev σ x=v) (hu:P.underlying t=some (.slice e)) (hdT:Nat.blt dT nT=true) (hKT:E P nT opT rsT KT (upd σ dT (.int .i64 xs.length)) w):E P nT opT (⟨some dT,.call ⟨.builtin .len,#[x],#[t]⟩,ty,pos,aft,none⟩::rsT) KT σ w:=zar rfl hdT (zus hs hx hu) hKT
theorem zym {KT:Env→Prop} {o:List (Nat×Obj)} {t: TypeId} (hs:OSl L T h v xs o) (hx:ev σ x=v) (hu:P.underlying t=some (.slice e)) (hdT:Nat.blt dT nT=true) (hKT:zaA P nT opT CT rsT KT (upd σ dT (.int .i64 xs.length))):zaA P nT opT CT (⟨some dT,.call ⟨.builtin .len,#[x],#[t]⟩,ty,pos,aft,none⟩::rsT) KT σ:=zbU rfl hdT (fun _ _=>zus hs hx hu) hKT
theorem zdG {t:TypeId} {s:Str} (hx:ev σ x=zae s) (hu:P.underlying t=some .string) (hdT:Nat.blt dT nT=true) (hKT:E P nT opT rsT KT (upd σ dT (.int .i64 s.length)) w):E P nT opT (⟨some dT,.call ⟨.builtin .len,#[x],#[t]⟩,ty,pos,aft,none⟩::rsT) KT σ w:=zar rfl hdT (zur hx hu) hKT
theorem zyl {KT:Env→Prop} {t:TypeId} {s:Str} (hx:ev σ x=zae s) (hu:P.underlying t=some .string) (hdT:Nat.blt dT nT=true) (hKT:zaA P nT opT CT rsT KT (upd σ dT (.int .i64 s.length))):zaA P nT opT CT (⟨some dT,.call ⟨.builtin .len,#[x],#[t]⟩,ty,pos,aft,none⟩::rsT) KT σ:=zbU rfl hdT (fun _ _=>zur hx hu) hKT
theorem zez {b: Nat} {t:TypeId} (hb:w.heap[b]?=some (.cells cs.toArray T fr)) (hx:ev σ x=.pointer (some ⟨b,off,none⟩)) (hv:cs[off]?=some v) (ha:∀ w,(isAgg t).run P w=.ok false w) (hdT:Nat.blt dT nT=true) (hKT:E P nT opT rsT KT (upd σ dT v) w):E P nT opT (⟨some dT,.load t x,ty,pos,aft,none⟩::rsT) KT σ w:=zar rfl hdT (zji hb hx hv ha) hKT
theorem zcI {b: Nat} {t:TypeId} (hb:w.heap[b]?=some (.cells cs.toArray T fr)) (hx:ev σ x=.pointer (some ⟨b,0,none⟩)) (ha:∀ w,(isAgg t).run P w=.ok true w) (hz:∀ w,(sizeOf t).run P w=.ok m w) (hn:cs.length=m) (hdT:Nat.blt dT nT=true) (hKT:E P nT opT rsT KT (upd σ dT (.agg cs.toArray)) w):E P nT opT (⟨some dT,.load t x,ty,pos,aft,none⟩::rsT) KT σ w:=zar rfl hdT (zre hb hx ha hz hn) hKT
theorem zhQ (hs:Sub h w) {t:TypeId} {b: Nat} (hc:zay h b o vs) (hx:ev σ x=.pointer (some ⟨b,o,none⟩)) (ha:∀ w,(isAgg t).run P w=.ok true w) (hz:∀ w,(sizeOf t).run P w=.ok m w) (hn:vs.length=m) (hdT:Nat.blt dT nT=true) (hKT:E P nT opT rsT KT (upd σ dT (.agg vs.toArray)) w):E P nT opT (⟨some dT,.load t x,ty,pos,aft,none⟩::rsT) KT σ w:=zar rfl hdT (zW hs hc hx ha hz hn) hKT
theorem zg {t:TypeId} {b: Nat} (hs:Sub h w) (hc:zay h b o vs) (ha:∀ w,(isAgg t).run P w=.ok true w) (hz:∀ w,(sizeOf t).run P w=.ok m w) (hE_:(ev σ x,vs.length,Nat.blt dT nT)=(.pointer (some ⟨b,o,none⟩),m,true)) (hKT:E P nT opT rsT KT (upd σ dT (.agg vs.toArray)) w):E P nT opT (⟨some dT,.load t x,ty,pos,aft,none⟩::rsT) KT σ w:=zhQ hs hc (zdM hE_) ha hz (zdM (zca hE_)) (zca (zca hE_)) hKT
theorem zty (hs:Sub h w) {t:TypeId} {b: Nat} (hc:zay h b off vs) (hx:ev σ x=.pointer (some ⟨b,off',none⟩)) (ho:off'=off+j) (hv:vs[j]?=some v) (ha:∀ w,(isAgg t).run P w=.ok false w) (hdT:Nat.blt dT nT=true) (hKT:E P nT opT rsT KT (upd σ dT v) w):E P nT opT (⟨some dT,.load t x,ty,pos,aft,none⟩::rsT) KT σ w:=zar rfl hdT (zX hs hc hx ho hv ha) hKT
theorem M {t:TypeId} (j:Nat) {b: Nat} (hs:Sub h w) (hc:zay h b off vs) (ha:∀ w,(isAgg t).run P w=.ok false w) (hE_:(ev σ x,off',vs[j]?,Nat.blt dT nT)=(.pointer (some ⟨b,off',none⟩),off+j,some v,true)) (hKT:E P nT opT rsT KT (upd σ dT v) w):E P nT opT (⟨some dT,.load t x,ty,pos,aft,none⟩::rsT) KT σ w:=zty hs hc (zdM hE_) (zdM (zca hE_)) (zdM (zca (zca hE_))) ha (zca (zca (zca hE_))) hKT
theorem ztx (hs:Sub h w) {t:TypeId} {b: Nat} {us: List Value} (hc:zay h b off vs) (hx:ev σ x=.pointer (some ⟨b,off',none⟩)) (ho:off'=off+j) (ha:∀ w,(isAgg t).run P w=.ok true w) (hz:∀ w,(sizeOf t).run P w=.ok n w) (hu:(vs.drop j).take n=us) (hn:us.length=n) (hdT:Nat.blt dT nT=true) (hKT:E P nT opT rsT KT (upd σ dT (.agg us.toArray)) w):E P nT opT (⟨some dT,.load t x,ty,pos,aft,none⟩::rsT) KT σ w:=zar rfl hdT (zfI hs hc hx ho ha hz hu hn) hKT
theorem zw {t:TypeId} (j:Nat) {b: Nat} (us:List Value) (hs:Sub h w) (hc:zay h b off vs) (ha:∀ w,(isAgg t).run P w=.ok true w) (hz:∀ w,(sizeOf t).run P w=.ok n w) (hE_:(ev σ x,off',(vs.drop j).take n,us.length,Nat.blt dT nT)=(.pointer (some ⟨b,off',none⟩),off+j,us,n,true)) (hKT:E P nT opT rsT KT (upd σ dT (.agg us.toArray)) w):E P nT opT (⟨some dT,.load t x,ty,pos,aft,none⟩::rsT) KT σ w:=ztx hs hc (zdM hE_) (zdM (zca hE_)) ha hz (zdM (zca (zca hE_))) (zdM (zca (zca (zca hE_)))) (zca (zca (zca (zca hE_)))) hKT
theorem zDj {t: TypeId} {k:IntKind} (hx:ev σ x=.int k a) (hy:ev σ y=.int k b) (hdT:Nat.blt dT nT=true) (hKT:E P nT opT rsT KT (upd σ dT (.bool (decide (a<b)))) w):E P nT opT (⟨some dT,.binOp .lss t x y t',ty,pos,aft,none⟩::rsT) KT σ w:=zar rfl hdT (zCb hx hy) hKT
theorem zN {t: TypeId} {k:IntKind} (hE_:(ev σ x,ev σ y,Nat.blt dT nT)=(.int k a,.int k b,true)) (hKT:E P nT opT rsT KT (upd σ dT (.bool (decide (a<b)))) w):E P nT opT (⟨some dT,.binOp .lss t x y t',ty,pos,aft,none⟩::rsT) KT σ w:=zDj (zdM hE_) (zdM (zca hE_)) (zca (zca hE_)) hKT
theorem zBU {KT:Env→Prop} {t: TypeId} {k:IntKind} (hx:ev σ x=.int k a) (hy:ev σ y=.int k b) (hdT:Nat.blt dT nT=true) (hKT:zaA P nT opT CT rsT KT (upd σ dT (.bool (decide (a<b))))):zaA P nT opT CT (⟨some dT,.binOp .lss t x y t',ty,pos,aft,none⟩::rsT) KT σ:=zbU rfl hdT (fun _ _=>zCb hx hy) hKT
theorem zeo {fn:Fn} {first captured:Array Operand} {fs: List Value} (hf:first.toList.map (ev σ)=fs) (hc:captured.toList.map (ev σ)=cs) (hdT:Nat.blt dT nT=true) (hKT:E P nT opT rsT KT (upd σ dT (.func fn fs.toArray cs.toArray)) w):E P nT opT (⟨some dT,.makeFunc fn first captured,ty,pos,aft,none⟩::rsT) KT σ w:=zar rfl hdT (zvX hf hc) hKT
theorem zlQ (hv:ev σ x=v) (hdT:Nat.blt dT nT=true) (hKT:E P nT opT rsT KT (upd σ dT v) w):E P nT opT (⟨some dT,.move x,ty,pos,aft,none⟩::rsT) KT σ w:=zar rfl hdT (zjA hv) hKT
theorem zq (v:Value) (hE_:(ev σ x,Nat.blt dT nT)=(v,true)) (hKT:E P nT opT rsT KT (upd σ dT v) w):E P nT opT (⟨some dT,.move x,ty,pos,aft,none⟩::rsT) KT σ w:=zlQ (zdM hE_) (zca hE_) hKT
theorem zCq {KT:Env→Prop} (hv:ev σ x=v) (hdT:Nat.blt dT nT=true) (hKT:zaA P nT opT CT rsT KT (upd σ dT v)):zaA P nT opT CT (⟨some dT,.move x,ty,pos,aft,none⟩::rsT) KT σ:=zbU rfl hdT (fun _ _=>zjA hv) hKT
theorem zbc {KT:Env→Prop} (v:Value) (hE_:(ev σ x,Nat.blt dT nT)=(v,true)) (hKT:zaA P nT opT CT rsT KT (upd σ dT v)):zaA P nT opT CT (⟨some dT,.move x,ty,pos,aft,none⟩::rsT) KT σ:=zCq (zdM hE_) (zca hE_) hKT
theorem zDi {a:Bool} (hv:ev σ x=.bool a) (hdT:Nat.blt dT nT=true) (hKT:E P nT opT rsT KT (upd σ dT (.bool a)) w):E P nT opT (⟨some dT,.move x,ty,pos,aft,none⟩::rsT) KT σ w:=zar rfl hdT (zjT hv) hKT
theorem zt {a:Bool} (hE_:(ev σ x,Nat.blt dT nT)=(.bool a,true)) (hKT:E P nT opT rsT KT (upd σ dT (.bool a)) w):E P nT opT (⟨some dT,.move x,ty,pos,aft,none⟩::rsT) KT σ w:=zDi (zdM hE_) (zca hE_) hKT
theorem zdl {KT:Env→Prop} {a:Bool} (hv:ev σ x=.bool a) (hdT:Nat.blt dT nT=true) (hKT:zaA P nT opT CT rsT KT (upd σ dT (.bool a))):zaA P nT opT CT (⟨some dT,.move x,ty,pos,aft,none⟩::rsT) KT σ:=zbU rfl hdT (fun _ _=>zjT hv) hKT
theorem zjR {f:Fn} {a c:Array Value} (hv:ev σ x=.func f a c) (hdT:Nat.blt dT nT=true) (hKT:E P nT opT rsT KT (upd σ dT (.func f a c)) w):E P nT opT (⟨some dT,.move x,ty,pos,aft,none⟩::rsT) KT σ w:=zar rfl hdT (zDr hv) hKT
theorem zDh {k:IntKind} (hv:ev σ x=.int k a) (hdT:Nat.blt dT nT=true) (hKT:E P nT opT rsT KT (upd σ dT (.int k a)) w):E P nT opT (⟨some dT,.move x,ty,pos,aft,none⟩::rsT) KT σ w:=zar rfl hdT (zeH hv) hKT
theorem za {k:IntKind} (hE_:(ev σ x,Nat.blt dT nT)=(.int k a,true)) (hKT:E P nT opT rsT KT (upd σ dT (.int k a)) w):E P nT opT (⟨some dT,.move x,ty,pos,aft,none⟩::rsT) KT σ w:=zDh (zdM hE_) (zca hE_) hKT
theorem zcW {KT:Env→Prop} {k:IntKind} (hv:ev σ x=.int k a) (hdT:Nat.blt dT nT=true) (hKT:zaA P nT opT CT rsT KT (upd σ dT (.int k a))):zaA P nT opT CT (⟨some dT,.move x,ty,pos,aft,none⟩::rsT) KT σ:=zbU rfl hdT (fun _ _=>zeH hv) hKT
theorem zjf {a:Option Addr} (hv:ev σ x=.pointer a) (hdT:Nat.blt dT nT=true) (hKT:E P nT opT rsT KT (upd σ dT (.pointer a)) w):E P nT opT (⟨some dT,.move x,ty,pos,aft,none⟩::rsT) KT σ w:=zar rfl hdT (zgW hv) hKT
theorem zBT {KT:Env→Prop} {a:Option Addr} (hv:ev σ x=.pointer a) (hdT:Nat.blt dT nT=true) (hKT:zaA P nT opT CT rsT KT (upd σ dT (.pointer a))):zaA P nT opT CT (⟨some dT,.move x,ty,pos,aft,none⟩::rsT) KT σ:=zbU rfl hdT (fun _ _=>zgW hv) hKT
theorem zdc {a:Str} (hv:ev σ x=zae a) (hdT:Nat.blt dT nT=true) (hKT:E P nT opT rsT KT (upd σ dT (zae a)) w):E P nT opT (⟨some dT,.move x,ty,pos,aft,none⟩::rsT) KT σ w:=zar rfl hdT (zup hv) hKT
theorem zzn {KT:Env→Prop} {a:Str} (hv:ev σ x=zae a) (hdT:Nat.blt dT nT=true) (hKT:zaA P nT opT CT rsT KT (upd σ dT (zae a))):zaA P nT opT CT (⟨some dT,.move x,ty,pos,aft,none⟩::rsT) KT σ:=zbU rfl hdT (fun _ _=>zup hv) hKT
theorem zdy {a:List Value} (hv:ev σ x=.tuple a.toArray) (hdT:Nat.blt dT nT=true) (hKT:E P nT opT rsT KT (upd σ dT (.tuple a.toArray)) w):E P nT opT (⟨some dT,.move x,ty,pos,aft,none⟩::rsT) KT σ w:=zar rfl hdT (zpF hv) hKT
theorem zBS {KT:Env→Prop} {a:List Value} (hv:ev σ x=.tuple a.toArray) (hdT:Nat.blt dT nT=true) (hKT:zaA P nT opT CT rsT KT (upd σ dT (.tuple a.toArray))):zaA P nT opT CT (⟨some dT,.move x,ty,pos,aft,none⟩::rsT) KT σ:=zbU rfl hdT (fun _ _=>zpF hv) hKT
theorem zDg {t: TypeId} {k:IntKind} (hx:ev σ x=.int k a) (hy:ev σ y=.int k b) (hdT:Nat.blt dT nT=true) (hKT:E P nT opT rsT KT (upd σ dT (.bool (decide (a≠b)))) w):E P nT opT (⟨some dT,.binOp .neq t x y t',ty,pos,aft,none⟩::rsT) KT σ w:=zar rfl hdT (zCa hx hy) hKT
theorem zao {t: TypeId} {k:IntKind} (hE_:(ev σ x,ev σ y,Nat.blt dT nT)=(.int k a,.int k b,true)) (hKT:E P nT opT rsT KT (upd σ dT (.bool (decide (a≠b)))) w):E P nT opT (⟨some dT,.binOp .neq t x y t',ty,pos,aft,none⟩::rsT) KT σ w:=zDg (zdM hE_) (zdM (zca hE_)) (zca (zca hE_)) hKT
theorem zDo {KT:Env→Prop} {t: TypeId} {k:IntKind} (hx:ev σ x=.int k a) (hy:ev σ y=.int k b) (hdT:Nat.blt dT nT=true) (hKT:zaA P nT opT CT rsT KT (upd σ dT (.bool (decide (a≠b))))):zaA P nT opT CT (⟨some dT,.binOp .neq t x y t',ty,pos,aft,none⟩::rsT) KT σ:=zbU rfl hdT (fun _ _=>zCa hx hy) hKT
theorem zcq {t:TypeId} {b:Bool} (hx:ev σ x=.bool b) (hdT:Nat.blt dT nT=true) (hKT:E P nT opT rsT KT (upd σ dT (.bool (!b))) w):E P nT opT (⟨some dT,.unOp .not t x,ty,pos,aft,none⟩::rsT) KT σ w:=zar rfl hdT (zlD hx) hKT
theorem zmc {KT:Env→Prop} {t:TypeId} {b:Bool} (hx:ev σ x=.bool b) (hdT:Nat.blt dT nT=true) (hKT:zaA P nT opT CT rsT KT (upd σ dT (.bool (!b)))):zaA P nT opT CT (⟨some dT,.unOp .not t x,ty,pos,aft,none⟩::rsT) KT σ:=zbU rfl hdT (fun _ _=>zlD hx) hKT
theorem zBe {a b: Operand} (hc:ev σ c=.bool false) (hv:ev σ b=v) (hdT:Nat.blt dT nT=true) (hKT:E P nT opT rsT KT (upd σ dT v) w):E P nT opT (⟨some dT,.pick c a b,ty,pos,aft,none⟩::rsT) KT σ w:=zar rfl hdT (zkj hc hv) hKT
theorem zh {a b: Operand} (hE_:(ev σ c,ev σ b,Nat.blt dT nT)=(.bool false,(Value.bool bv),true)) (hKT:E P nT opT rsT KT (upd σ dT (Value.bool bv)) w):E P nT opT (⟨some dT,.pick c a b,ty,pos,aft,none⟩::rsT) KT σ w:=zBe (zdM hE_) (zdM (zca hE_)) (zca (zca hE_)) hKT
theorem zBg {KT:Env→Prop} {a b: Operand} (hc:ev σ c=.bool false) (hv:ev σ b=v) (hdT:Nat.blt dT nT=true) (hKT:zaA P nT opT CT rsT KT (upd σ dT v)):zaA P nT opT CT (⟨some dT,.pick c a b,ty,pos,aft,none⟩::rsT) KT σ:=zbU rfl hdT (fun _ _=>zkj hc hv) hKT
theorem zZ {KT:Env→Prop} {a b: Operand} (hE_:(ev σ c,ev σ b,Nat.blt dT nT)=(.bool false,(Value.bool bv),true)) (hKT:zaA P nT opT CT rsT KT (upd σ dT (Value.bool bv))):zaA P nT opT CT (⟨some dT,.pick c a b,ty,pos,aft,none⟩::rsT) KT σ:=zBg (zdM hE_) (zdM (zca hE_)) (zca (zca hE_)) hKT
theorem zBd {a b: Operand} (hc:ev σ c=.bool true) (hv:ev σ a=v) (hdT:Nat.blt dT nT=true) (hKT:E P nT opT rsT KT (upd σ dT v) w):E P nT opT (⟨some dT,.pick c a b,ty,pos,aft,none⟩::rsT) KT σ w:=zar rfl hdT (znV hc hv) hKT
theorem zi {a b: Operand} (hE_:(ev σ c,ev σ a,Nat.blt dT nT)=(.bool true,(Value.bool bv),true)) (hKT:E P nT opT rsT KT (upd σ dT (Value.bool bv)) w):E P nT opT (⟨some dT,.pick c a b,ty,pos,aft,none⟩::rsT) KT σ w:=zBd (zdM hE_) (zdM (zca hE_)) (zca (zca hE_)) hKT
theorem zBf {KT:Env→Prop} {a b: Operand} (hc:ev σ c=.bool true) (hv:ev σ a=v) (hdT:Nat.blt dT nT=true) (hKT:zaA P nT opT CT rsT KT (upd σ dT v)):zaA P nT opT CT (⟨some dT,.pick c a b,ty,pos,aft,none⟩::rsT) KT σ:=zbU rfl hdT (fun _ _=>znV hc hv) hKT
theorem zaw {KT:Env→Prop} {a b: Operand} (hE_:(ev σ c,ev σ a,Nat.blt dT nT)=(.bool true,(Value.bool bv),true)) (hKT:zaA P nT opT CT rsT KT (upd σ dT (Value.bool bv))):zaA P nT opT CT (⟨some dT,.pick c a b,ty,pos,aft,none⟩::rsT) KT σ:=zBf (zdM hE_) (zdM (zca hE_)) (zca (zca hE_)) hKT
theorem ziO {t: TypeId} {a b:Str} (hx:ev σ x=zae a) (hy:ev σ y=zae b) (hdT:Nat.blt dT nT=true) (hKT:E P nT opT rsT KT (upd σ dT (.bool (decide (a=b)))) w):E P nT opT (⟨some dT,.binOp .eql t x y t',ty,pos,aft,none⟩::rsT) KT σ w:=zar rfl hdT (zzI hx hy) hKT
theorem zzm {KT:Env→Prop} {t: TypeId} {a b:Str} (hx:ev σ x=zae a) (hy:ev σ y=zae b) (hdT:Nat.blt dT nT=true) (hKT:zaA P nT opT CT rsT KT (upd σ dT (.bool (decide (a=b))))):zaA P nT opT CT (⟨some dT,.binOp .eql t x y t',ty,pos,aft,none⟩::rsT) KT σ:=zbU rfl hdT (fun _ _=>zzI hx hy) hKT
theorem zfG {t: TypeId} (hx:ev σ x=.int .i64 a) (hy:ev σ y=.int .i64 b) (hb:-9223372036854775808≤a-b∧a-b≤9223372036854775807) (hdT:Nat.blt dT nT=true) (hKT:E P nT opT rsT KT (upd σ dT (.int .i64 (a-b))) w):E P nT opT (⟨some dT,.binOp .sub t x y t',ty,pos,aft,none⟩::rsT) KT σ w:=zar rfl hdT (zlc hx hy hb) hKT
theorem zkV {KT:Env→Prop} {t: TypeId} (hx:ev σ x=.int .i64 a) (hy:ev σ y=.int .i64 b) (hb:-9223372036854775808≤a-b∧a-b≤9223372036854775807) (hdT:Nat.blt dT nT=true) (hKT:zaA P nT opT CT rsT KT (upd σ dT (.int .i64 (a-b)))):zaA P nT opT CT (⟨some dT,.binOp .sub t x y t',ty,pos,aft,none⟩::rsT) KT σ:=zbU rfl hdT (fun _ _=>zlc hx hy hb) hKT
end
theorem Le.t {h1 h2 h3:Heap} (a:Le h1 h2) (b:Le h2 h3):Le h1 h3:=a.trans b
def skE (n:Nat) (ops:Array Oper):Nat→List Oper→Env→Option (List Oper×Env)
 | 0,l,σ=>some (l,σ)
 | k+1,⟨d,_,_,_,_,some (g,b)⟩::l,σ=>match (ops[g]?).bind (·.dst) with
  | some q=>match Nat.blt q n,zgM n d,σ q with
   | true,true,.bool c=>bif c == b then none else skE n ops k l (updO σ d undef)
   | true,true,.tuple ⟨[]⟩=>skE n ops k l (updO σ d undef)
   | _,_,_=>none
  | none=>none
 | _+1,_,_=>none
theorem zrJ {n:Nat} {ops:Array Oper} {G:List Oper→Env→Prop}
  (h1:∀ d op t p a g b l σ q c,(ops[g]?).bind (·.dst)=some q→Nat.blt q n=true→zgM n d=true→σ q=.bool c→(c == b)=false→G l (updO σ d undef)→G (⟨d,op,t,p,a,some (g,b)⟩::l) σ)
  (h2:∀ d op t p a g b l σ q,(ops[g]?).bind (·.dst)=some q→Nat.blt q n=true→zgM n d=true→σ q=undef→G l (updO σ d undef)→G (⟨d,op,t,p,a,some (g,b)⟩::l) σ) :
  ∀ (k:Nat) (l l':List Oper) (σ σ':Env),skE n ops k l σ=some (l',σ')→G l' σ'→G l σ
 | 0,l,l',σ,σ',e,h=>by cases e;exact h
 | k+1,[],_,_,_,e,_=>by cases e
 | k+1,⟨d,op,t,p,a,none⟩::l,_,_,_,e,_=>by cases e
 | k+1,⟨d,op,t,p,a,some (g,b)⟩::l,l',σ,σ',e,h=>by
  simp only[skE] at e;split at e
  ·rename_i q hq;split at e
   ·rename_i c e1 e2 e3;cases e4:c == b with
    | true=>rw[e4] at e;cases e
    | false=>rw[e4] at e;exact h1 _ _ _ _ _ _ _ _ _ _ _ hq e1 e2 e3 e4 (zrJ h1 h2 k _ _ _ _ e h)
   ·rename_i e1 e2 e3;exact h2 _ _ _ _ _ _ _ _ _ _ hq e1 e2 e3 (zrJ h1 h2 k _ _ _ _ e h)
   ·cases e
  ·cases e
theorem zaf (k:Nat) (e:skE n ops k l σ=some (l',σ')) (h:E P n ops l' K σ' w):E P n ops l K σ w:=
 zrJ (G:=fun l σ=>E P n ops l K σ w) (fun _ _ _ _ _ _ _ _ _ _ _ a b c d e f=>zql a b d e c f) (fun _ _ _ _ _ _ _ _ _ _ a b c d f=>zua a b d c f) k l l' σ σ' e h
theorem zbT {K:Env→Prop} (k:Nat) (e:skE n ops k l σ=some (l',σ')) (h:zaA P n ops C l' K σ'):zaA P n ops C l K σ:=
 zrJ (G:=fun l σ=>zaA P n ops C l K σ) (fun _ _ _ _ _ _ _ _ _ _ _ a b c d e f=>zvv a b d e c f) (fun _ _ _ _ _ _ _ _ _ _ a b c d f=>ztY a b d c f) k l l' σ σ' e h
theorem zzV {a: α} {b: β} (h:(a,b)=(a',b')):a=a':=congrArg Prod.fst h
theorem zuZ {a: α} {b: β} (h:(a,b)=(a',b')):b=b':=congrArg Prod.snd h
def zqT (h:Heap) (rd:List (Nat×Kd)):List Nat→(List (Nat×Value)→Prop)→Prop
 | [],k=>k []
 | i::is,k=>match (rd[i]?).bind zpS with
  | some (d,p)=>∀ {g} {_:p.fact g h},zqT h rd is (fun vs=>k ((d,p.val g)::vs))
  | none=>zqT h rd is k
theorem zqT.to {h:Heap} {rd:List (Nat×Kd)}:∀ {is:List Nat} {k:List (Nat×Value)→Prop},zqT h rd is k→zju h rd is k
 | [],_,e=>e
 | i::is,k,e=>by
  rw[zqT] at e;rw[zju];split
  ·rename_i d p eq;rw[eq] at e;exact fun g hf=>zqT.to (@e g hf)
  ·rename_i eq;rw[eq] at e;exact zqT.to e
def zyL (rd:List (Nat×Kd)) (o:Oper):List Nat:=(ziV o).map (fun i=>rd.length-1-i)
def ltOf (rd:List (Nat×Kd)) (o:Oper):Bool:=(ziV o).all (fun j=>Nat.blt j rd.length)
def zwu (l:List Oper) (g:Nat):Nat:=((l.toArray[g]?).bind (·.dst)).getD 0
theorem zBy {g:Nat} (h:(((l.toArray[g]?).bind (·.dst)).isSome)=true):(l.toArray[g]?).bind (·.dst)=some (zwu l g):=by
 unfold zwu;cases e:(l.toArray[g]?).bind (·.dst) with
 | none=>rw[e] at h;cases h
 | some d=>rfl
section
variable {P:Program} {n:Nat} {l:List Oper} {h0:Heap} {w0:World} {own0:Own} {hr:Heap} {er:Er} {dsts:List Nat} {σ:Env} {Q:Exit→Env→World→Prop} {rd:List (Nat×Kd)} {rc:List (Nat×Oper)} {rest:List Oper}
theorem zaT {o:Oper} (p:PF) (H:∀ h w τ,Le hr h→Sub h w→(inL er.1 rd.length=true→St h0 w0 h w own0)→zju h rd (zyL rd o) (fun vs=>zvx P n l.toArray (known vs (mix (znb er dsts rd.length) τ σ)) h w o p))
  (k:Drw P n l h0 w0 own0 hr er dsts σ Q ((zfZ o,.flt p)::rd) rc rest) (hE:ltOf rd o=true:=by kernel_rfl):Drw P n l h0 w0 own0 hr er dsts σ Q rd rc (o::rest):=ztv _ p _ rfl hE rfl H k
theorem zam {o:Oper} (H:∀ h w τ,Le hr h→Sub h w→(inL er.1 rd.length=true→St h0 w0 h w own0)→zju h rd (zyL rd o) (fun vs=>Run P (known vs (mix (znb er dsts rd.length) τ σ)) w o v w)) (k:Drw P n l h0 w0 own0 hr er dsts σ Q ((zfZ o,.flt (.det v))::rd) rc rest) (hE:(ltOf rd o,o.guard.isNone,zgM n o.dst)=(true,true,true):=by kernel_rfl):Drw P n l h0 w0 own0 hr er dsts σ Q rd rc (o::rest):=
 zAV _ _ rfl (zzV hE) rfl (by have e:=zzV (zuZ hE);revert e;cases o.guard <;> simp) (zuZ (zuZ hE)) H k
theorem zF {o:Oper} (H:∀ {h w τ} {_:Le hr h} {_:Sub h w} {_:inL er.1 rd.length=true→St h0 w0 h w own0},zqT h rd (zyL rd o) (fun vs=>Run P (known vs (mix (znb er dsts rd.length) τ σ)) w o v w)) (k:Drw P n l h0 w0 own0 hr er dsts σ Q ((zfZ o,.flt (.det v))::rd) rc rest) (hE:(ltOf rd o,o.guard.isNone,zgM n o.dst)=(true,true,true):=by kernel_rfl):Drw P n l h0 w0 own0 hr er dsts σ Q rd rc (o::rest):=
 zam (fun h w τ a b c=>zqT.to (@H h w τ a b c)) k hE
section
variable {dst:Option Tmp} {op:Op} {type:TypeId} {pos:String} {after:Array Edge} {g:Nat} {b:Bool}
def gE (n:Nat) (l:List Oper) (rd:List (Nat×Kd)) (o:Oper) (g:Nat):Bool:=ltOf rd o && ((l.toArray[g]?).bind (·.dst)).isSome && Nat.blt (zwu l g) n && zgM n o.dst
theorem zAs {o:Oper} (h:gE n l rd o g=true):ltOf rd o=true∧(l.toArray[g]?).bind (·.dst)=some (zwu l g)∧Nat.blt (zwu l g) n=true∧zgM n o.dst=true:=by
 simp only[gE,Bool.and_eq_true] at h;exact ⟨h.1.1.1,zBy h.1.1.2,h.1.2,h.2⟩
theorem zgy (H:∀ h w τ,Le hr h→Sub h w→(inL er.1 rd.length=true→St h0 w0 h w own0)→zju h rd (zyL rd ⟨dst,op,type,pos,after,some (g,b)⟩) (fun vs=>known vs (mix (znb er dsts rd.length) τ σ) (zwu l g)=.bool b∧Run P (known vs (mix (znb er dsts rd.length) τ σ)) w ⟨dst,op,type,pos,after,none⟩ v w)) (k:Drw P n l h0 w0 own0 hr er dsts σ Q ((zfZ ⟨dst,op,type,pos,after,some (g,b)⟩,.flt (.det v))::rd) rc rest) (hE:gE n l rd ⟨dst,op,type,pos,after,some (g,b)⟩ g=true:=by kernel_rfl):Drw P n l h0 w0 own0 hr er dsts σ Q rd rc (⟨dst,op,type,pos,after,some (g,b)⟩::rest):=
 have e:=zAs hE;zAU _ _ rfl e.1 rfl e.2.1 e.2.2.1 e.2.2.2 H k
theorem zdN (H:∀ {h w τ} {_:Le hr h} {_:Sub h w} {_:inL er.1 rd.length=true→St h0 w0 h w own0},zqT h rd (zyL rd ⟨dst,op,type,pos,after,some (g,b)⟩) (fun vs=>known vs (mix (znb er dsts rd.length) τ σ) (zwu l g)=.bool b∧Run P (known vs (mix (znb er dsts rd.length) τ σ)) w ⟨dst,op,type,pos,after,none⟩ v w)) (k:Drw P n l h0 w0 own0 hr er dsts σ Q ((zfZ ⟨dst,op,type,pos,after,some (g,b)⟩,.flt (.det v))::rd) rc rest) (hE:gE n l rd ⟨dst,op,type,pos,after,some (g,b)⟩ g=true:=by kernel_rfl):Drw P n l h0 w0 own0 hr er dsts σ Q rd rc (⟨dst,op,type,pos,after,some (g,b)⟩::rest):=
 zgy (fun h w τ a b c=>zqT.to (@H h w τ a b c)) k hE
theorem zct (H:∀ {h w τ} {_:Le hr h} {_:Sub h w} {_:inL er.1 rd.length=true→St h0 w0 h w own0},zqT h rd (zyL rd ⟨dst,op,type,pos,after,some (g,b)⟩) (fun vs=>known vs (mix (znb er dsts rd.length) τ σ) (zwu l g)=.bool (!b)))
  (k:Drw P n l h0 w0 own0 hr er dsts σ Q ((zfZ ⟨dst,op,type,pos,after,some (g,b)⟩,.flt (.det undef))::rd) rc rest) (hE:gE n l rd ⟨dst,op,type,pos,after,some (g,b)⟩ g=true:=by kernel_rfl):Drw P n l h0 w0 own0 hr er dsts σ Q rd rc (⟨dst,op,type,pos,after,some (g,b)⟩::rest):=
 have e:=zAs hE;zAT _ _ rfl e.1 rfl e.2.1 e.2.2.1 e.2.2.2 (by cases b <;> rfl) (fun h w τ a b c=>zqT.to (@H h w τ a b c)) k
end
def shE (n:Nat) (l:List Oper) (ks:List (Nat×Kd)) (cx:List (Nat×Oper)) (er:Er):Bool:=zsp n 0 l [] && ztJ l ks && zvO cx && zvf l ks er cx && zpV er cx && zxt er.2.1 er.2.2.1 l
theorem zck (hs:zko P n l h0 w0 hr dsts σ Q rd.reverse (rc.reverse.drop er.2.2.2.2) (rc.reverse.take er.2.2.2.2) (ziL er rd.reverse) (zmp er rd.reverse) own0 [])
  (hE:(shE n l rd.reverse rc.reverse er,l.filterMap (·.dst),zoH 0 rd.reverse,rc.reverse.map (fun q=>l[q.1]?))=(true,dsts,rc.reverse.map (·.1),rc.reverse.map (fun q=>some q.2)):=by kernel_rfl):Drw P n l h0 w0 own0 hr er dsts σ Q rd rc []:=by
 have e:=zzV hE;simp only[shE,Bool.and_eq_true] at e;exact zBN rfl rfl rfl rfl rfl rfl ⟨e.1.1.1.1.1,e.1.1.1.1.2,zzV (zuZ hE),zzV (zuZ (zuZ hE)),e.1.1.1.2,e.1.1.2,e.1.2,e.2,fun q hq=>List.map_inj_left.1 (zuZ (zuZ (zuZ hE))) q hq⟩ hs
end
section
variable {P:Program} {n:Nat} {ops:Array Oper} {K K':Env→World→Prop} {Q Q':Exit→Env→World→Prop} {σ:Env} {w:World}
theorem zj (h:Q' .ret σ w):E P n ops [] (fun σ w=>zV (W P n .ret Q') Q .normal σ w) σ w:=zb (zfS h)
theorem zat {id:Nat} {y z:Code} (h:E P n l.toArray l (fun σ w=>zV (W P n y (zV (W P n z Q) Q)) (zV (W P n z Q) Q) .normal σ w) σ w):W P n (.seq (.seq (.region id l.toArray false) y) z) Q σ w:=zaH (zx h)
theorem zaN {x y:Code} (h:W P n x (zV (W P n y Q') Q') σ w):W P n .skip (zV (W P n (.seq x y) Q') Q) σ w:=zbj (zz (zaH h))
theorem zdF (h:K σ w):W P n .skip (zV K Q) σ w:=zbj (zz h)
theorem zan {id:Nat} (h:Q .ret σ w):Blk id (zV K Q) .ret σ w:=h
theorem zaF {id i:Nat} (h:E P n l.toArray l (fun σ w=>Q' .normal σ w) σ w):Blk id (zV (W P n (.region i l.toArray false) Q') Q) .normal σ w:=zeT (zz (zag h))
theorem zcC {id:Nat} (h:Q .normal σ w):W P n (.exit id) (zV K (zV K' (Blk id Q))) σ w:=zhq (zcV (zcV (zgg h)))
end
section
variable {P:Program} {n:Nat} {σ:Env} {w:World}
end
section
variable {κ υ:Type} {ek:κ→Value} {eu:υ→Value}
variable {P:Program} {n:Nat} {ops:Array Oper} {rest:List Oper} {K:Env→World→Prop} {σ:Env} {w w0:World} {h0 h:Heap} {own:Own} {ty:TypeId} {pos:String} {aft:Array Edge} {d:Nat} {dst:Option Tmp} {g:Option (Nat×Bool)}
theorem zhx [DecidableEq κ] {t: TypeId} {z: Operand} {m:List (κ×υ)} {o:List (Nat×Obj)} {k:κ} {u:υ} {i:Nat} (st:St h0 w0 h w own) (hM:OM ek eu m o v) (hi:own[i]?=some o) (hn:(m.map (·.1)).Nodup) (hK:KeyG P kt ek) (ht:P.underlying t=some (.map kt et)) (hx:ev σ x=v) (hy:ev σ y=ek k) (hz:ev σ z=eu u) (hk:∀ o' w' own',own'=own.set i o'→OM ek eu (zgd m k u) o' v→((zgd m k u).map (·.1)).Nodup→St h0 w0 h w' own'→E P n ops rest K σ w'):
  E P n ops (⟨none,.mapUpdate t x y z,ty,pos,aft,none⟩::rest) K σ w:=by
 cases hl:zcb m k with
 | none=>exact zrH st hM hi hn hK.toKeyF ht hl hx hy hz hk
 | some q=>
  obtain ⟨b,es,clock,rfl,rfl,hE,hB,hD⟩:=hM;have hb:=st.get hi;have hg:(getObj b).run P w=.ok (.map es clock) w:=by simp[getObj,Sem.run,hb]
  have hset:∀ es' c',(setObj b (.map es' c')).run P w=.ok () { w with heap:=w.heap.setIfInBounds b (.map es' c') }:=by
   intro es' c';simp[setObj,Sem.run,hb]
  have hc:=hK.check false k w;obtain ⟨j,hf,h2⟩:=zCi hK.toKeyF (k:=k) w hE hl;have hp:zgd m k u=m.map fun p=>if p.1=k then (k,u) else p:=by simp[zgd,hl]
  have hkey:((es[j]?).map (·.key)).getD (ek k)=ek k:=by
   obtain ⟨e,h6,h7,_⟩:=Ent.getP hE h2;rw[← Array.getElem?_toList,h6];simpa using h7
  refine zlv rfl rfl (w':={ w with heap:=w.heap.setIfInBounds b (.map (es.modify j fun e=>{ e with key:=ek k,val:=eu u }) clock) }) ?_ (hk _ _ _ rfl ⟨b,es.modify j fun e=>{ e with key:=ek k,val:=eu u },clock,rfl,rfl,?_,?_,?_⟩ ?_ (st.set _ hi))
  ·simp only[execOp,hx,hy,hz,Instr.mapUpdate,Sem.run_bind,run_underlying ht,Result.andThen_ok,hg,hc,hf,hkey,Instr.keyThatStays,hK.stays,if_true,hset,Sem.run_pure]
  ·rw[hp,Array.toList_modify];exact hE.modify hn h2
  ·intro e he;rw[Array.toList_modify] at he;obtain ⟨i',hi'⟩:=List.mem_iff_getElem?.1 he;rw[List.getElem?_modify] at hi';cases h8:es.toList[i']? with
   | none=>simp[h8] at hi'
   | some e'=>
    simp only[h8,Option.map_some] at hi';have:=hB e' (List.mem_of_getElem? h8);split at hi' <;> (cases hi';exact this)
  ·have h9:((es.modify j fun e=>{ e with key:=ek k,val:=eu u }).toList.map (·.born))=es.toList.map (·.born):=by
    rw[Array.toList_modify];apply List.ext_getElem?;intro i';rw[List.getElem?_map,List.getElem?_map,List.getElem?_modify];cases es.toList[i']? with
    | none=>simp
    | some e=>simp only[Option.map_some];split <;> rfl
   rw[h9];exact hD
  ·rw[hp];have:(m.map fun p=>if p.1=k then (k,u) else p).map (·.1)=m.map (·.1):=by
    rw[List.map_map];apply List.map_congr_left;intro p _;simp only[Function.comp];split
    ·rename_i e;exact e.symm
    ·rfl
   rw[this];exact hn
theorem zmv [DecidableEq κ] {t: TypeId} {m:List (κ×υ)} {o:List (Nat×Obj)} {k:κ} {zu:υ} (hK:KeyF P kt ek) (ht:P.underlying t=some (.map kt et)) (hM:OM ek eu m o v) (hw:∀ b ob,o=[(b,ob)]→w.heap[b]?=some ob) (hz:∀ w,(zeroValue et).run P w=.ok zv w) (hzu:zv=eu zu) (hx:ev σ x=v) (hy:ev σ y=ek k):
  Run P σ w ⟨dst,.lookup t x y true,ty,pos,aft,g⟩ (.tuple [eu ((zcb m k).getD zu),.bool (zcb m k).isSome].toArray) w:=by
 obtain ⟨b,es,clock,rfl,rfl,hE,_,_⟩:=hM;have hb:=hw b _ rfl;obtain ⟨j,hf⟩:=zxY hK (k:=k) w hE;have hc:=hK.check es.isEmpty k w;have hg:(getObj b).run P w=.ok (.map es clock) w:=by simp[getObj,Sem.run,hb]
 subst hzu;have:(Instr.lookup t (.map (some b)) (ek k) true).run P w=.ok (.tuple [eu ((zcb m k).getD zu),.bool (zcb m k).isSome].toArray) w:=by
  simp only[Instr.lookup,Sem.run_bind,run_underlying ht,Result.andThen_ok,hg,Sem.run_pure,hc,hf];cases zcb m k with
  | none=>simp[hz]
  | some r=>simp
 simp[Run,execOp,hx,hy,this]
theorem zxl [DecidableEq κ] {t: TypeId} {m:List (κ×υ)} {k:κ} {zu:υ} (hK:KeyF P kt ek) (ht:P.underlying t=some (.map kt et)) (hM:FM ek eu h m v) (hs:Sub h w) (hz:∀ w,(zeroValue et).run P w=.ok zv w) (hzu:zv=eu zu) (hx:ev σ x=v) (hy:ev σ y=ek k):
  Run P σ w ⟨dst,.lookup t x y false,ty,pos,aft,g⟩ (eu ((zcb m k).getD zu)) w:=by
 obtain ⟨o,h1,h2⟩:=hM.om hs;exact zxO hK ht h1 h2 hz hzu hx hy
theorem ztG [DecidableEq κ] {t: TypeId} {m:List (κ×υ)} {k:κ} {zu:υ} (hK:KeyF P kt ek) (ht:P.underlying t=some (.map kt et)) (hM:FM ek eu h m v) (hs:Sub h w) (hz:∀ w,(zeroValue et).run P w=.ok zv w) (hzu:zv=eu zu) (hx:ev σ x=v) (hy:ev σ y=ek k):
  Run P σ w ⟨dst,.lookup t x y true,ty,pos,aft,g⟩ (.tuple [eu ((zcb m k).getD zu),.bool (zcb m k).isSome].toArray) w:=by
 obtain ⟨o,h1,h2⟩:=hM.om hs;exact zmv hK ht h1 h2 hz hzu hx hy
end
def zzf:Lay Value:={ size:=1,R:=fun _ vs x=>vs=[x]∧x.oneCell'=true,up:=(fun h _=>h),len:=(by rintro _ _ _ ⟨rfl,_⟩;rfl),one:=(by rintro _ _ _ ⟨rfl,h⟩ u hu;simp only[List.mem_singleton] at hu;rw[hu];exact h) }
theorem St.none {own:Own} {b: Nat} {o:Obj} (st:St h0 w0 h w own) (hk:own[k]?=some [(b,o)]):h b=none:=
 (st.mine (b,o) (List.mem_flatten.2 ⟨_,List.mem_of_getElem? hk,by simp⟩)).2.1
section
variable {α:Type} {L:Lay α} {T:TypeId} {h:Heap} {v:Value} {xs:List (List α)} {o:List (Nat×Obj)}
theorem OSl.raw (e:OSl (LSl L) T h v xs o):∃ hds,OSl zzf T h v hds o∧hds.length=xs.length∧∀ (i:Nat) (hd:Value) (x:List α),hds[i]?=some hd→xs[i]?=some x→Sl L h hd x:=by
 obtain ⟨cs,e1,e2⟩:=e;have hsz:(LSl L).size=1:=rfl;have hl:cs.length=xs.length:=by rw[e1.1,hsz,Nat.mul_one]
 have hc:∀ (i:Nat) (x:List α),xs[i]?=some x→∃ hd,cs[i]?=some hd∧Sl L h hd x:=by
  intro i x hx;have hr:=e1.2 i x hx;have hi:=(List.getElem?_eq_some_iff.1 hx).1;have e3:List.take 1 (List.drop (i*1) cs)=[cs[i]'zU]:=by
   rw[Nat.mul_one,List.drop_eq_getElem_cons zU];rfl
  rw[hsz,e3] at hr;refine ⟨_,List.getElem?_eq_getElem zU,?_⟩;simpa [LSl] using hr
 refine ⟨cs,⟨cs,⟨by simp[zzf],fun i x hx=>?_⟩,?_⟩,hl,fun i hd x h1 h2=>?_⟩
 ·obtain ⟨hi,rfl⟩:=List.getElem?_eq_some_iff.1 hx;obtain ⟨hd,q1,q2⟩:=hc i _ (List.getElem?_eq_getElem zU);have q3:cs[i]=hd:=by rw[List.getElem?_eq_getElem hi] at q1;exact Option.some.inj q1
  refine ⟨?_,by rw[q3];exact q2.one⟩;show List.take 1 (List.drop (i*1) cs)=[cs[i]];rw[Nat.mul_one,List.drop_eq_getElem_cons hi];rfl
 ·rcases e2 with ⟨p,q,z⟩|⟨g,cap,cur,q1,q2,q3,q4,q5,q6⟩
  ·subst q;exact .inl ⟨p,List.eq_nil_of_length_eq_zero (by simpa using hl),z⟩
  ·exact .inr ⟨g,cap,cur,by rw[q1,hl],q2,by rw[hl];exact q3,q4,by rw[q5];rfl,by rw[hl];exact q6⟩
 obtain ⟨hd',q1,q2⟩:=hc i x h2;rw[h1] at q1;cases q1;exact q2
theorem OSl.unraw (e:OSl zzf T h v hds o) (hl:hds.length=xs.length) (hh:∀ (i:Nat) (hd:Value) (x:List α),hds[i]?=some hd→xs[i]?=some x→Sl L h hd x):OSl (LSl L) T h v xs o:=by
 obtain ⟨cs,e1,e2⟩:=e;refine ⟨cs,⟨by rw[e1.1,hl];rfl,fun i x hx=>?_⟩,?_⟩
 ·have hi:=(List.getElem?_eq_some_iff.1 hx).1;obtain ⟨hd,q⟩:∃ hd,hds[i]?=some hd:=⟨_,List.getElem?_eq_getElem zU⟩;obtain ⟨r1,_⟩:=e1.2 i hd q;have:=hh i hd x q hx;show (LSl L).R h (List.take 1 (List.drop (i*1) cs)) x;rw[show List.take 1 (List.drop (i*1) cs)=[hd] from r1];simpa [LSl] using this
 rcases e2 with ⟨p,q,z⟩|⟨g,cap,cur,q1,q2,q3,q4,q5,q6⟩
 ·subst q;exact .inl ⟨p,List.eq_nil_of_length_eq_zero (by simpa using hl.symm),z⟩
 exact .inr ⟨g,cap,cur,by rw[q1,hl],q2,by rw[← hl];exact q3,q4,by rw[q5];rfl,by rw[← hl];exact q6⟩
theorem zzF {h':Heap} {hd:Value} {x:List α} (l:Le h h') (hl:hds.length=xs.length) (hh:∀ (i:Nat) (hd:Value) (x:List α),hds[i]?=some hd→xs[i]?=some x→Sl L h hd x) (hx:Sl L h' hd x):
  (hds++[hd]).length=(xs++[x]).length∧∀ (i:Nat) (hd':Value) (x':List α),(hds++[hd])[i]?=some hd'→(xs++[x])[i]?=some x'→Sl L h' hd' x':=by
 refine ⟨by simp[hl],fun i hd' x' e1 e2=>?_⟩
 rcases znx e1 with e1|⟨e1,rfl⟩
 ·have:=(List.getElem?_eq_some_iff.1 e1).1;rw[List.getElem?_append_left zU] at e2;exact (hh i hd' x' e1 e2).up l
 ·rcases znx e2 with e2|⟨_,rfl⟩
  ·have:=(List.getElem?_eq_some_iff.1 e2).1;omega
  ·exact hx
end
theorem zjs {t v: Nat} (hr:fn.results=#[.tmp t,.tmp u,.tmp v]) (h:R (.returned (.tuple #[σ t,σ u,σ v])) w):zY fn P R .ret σ w:=
 fun tmps ht=>⟨.tuple #[tmps.getD t undef,tmps.getD u undef,tmps.getD v undef],by simp[results,hr],by rw[ht,ht,ht];exact h⟩
theorem zze {t v x: Nat} (hr:fn.results=#[.tmp t,.tmp u,.tmp v,.tmp x]) (h:R (.returned (.tuple #[σ t,σ u,σ v,σ x])) w):zY fn P R .ret σ w:=
 fun tmps ht=>⟨.tuple #[tmps.getD t undef,tmps.getD u undef,tmps.getD v undef,tmps.getD x undef],by simp[results,hr],by rw[ht,ht,ht,ht];exact h⟩
theorem zvG {a a' b b' c: Value} (h1:a=a') (h2:b=b') (h3:c=c'):Value.tuple #[a,b,c]=Value.tuple #[a',b',c']:=by rw[h1,h2,h3]
theorem zDS {a a' b b' c d d' : Value} (h1:a=a') (h2:b=b') (h3:c=c') (h4:d=d'):Value.tuple #[a,b,c,d]=Value.tuple #[a',b',c',d']:=by rw[h1,h2,h3,h4]
def zAR {α:Type} (L:Lay α):Lay α:={ size:=1,R:=fun h vs x=>∃ v,vs=[v]∧Box L h true x v,up:=by rintro _ _ _ _ ⟨v,rfl,f⟩ hl;exact ⟨v,rfl,f.up hl⟩,len:=by rintro _ _ _ ⟨v,rfl,_⟩;rfl,one:=by rintro _ _ _ ⟨v,rfl,f⟩ u hu;simp only[List.mem_cons,List.not_mem_nil,or_false] at hu;subst hu;obtain ⟨b,vs,rfl,_⟩:=f;rfl }
theorem Sl.box1 (hs:Sl L h v xs):v.cells=([v]:List Value).toArray:=by
 obtain ⟨p,c,rfl,_⟩:=hs;rfl
theorem zud {rest:List Oper} {own:Own} {ty ty':TypeId} {pos pos':String} {aft aft':Array Edge} (st:St h0 w0 h w own) {t: TypeId} {z c: Value} (hz:∀ w,(zeroValue e).run P w=.ok z w) (hc:z.cells=[c].toArray) (hd:Nat.blt d n=true) (hx:x=.tmp d) (hy:∀ b,ev (upd σ d (.pointer (some ⟨b,0,none⟩))) y=v) (h1:v.oneCell'=true) (hs:∀ w,(sizeOf t).run P w=.ok 1 w) (hk:∀ b w' h',Le h h'→zay h' b 0 [v]→St h0 w0 h' w' own→E P n ops rest K (upd σ d (.pointer (some ⟨b,0,none⟩))) w'):
  E P n ops (⟨some d,.alloc e,ty,pos,aft,none⟩::⟨none,.store t x y,ty',pos',aft',none⟩::rest) K σ w:=by
 refine zad st hz hc hd fun b w1 st1=>?_;subst hx;refine zci st1 (k:=own.length) (b:=b) (off:=0) (cs:=[c]) (T:=e) (by simp) (by simp[ev,upd]) (hy b) h1 hs (by simp) (cs':=[v]) rfl rfl fun w2 st2=>?_;have e1:(own++[[(b,Obj.cells [c].toArray e)]]).set own.length [(b,.cells [v].toArray e)]=own++[[(b,.cells [v].toArray e)]]:=by simp
 rw[e1] at st2;obtain ⟨h',hle,hb,st3⟩:=st2.freeze (k:=own.length) (b:=b) (o:=.cells [v].toArray e) (by simp);have e2:(own++[[(b,Obj.cells [v].toArray e)]]).set own.length []=own++[[]]:=by simp
 rw[e2] at st3;exact hk b w2 h' hle (zay.of hb) ⟨st3.le,st3.new,st3.sub,st3.below,fun p hp=>st3.mine p (by simpa using hp),by simpa using st3.nodup⟩
theorem zvQ {W:World} {t:TypeId} (hu:P.underlying t=some (.struct fs)) (hc:P.cellsOf t=3) (h0:fs[0]?=some f0) (o0:f0.offset=0) (n0:P.cellsOf f0.type=1) (r0:zcF P W f0.type zcy) (h1:fs[1]?=some f1) (o1:f1.offset=1) (n1:P.cellsOf f1.type=1) (r1:zcF P W f1.type zcy) (h2:fs[2]?=some f2) (o2:f2.offset=2) (n2:P.cellsOf f2.type=1) (r2:zcF P W f2.type zcy):zcF P W t zcZ:=by
 intro H enc sp held fuel cs d ps h hw;obtain ⟨hl,hf⟩:=zeB hu hc h hw
 match cs,hl with
 | [c0,c1,c2],_=>
 obtain ⟨x0,e0⟩:=hf 0 f0 h0 r0;rw[o0,n0] at e0;simp only[zea] at e0;cases (show [c0]=[_] from e0);obtain ⟨x1,e1⟩:=hf 1 f1 h1 r1;rw[o1,n1] at e1;simp only[zea] at e1;cases (show [c1]=[_] from e1);obtain ⟨x2,e2⟩:=hf 2 f2 h2 r2;rw[o2,n2] at e2;simp only[zea] at e2;cases (show [c2]=[_] from e2);exact ⟨⟨x0,x1,x2⟩,rfl⟩
theorem ztF {W:World} {t:TypeId} (hu:P.underlying t=some (.struct fs)) (hc:P.cellsOf t=2) (h0:fs[0]?=some f0) (o0:f0.offset=0) (n0:P.cellsOf f0.type=1) (r0:zcF P W f0.type zcy) (h1:fs[1]?=some f1) (o1:f1.offset=1) (n1:P.cellsOf f1.type=1) (r1:zcF P W f1.type (LSl (LSl zcn))):zcF P W t zax:=by
 intro H enc sp held fuel cs d ps h hw;obtain ⟨hl,hf⟩:=zeB hu hc h hw
 match cs,hl with
 | [c0,c1],_=>
 obtain ⟨x0,e0⟩:=hf 0 f0 h0 r0;rw[o0,n0] at e0;simp only[zea] at e0;cases (show [c0]=[_] from e0);obtain ⟨x1,e1⟩:=hf 1 f1 h1 r1;rw[o1,n1] at e1;simp only[zea] at e1;obtain ⟨v1,q1,g1⟩:=e1;cases q1;exact ⟨⟨x0,x1⟩,⟨_,rfl,g1⟩⟩
theorem zxg {W:World} {t:TypeId} (hu:P.underlying t=some (.struct fs)) (hc:P.cellsOf t=1) (h0:fs[0]?=some f0) (o0:f0.offset=0) (n0:P.cellsOf f0.type=1) (r0:zcF P W f0.type (LSl zax)):zcF P W t zwL:=by
 intro H enc sp held fuel cs d ps h hw;obtain ⟨hl,hf⟩:=zeB hu hc h hw
 match cs,hl with
 | [c0],_=>
 obtain ⟨x0,e0⟩:=hf 0 f0 h0 r0;rw[o0,n0] at e0;simp only[zea] at e0;obtain ⟨v0,q0,g0⟩:=e0;cases q0;exact ⟨⟨x0⟩,⟨_,rfl,g0⟩⟩
theorem zxi {W:World} {t:TypeId} (hu:P.underlying t=some (.struct fs)) (hc:P.cellsOf t=2) (h0:fs[0]?=some f0) (o0:f0.offset=0) (n0:P.cellsOf f0.type=1) (r0:zcF P W f0.type zcn) (h1:fs[1]?=some f1) (o1:f1.offset=1) (n1:P.cellsOf f1.type=1) (r1:zcF P W f1.type LU8):zcF P W t zen:=by
 intro H enc sp held fuel cs d ps h hw;obtain ⟨hl,hf⟩:=zeB hu hc h hw
 match cs,hl with
 | [c0,c1],_=>
 obtain ⟨x0,e0⟩:=hf 0 f0 h0 r0;rw[o0,n0] at e0;simp only[zea] at e0;obtain ⟨q0,g0⟩:=e0;cases q0;obtain ⟨x1,e1⟩:=hf 1 f1 h1 r1;rw[o1,n1] at e1;simp only[zea] at e1;obtain ⟨q1,g1⟩:=e1;cases q1;exact ⟨⟨x0,x1⟩,⟨rfl,g0,g1⟩⟩
theorem zxh {W:World} {t:TypeId} (hu:P.underlying t=some (.struct fs)) (hc:P.cellsOf t=3) (h0:fs[0]?=some f0) (o0:f0.offset=0) (n0:P.cellsOf f0.type=1) (r0:zcF P W f0.type zcn) (h1:fs[1]?=some f1) (o1:f1.offset=1) (n1:P.cellsOf f1.type=1) (r1:zcF P W f1.type zcn) (h2:fs[2]?=some f2) (o2:f2.offset=2) (n2:P.cellsOf f2.type=1) (r2:zcF P W f2.type zcy):zcF P W t zcS:=by
 intro H enc sp held fuel cs d ps h hw;obtain ⟨hl,hf⟩:=zeB hu hc h hw
 match cs,hl with
 | [c0,c1,c2],_=>
 obtain ⟨x0,e0⟩:=hf 0 f0 h0 r0;rw[o0,n0] at e0;simp only[zea] at e0;obtain ⟨q0,g0⟩:=e0;cases q0;obtain ⟨x1,e1⟩:=hf 1 f1 h1 r1;rw[o1,n1] at e1;simp only[zea] at e1;obtain ⟨q1,g1⟩:=e1;cases q1;obtain ⟨x2,e2⟩:=hf 2 f2 h2 r2;rw[o2,n2] at e2;simp only[zea] at e2;cases (show [c2]=[_] from e2);exact ⟨⟨x0,x1,x2⟩,⟨rfl,g0,g1⟩⟩
theorem zsf {W:World} {t:TypeId} (hu:P.underlying t=some (.struct fs)) (hc:P.cellsOf t=9) (h0:fs[0]?=some f0) (o0:f0.offset=0) (n0:P.cellsOf f0.type=1) (r0:zcF P W f0.type zcy) (h1:fs[1]?=some f1) (o1:f1.offset=1) (n1:P.cellsOf f1.type=1) (r1:zcF P W f1.type LU8) (h2:fs[2]?=some f2) (o2:f2.offset=2) (n2:P.cellsOf f2.type=1) (r2:zcF P W f2.type zcn) (h3:fs[3]?=some f3) (o3:f3.offset=3) (n3:P.cellsOf f3.type=3) (r3:zcF P W f3.type zcZ) (h4:fs[4]?=some f4) (o4:f4.offset=6) (n4:P.cellsOf f4.type=2) (r4:zcF P W f4.type zen) {f5:Field} (h5:fs[5]?=some f5) (o5:f5.offset=8) (n5:P.cellsOf f5.type=1) (r5:zcF P W f5.type zcy):zcF P W t zau:=by
 intro H enc sp held fuel cs d ps h hw;obtain ⟨hl,hf⟩:=zeB hu hc h hw
 match cs,hl with
 | [c0,c1,c2,c3,c4,c5,c6,c7,c8],_=>
 obtain ⟨x0,e0⟩:=hf 0 f0 h0 r0;rw[o0,n0] at e0;simp only[zea] at e0;cases (show [c0]=[_] from e0);obtain ⟨x1,e1⟩:=hf 1 f1 h1 r1;rw[o1,n1] at e1;simp only[zea] at e1;obtain ⟨q1,g1⟩:=e1;cases q1;obtain ⟨x2,e2⟩:=hf 2 f2 h2 r2;rw[o2,n2] at e2;simp only[zea] at e2;obtain ⟨q2,g2⟩:=e2;cases q2;obtain ⟨x3,e3⟩:=hf 3 f3 h3 r3;rw[o3,n3] at e3;simp only[zea] at e3;have q3:=e3;cases (show [c3,c4,c5]=_ from q3);obtain ⟨x4,e4⟩:=hf 4 f4 h4 r4;rw[o4,n4] at e4;simp only[zea] at e4;obtain ⟨q4,g4_0,g4_1⟩:=e4;cases (show [c6,c7]=_ from q4);obtain ⟨x5,e5⟩:=hf 5 f5 h5 r5;rw[o5,n5] at e5;simp only[zea] at e5;cases (show [c8]=[_] from e5);exact ⟨⟨x0,x1,x2,x3,x4,x5⟩,⟨rfl,g1,g2,g4_0,g4_1⟩⟩
theorem ztD {W:World} {t:TypeId} (hu:P.underlying t=some (.struct fs)) (hc:P.cellsOf t=2) (h0:fs[0]?=some f0) (o0:f0.offset=0) (n0:P.cellsOf f0.type=1) (r0:zcF P W f0.type (LSl zcS)) (h1:fs[1]?=some f1) (o1:f1.offset=1) (n1:P.cellsOf f1.type=1) (r1:zcF P W f1.type (LSl zau)):zcF P W t ztt:=by
 intro H enc sp held fuel cs d ps h hw;obtain ⟨hl,hf⟩:=zeB hu hc h hw
 match cs,hl with
 | [c0,c1],_=>
 obtain ⟨x0,e0⟩:=hf 0 f0 h0 r0;rw[o0,n0] at e0;simp only[zea] at e0;obtain ⟨v0,q0,g0⟩:=e0;cases q0;obtain ⟨x1,e1⟩:=hf 1 f1 h1 r1;rw[o1,n1] at e1;simp only[zea] at e1;obtain ⟨v1,q1,g1⟩:=e1;cases q1;exact ⟨⟨x0,x1⟩,⟨_,_,rfl,g0,g1⟩⟩
theorem ztC {W:World} {t:TypeId} (hu:P.underlying t=some (.struct fs)) (hc:P.cellsOf t=5) (h0:fs[0]?=some f0) (o0:f0.offset=0) (n0:P.cellsOf f0.type=3) (r0:zcF P W f0.type zcZ) (h1:fs[1]?=some f1) (o1:f1.offset=3) (n1:P.cellsOf f1.type=1) (r1:zcF P W f1.type LU8) (h2:fs[2]?=some f2) (o2:f2.offset=4) (n2:P.cellsOf f2.type=1) (r2:zcF P W f2.type zcn):zcF P W t zdS:=by
 intro H enc sp held fuel cs d ps h hw;obtain ⟨hl,hf⟩:=zeB hu hc h hw
 match cs,hl with
 | [c0,c1,c2,c3,c4],_=>
 obtain ⟨x0,e0⟩:=hf 0 f0 h0 r0;rw[o0,n0] at e0;simp only[zea] at e0;have q0:=e0;cases (show [c0,c1,c2]=_ from q0);obtain ⟨x1,e1⟩:=hf 1 f1 h1 r1;rw[o1,n1] at e1;simp only[zea] at e1;obtain ⟨q1,g1⟩:=e1;cases q1;obtain ⟨x2,e2⟩:=hf 2 f2 h2 r2;rw[o2,n2] at e2;simp only[zea] at e2;obtain ⟨q2,g2⟩:=e2;cases q2;exact ⟨⟨x0,x1,x2⟩,⟨rfl,g1,g2⟩⟩
theorem zxj {W:World} {t:TypeId} (hu:P.underlying t=some (.struct fs)) (hc:P.cellsOf t=2) (h0:fs[0]?=some f0) (o0:f0.offset=0) (n0:P.cellsOf f0.type=1) (r0:zcF P W f0.type zcy) (h1:fs[1]?=some f1) (o1:f1.offset=1) (n1:P.cellsOf f1.type=1) (r1:zcF P W f1.type (LSl zdS)):zcF P W t zeS:=by
 intro H enc sp held fuel cs d ps h hw;obtain ⟨hl,hf⟩:=zeB hu hc h hw
 match cs,hl with
 | [c0,c1],_=>
 obtain ⟨x0,e0⟩:=hf 0 f0 h0 r0;rw[o0,n0] at e0;simp only[zea] at e0;cases (show [c0]=[_] from e0);obtain ⟨x1,e1⟩:=hf 1 f1 h1 r1;rw[o1,n1] at e1;simp only[zea] at e1;obtain ⟨v1,q1,g1⟩:=e1;cases q1;exact ⟨⟨x0,x1⟩,⟨_,rfl,g1⟩⟩
theorem zlB {H:Type} {enc:TypeId×Value→H} {W:World} {base:Nat} {sp:Nat→Bool} {held:Bool} {t:TypeId} {fuel:Nat} {q:List MemPlace} (hu:P.underlying t=some (.int .i64)) (h:DataW.trod enc P W base sp held fuel t [v]=some (.lit (.int .i64 b),q)):v=.int .i64 b:=by
 obtain ⟨n,e1,e2,_⟩:=DataW.trod_int hu h;simp_all
theorem ztA {W:World} {t:TypeId} (hu:P.underlying t=some (.struct fs)) (hc:P.cellsOf t=5) (h0:fs[0]?=some f0) (o0:f0.offset=0) (n0:P.cellsOf f0.type=1) (r0:zcF P W f0.type zcy) (h1:fs[1]?=some f1) (o1:f1.offset=1) (n1:P.cellsOf f1.type=1) (r1:zcF P W f1.type zcy) (h2:fs[2]?=some f2) (o2:f2.offset=2) (n2:P.cellsOf f2.type=1) (r2:zcF P W f2.type zcy) (h3:fs[3]?=some f3) (o3:f3.offset=3) (n3:P.cellsOf f3.type=1) (r3:zcF P W f3.type zcy) (h4:fs[4]?=some f4) (o4:f4.offset=4) (n4:P.cellsOf f4.type=1) (r4:zcF P W f4.type zcy):zcF P W t zbw:=by
 intro H enc sp held fuel cs d ps h hw;obtain ⟨hl,hf⟩:=zeB hu hc h hw
 match cs,hl with
 | [c0,c1,c2,c3,c4],_=>
 obtain ⟨x0,e0⟩:=hf 0 f0 h0 r0;rw[o0,n0] at e0;simp only[zea] at e0;cases (show [c0]=[_] from e0);obtain ⟨x1,e1⟩:=hf 1 f1 h1 r1;rw[o1,n1] at e1;simp only[zea] at e1;cases (show [c1]=[_] from e1);obtain ⟨x2,e2⟩:=hf 2 f2 h2 r2;rw[o2,n2] at e2;simp only[zea] at e2;cases (show [c2]=[_] from e2);obtain ⟨x3,e3⟩:=hf 3 f3 h3 r3;rw[o3,n3] at e3;simp only[zea] at e3;cases (show [c3]=[_] from e3);obtain ⟨x4,e4⟩:=hf 4 f4 h4 r4;rw[o4,n4] at e4;simp only[zea] at e4;cases (show [c4]=[_] from e4);exact ⟨⟨x0,x1,x2,x3,x4⟩,rfl⟩
theorem ztE {W:World} {t:TypeId} (hu:P.underlying t=some (.struct fs)) (hc:P.cellsOf t=2) (h0:fs[0]?=some f0) (o0:f0.offset=0) (n0:P.cellsOf f0.type=1) (r0:zcF P W f0.type zcy) (h1:fs[1]?=some f1) (o1:f1.offset=1) (n1:P.cellsOf f1.type=1) (r1:zcF P W f1.type (LSl zbw)):zcF P W t zmr:=by
 intro H enc sp held fuel cs d ps h hw;obtain ⟨hl,hf⟩:=zeB hu hc h hw
 match cs,hl with
 | [c0,c1],_=>
 obtain ⟨x0,e0⟩:=hf 0 f0 h0 r0;rw[o0,n0] at e0;simp only[zea] at e0;cases (show [c0]=[_] from e0);obtain ⟨x1,e1⟩:=hf 1 f1 h1 r1;rw[o1,n1] at e1;simp only[zea] at e1;obtain ⟨v1,q1,g1⟩:=e1;cases q1;exact ⟨⟨x0,x1⟩,⟨_,rfl,g1⟩⟩
theorem zyy {W:World} {t:TypeId} (hu:P.underlying t=some (.struct fs)) (hc:P.cellsOf t=2) (h0:fs[0]?=some f0) (o0:f0.offset=0) (n0:P.cellsOf f0.type=1) (r0:zcF P W f0.type zcy) (h1:fs[1]?=some f1) (o1:f1.offset=1) (n1:P.cellsOf f1.type=1) (r1:zcF P W f1.type LU8):zcF P W t zDd:=by
 intro H enc sp held fuel cs d ps h hw;obtain ⟨hl,hf⟩:=zeB hu hc h hw
 match cs,hl with
 | [c0,c1],_=>
 obtain ⟨x0,e0⟩:=hf 0 f0 h0 r0;rw[o0,n0] at e0;simp only[zea] at e0;cases (show [c0]=[_] from e0);obtain ⟨x1,e1⟩:=hf 1 f1 h1 r1;rw[o1,n1] at e1;simp only[zea] at e1;obtain ⟨q1,g1⟩:=e1;cases q1;exact ⟨⟨x0,x1⟩,⟨rfl,g1⟩⟩
theorem ztB {W:World} {t:TypeId} (hu:P.underlying t=some (.struct fs)) (hc:P.cellsOf t=8) (h0:fs[0]?=some f0) (o0:f0.offset=0) (n0:P.cellsOf f0.type=1) (r0:zcF P W f0.type zwL) (h1:fs[1]?=some f1) (o1:f1.offset=1) (n1:P.cellsOf f1.type=1) (r1:zcF P W f1.type (LSl zeS)) (h2:fs[2]?=some f2) (o2:f2.offset=2) (n2:P.cellsOf f2.type=2) (r2:zcF P W f2.type ztt) (h3:fs[3]?=some f3) (o3:f3.offset=4) (n3:P.cellsOf f3.type=2) (r3:zcF P W f3.type zmr) (h4:fs[4]?=some f4) (o4:f4.offset=6) (n4:P.cellsOf f4.type=2) (r4:zcF P W f4.type zDd):zcF P W t zwM:=by
 intro H enc sp held fuel cs d ps h hw;obtain ⟨hl,hf⟩:=zeB hu hc h hw
 match cs,hl with
 | [c0,c1,c2,c3,c4,c5,c6,c7],_=>
 obtain ⟨x0,e0⟩:=hf 0 f0 h0 r0;rw[o0,n0] at e0;simp only[zea] at e0;obtain ⟨w0_0,q0,g0_0⟩:=e0;cases (show [c0]=_ from q0);obtain ⟨x1,e1⟩:=hf 1 f1 h1 r1;rw[o1,n1] at e1;simp only[zea] at e1;obtain ⟨v1,q1,g1⟩:=e1;cases q1;obtain ⟨x2,e2⟩:=hf 2 f2 h2 r2;rw[o2,n2] at e2;simp only[zea] at e2;obtain ⟨w2_0,w2_1,q2,g2_0,g2_1⟩:=e2;cases (show [c2,c3]=_ from q2);obtain ⟨x3,e3⟩:=hf 3 f3 h3 r3;rw[o3,n3] at e3;simp only[zea] at e3;obtain ⟨w3_0,q3,g3_0⟩:=e3;cases (show [c4,c5]=_ from q3);obtain ⟨x4,e4⟩:=hf 4 f4 h4 r4;rw[o4,n4] at e4;simp only[zea] at e4;obtain ⟨q4,g4_0⟩:=e4;cases (show [c6,c7]=_ from q4);exact ⟨⟨x0,x1,x2,x3,x4⟩,⟨_,_,_,_,_,rfl,g0_0,g1,g2_0,g2_1,g3_0,g4_0⟩⟩
def zlX (r:Records):Desk:=⟨r,zpJ (zdf r.text r.copies)⟩
def zuh (d:Desk) (p:Place):Int:=if (zcb d.doubt p).getD false=true then 1 else 2
def zgI (d:Desk) (p:Place):Row:=⟨p,zfn d.recs.text d.recs.edition p,zuh d p⟩
def zqt (d:Desk) (hd:Head) (w:Str):List Place:=(zbW d.recs.text d.recs.lexicon hd).filter fun p=>decide (zbd d.recs.text p=w)
def zxX (d:Desk) (hd:Head) (w:Str):Form:=⟨w,(zqt d hd w).map (zgI d)⟩
def zjv (d:Desk) (hd:Head):List Str:=zfk sLt ((zbW d.recs.text d.recs.lexicon hd).map (zbd d.recs.text))
def zhE (d:Desk) (hd:Head):VEntry:=⟨hd,(zjv d hd).map (zxX d hd)⟩
def zka (d:Desk):List Head:=zfk zdU (zcD d.recs.text d.recs.lexicon)
def zBc (d:Desk):List VEntry:=(zka d).map (zhE d)
theorem zwT (r:Records) (p:Place):zuh (zlX r) p=zzs r p:=by
 simp only[zuh,zlX,zyH,zzs]
 by_cases h:p∈zdf r.text r.copies <;> simp[h]
theorem zyu (r:Records):zgI (zlX r)=zyt r:=by
 funext p;rw[zgI,zyt,zwT];rfl
theorem znz (r:Records) (hd:Head):zhE (zlX r) hd=zhD r hd:=by
 have:zxX (zlX r) hd=zuC r hd:=by funext w;rw[zxX,zuC,zyu];rfl
 rw[zhE,zhD,this];rfl
theorem zuf (r:Records):zBc (zlX r)=zhW r:=by
 have:zhE (zlX r)=zhD r:=by funext hd;exact znz r hd
 rw[zBc,zhW,this];rfl
def zAw (r:Records) (x:Edition):Desk:=⟨{ r with edition:=x },zpJ (zdf r.text r.copies)⟩
theorem zBb (r:Records) (x:Edition):zBc (zAw r x)=zhW { r with edition:=x }:=zuf { r with edition:=x }
theorem zwO (d:Desk) (hd:Head):(zjv d hd).length≤(zbA d.recs.text).length:=by
 have h1:=zkp zpx ((zbW d.recs.text d.recs.lexicon hd).map (zbd d.recs.text));have h2:(zbW d.recs.text d.recs.lexicon hd).length≤(zbA d.recs.text).length:=List.length_filter_le _ _;rw[List.length_map] at h1;unfold zjv;omega
theorem zzY (d:Desk) (hd:Head) (w:Str):(zqt d hd w).length≤(zbA d.recs.text).length:=
 Nat.le_trans (List.length_filter_le _ _) (List.length_filter_le _ _)
theorem zxu (d:Desk):(zka d).length≤(zbA d.recs.text).length:=by
 have h1:=zkp zjD (zcD d.recs.text d.recs.lexicon);rw[zcD,List.length_map] at h1;exact h1
theorem zsL {t:Text} {l:List Copy} (h:zem t l=0):zlg t l=zdf t l:=if_pos h
def ziY (t:Text) (e:Edition):Int×Int×Int:=if zcT t e≠0 then (0,0,zcT t e) else if (clR e.stretches).2.2=true then ((clR e.stretches).1,(clR e.stretches).2.1,0) else (0,0,6)
theorem zxq {t:Text} (ht:zbF t=true) (c:Nat):(zbY t c).length≤10:=by
 unfold zbY;cases e:t.chapters[c]? with
 | none=>simp
 | some x=>simpa using zhX ht e
theorem znU {t:Text} {e:Edition} (ht:zbF t=true):∀ i,((List.range i).flatMap (zrb t e)).length≤10*i
 | 0=>by simp
 | i+1=>by
  have h1:=znU (e:=e) ht i;have h2:=zxq ht i;have h3:=zys (t:=t) (e:=e) (c:=i);rw[List.range_succ,List.flatMap_append,List.length_append];simp only[List.flatMap_cons,List.flatMap_nil,List.append_nil];omega
theorem zzA {t:Text} {e:Edition} {c l:Nat} {wl: Int} (ha:a=((asF e.stretches ⟨c,l⟩).getD ziG).a) (hb:b=((asF e.stretches ⟨c,l⟩).getD ziG).b) (hw:wl=((zfA t c l).length:Int)):CRow.mk c l a b wl=zjy t e c l:=by
 rw[zjy,ha,hb,hw]
theorem zAK {l:List Stretch} {s:Stretch} {c: Nat} {b: Int} (hs:l[k]?=some s) (hl:∀ s∈l,OkS s) (ha:a=((asF (l.take k) ⟨c,n⟩).getD ziG).a) (h0:a=0) (h1:s.chapter=c) (h2:inB (n:Int) s.from_ (s.to-1)=true):s.as_=((asF (l.take (k+1)) ⟨c,n⟩).getD ziG).a∧s.first+(n:Int)-s.from_=((asF (l.take (k+1)) ⟨c,n⟩).getD ziG).b:=by
 have h3:asF (l.take k) ⟨c,n⟩=none:=(ztm fun x hx=>hl x (List.mem_of_mem_take hx)).1 (by rw[← ha];exact h0);simp only[inB,Bool.and_eq_true,decide_eq_true_eq] at h2;rw[zAL hs h3 (by simp only[zqy,Bool.and_eq_true,decide_eq_true_eq];omega)];refine ⟨rfl,?_⟩;show _=s.first+((n:Int)-s.from_);omega
theorem zob {l:List Stretch} {s:Stretch} {c: Nat} (hs:l[k]?=some s) (ha:a=((asF (l.take k) ⟨c,n⟩).getD ziG).a) (hb:b=((asF (l.take k) ⟨c,n⟩).getD ziG).b) (hl:∀ s∈l,OkS s) (h:¬ a=0∨¬ s.chapter=c∨inB (n:Int) s.from_ (s.to-1)=false):a=((asF (l.take (k+1)) ⟨c,n⟩).getD ziG).a∧b=((asF (l.take (k+1)) ⟨c,n⟩).getD ziG).b:=by
 have h2:asF (l.take (k+1)) ⟨c,n⟩=asF (l.take k) ⟨c,n⟩:=by
  refine zAM hs ?_
  rcases h with h|h|h
  ·left;cases e:asF (l.take k) ⟨c,n⟩ with
   | none=>rw[e] at ha;exact absurd ha h
   | some q=>rfl
  ·right;simp[zqy,h]
  ·right;simp only[inB,Bool.and_eq_false_iff,decide_eq_false_iff_not] at h;simp only[zqy,Bool.and_eq_false_iff,decide_eq_false_iff_not];omega
 rw[h2];exact ⟨ha,hb⟩
theorem zAJ {l:List CRow} {p:Place} (h:∀ (j:Nat) y,l[j]?=some y→(decide (y.chapter=p.chapter) && decide (y.line=p.line))=false):atR l p=zBQ:=by
 rw[atR,List.find?_eq_none.2]
 ·rfl
 intro y hy;obtain ⟨j,hj⟩:=List.mem_iff_getElem?.1 hy;rw[h j y hj];simp
theorem zCx {t:Text} {e:Edition} {p:Place} (h1:zcH t e=0) (h2:zcz t p=true):
  ((zjy t e p.chapter.toNat p.line.toNat).as_=0→zfn t e p=zrx∧ziR t e p=6)∧
  (¬ (zjy t e p.chapter.toNat p.line.toNat).as_=0→zfn t e p=⟨(zjy t e p.chapter.toNat p.line.toNat).as_,(zjy t e p.chapter.toNat p.line.toNat).number,p.word+1⟩∧ziR t e p=0):=by
 have hl:=fun s hs=>((zfC (zpw h1).1).2.2 s hs).2;have hp:=zjj h2;have e1:zfn t e p=ztz e p:=if_pos ⟨h1,h2⟩;have e2:ziR t e p=if (asF e.stretches ⟨p.chapter,p.line⟩).isSome=true then 0 else 6:=by rw[ziR,if_neg (by simp[h1]),if_pos h2]
 rw[e1,e2];constructor
 ·intro h;obtain ⟨q1,q2⟩:=zzB hl hp.1 hp.2.1 h;rw[q1,q2];exact ⟨rfl,rfl⟩
 ·intro h;obtain ⟨q1,q2⟩:=zBj hl hp.1 hp.2.1 h;rw[q1,q2];exact ⟨rfl,rfl⟩
theorem zxk {t:Text} (h:zcc t r.at_=none):zfo t r=false:=by simp[zfo,h]
theorem zks {t:Text} {l:List Str} (ht:zbF t=true) (h:zcc t r.at_=some l):zfo t r =
  if r.kind=1 then inB r.at_.word 0 ((l.length:Int)-1) && decide (r.word=[])
  else if r.kind=2 then inB r.at_.word 0 (l.length:Int) && zdI r.word
  else if r.kind=3 then inB r.at_.word 0 ((l.length:Int)-1) && zdI r.word && decide (r.word≠zfu l r.at_.word.toNat) else false:=by
 have h1:=(zqx ht h).1;have h2:l≠[]:=by rintro rfl;simp at h1
 unfold zfo;rw[h,Option.getD_some,decide_eq_true h2,Bool.true_and]
 by_cases k1:r.kind=1
 ·rw[if_pos k1,if_neg zU,k1];have:inB (1:Int) 1 3=true:=by decide
  rw[this,Bool.true_and,zgR,if_pos rfl];simp
 ·by_cases k2:r.kind=2
  ·rw[if_neg k1,if_pos k2,if_pos k2,k2];have:inB (2:Int) 1 3=true:=by decide
   rw[this,Bool.true_and,zgR,if_neg (by decide),if_pos rfl];congr 2;omega
  ·by_cases k3:r.kind=3
   ·rw[if_neg k1,if_neg k2,if_neg k2,if_pos k3,k3];have:inB (3:Int) 1 3=true:=by decide
    rw[this,Bool.true_and,zgR,if_neg (by decide),if_neg (by decide),Int.add_zero,Bool.and_assoc]
   ·rw[if_neg k1,if_neg k2,if_neg k3];have:inB r.kind 1 3=false:=by simp only[inB,Bool.and_eq_false_iff,decide_eq_false_iff_not];omega
    rw[this];simp[k2]
theorem zzZ (a:Place):zgA a a=0:=by rw[zvb];simp[zgN]
theorem zAa {a b:Place} (h:zgA a b=0):a=b:=by
 rw[zvb] at h
 rcases a with ⟨a1,a2,a3⟩;rcases b with ⟨b1,b2,b3⟩
 simp only[zgN] at h;simp only[Place.mk.injEq]
 (repeat' split at h) <;> omega
theorem zpI (q r:Place) (k:Int):(decide (zgA q r<0) || (decide (zgA q r=0) && decide (k=2))) = !(zdw r q || (decide (r=q) && decide (k≠2))):=by
 have h:=zva q r;cases e:zdw r q with
 | true=>
  rw[e] at h;have h:=of_decide_eq_true h;rw[decide_eq_false zU,decide_eq_false zU];rfl
 | false=>
  rw[e] at h;have h:=of_decide_eq_false h
  by_cases hq:r=q
  ·subst hq;rw[zzZ];simp
  ·have h2:¬ zgA q r=0:=fun h3=>hq (zAa h3).symm;rw[decide_eq_true (show zgA q r<0 by omega),decide_eq_false hq];rfl
section
variable {t:Text} {c:Copy}
theorem zyY {x:Chapter} {l:List Str} (hx:t.chapters[k]?=some x) (hl:x.lines[n]?=some l) (hA:∀ i,i<c.readings.length→zjz t c i=true) (h:inB (zvP c k n l).length 1 10=false):zjm t c=false:=by
 rw[zxN hA] at h;have hk:=(List.getElem?_eq_some_iff.1 hx).1;have hn:=(List.getElem?_eq_some_iff.1 hl).1;refine zoX (k:=k) (x:=zvW c k x) (zsj hk hx) ?_;rw[zmy,List.all_eq_false];refine ⟨zuo c k n l,?_,by simp[h]⟩;show _∈zlb c k x.lines x.lines.length;exact List.mem_map.2 ⟨n,List.mem_range.2 hn,by rw[hl];rfl⟩
theorem zAA (h1:inB c.id 0 9999=true) (h2:c.readings.length≤20) (hA:∀ i,i<c.readings.length→zjz t c i=true)
  (h:∀ k n:Nat,k<t.chapters.length→n<(zbY t k).length→inB (zvP c k n (zfA t k n)).length 1 10=true):zjm t c=true:=by
 refine zqA h1 h2 hA fun j x hx=>?_;have hj:j<t.chapters.length:=by have:=(List.getElem?_eq_some_iff.1 hx).1;simpa [zmX,zlU] using this
 have hy:t.chapters[j]?=some t.chapters[j]:=List.getElem?_eq_getElem hj;have e1:(zmX t c).chapters[j]?=some (zvW c j t.chapters[j]):=zsj hj hy;rw[e1] at hx;cases hx;rw[zmy,List.all_eq_true];intro l hl;obtain ⟨n,hn,rfl⟩:=List.mem_map.1 (show l∈zlb c j t.chapters[j].lines t.chapters[j].lines.length from hl);have hn:=List.mem_range.1 hn;have e2:zbY t j=t.chapters[j].lines:=by rw[zbY,hy];rfl
 have e3:=h j n hj (by rw[e2];exact hn);rw[zxN hA,zfA,e2] at e3;exact e3
end
theorem zvh (t:Text) (e:Edition):((ziY t e).2.2=6→zcH t e=0)∧((ziY t e).2.2=0→zcH t e=8)∧(¬ (ziY t e).2.2=0→¬ (ziY t e).2.2=6→zcH t e=(ziY t e).2.2):=by
 unfold ziY zcH
 rcases zsU t e with h|h|h
 ·have hc:=zuK fun s hs=>((zfC h).2.2 s hs).2;rw[h];cases e1:zhj e.stretches <;> rw[e1] at hc <;> simp[hc]
 ·rw[h];simp
 rw[h];simp
def zhr (r:Records) (l:List Place) (p:Place):Row:=⟨p,zfn r.text r.edition p,if p∈l then 1 else 2⟩
def zoE (l:List VEntry) (hd:Head):Option VEntry:=l.find? fun e=>decide (e.head=hd)
theorem zzy {l:List VEntry} {e:VEntry} (he:l[k]?=some e) (h1:∀ j y,j<k→l[j]?=some y→¬ y.head=hd) (h2:e.head=hd):zoE l hd=some e:=by
 have:l=l.take k++e::l.drop (k+1):=by rw[← zhA he,List.take_append_drop]
 rw[zoE,this,List.find?_append,List.find?_eq_none.2,List.find?_cons,decide_eq_true h2]
 ·rfl
 intro y hy;obtain ⟨j,hj⟩:=List.mem_iff_getElem?.1 hy;rw[List.getElem?_take] at hj;split at hj
 ·simpa using h1 j y (by assumption) hj
 cases hj
theorem zxa {l:List VEntry} (h:∀ (j:Nat) y,l[j]?=some y→¬ y.head=hd):zoE l hd=none:=by
 rw[zoE,List.find?_eq_none];intro y hy;obtain ⟨j,hj⟩:=List.mem_iff_getElem?.1 hy;simpa using h j y hj
theorem zyp {r:Records} (hx:zbG r.text r.lexicon=0) (hu:zeA r.text r.lexicon hd=0):zoE (zhW r) hd=some (zhD r hd):=by
 have hm:hd∈zfk zdU (zcD r.text r.lexicon):=by
  rw[zeA,if_pos hx] at hu;split at hu
  ·split at hu
   ·cases hu
   ·rename_i h1 h2;obtain ⟨p,hp⟩:=List.exists_mem_of_ne_nil _ h2;obtain ⟨h3,h4⟩:=under_mem.1 hp;exact zsd.2 (List.mem_map.2 ⟨p,h3,h4⟩)
  ·cases hu
 have hm2:zhD r hd∈zhW r:=List.mem_map.2 ⟨hd,hm,rfl⟩;cases hf:zoE (zhW r) hd with
 | none=>exact absurd (show decide ((zhD r hd).head=hd)=true from decide_eq_true rfl) (List.find?_eq_none.1 hf _ hm2)
 | some e=>
  have h1:=List.find?_some hf;have h2:e.head=hd:=of_decide_eq_true h1;obtain ⟨h',_,rfl⟩:=List.mem_map.1 (List.mem_of_find?_eq_some hf);have h3:h'=hd:=h2;rw[h3]
def ziT (r:Records):Bool:=!ziB r.text || !zep r.lexicon || decide (20<r.edition.stretches.length) || decide (8<r.copies.length) || r.copies.any zkB
theorem zsG {r:Records} (h:ziT r=false):ziB r.text=true∧zep r.lexicon=true∧r.edition.stretches.length≤20∧r.copies.length≤8∧∀ c∈r.copies,zkB c=false:=by
 simp only[ziT,Bool.or_eq_false_iff,Bool.not_eq_false',decide_eq_false_iff_not,List.any_eq_false] at h;obtain ⟨⟨⟨⟨h1,h2⟩,h3⟩,h4⟩,h5⟩:=h;exact ⟨h1,h2,by omega,by omega,fun c hc=>by simpa using h5 c hc⟩
end Go.Pk

namespace Go.Pk
open Go Go.RowKit Go.ChangeShapes Go.WideShapes Go.ChangeAt
def LU32:Lay Int:={ size:=1,R:=fun _ vs x=>vs=[.int .u32 x]∧0≤x∧x≤4294967295,up:=fun h _=>h,len:=by rintro _ _ _ ⟨rfl,_⟩;rfl,one:=by rintro _ _ _ ⟨rfl,_⟩ u hu;simp at hu;subst hu;rfl }
section
variable {P:Program} {W:World} {t:TypeId}
end
end Go.Pk

namespace Go.Pk
open Go Go.RowKit
variable {h0 h h':Heap} {w0 w w':World} {rest:Own}
theorem St.over {own: Own} (a:St h0 w0 h w rest) (b:St h w h' w' own):St h0 w0 h' w' rest:=a.call0 (b.take 0)
theorem St.keep {own: Own} (a:St h0 w0 h w rest) (b:St h w h' w' own):St h0 w0 h' w' (own++rest):=(a.call b).perm List.perm_append_comm
def zxH {α:Type} (P:Program) (gf:FuncId) (caps:List Value) (A:List α→Heap→Value→α→Prop) (S:List α→Prop) (h:Heap):Prop:=
 ∀ h0 w0 h',Le h h'→zvy P gf caps (fun pre h us x=>∃ u,us=[u]∧A pre h u x) S h0 w0 h'
theorem zxH.up {α:Type} {P:Program} {gf:FuncId} {caps:List Value} {A:List α→Heap→Value→α→Prop} {S:List α→Prop} (g:zxH P gf caps A S h) (le:Le h h'):zxH P gf caps A S h':=
 fun h0 w0 h1 l1=>g h0 w0 h1 (le.trans l1)
end Go.Pk
