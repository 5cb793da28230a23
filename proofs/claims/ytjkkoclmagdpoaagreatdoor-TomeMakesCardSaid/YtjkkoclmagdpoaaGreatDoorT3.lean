/- A PART OF THE PROOF: contracts of functions, each walked once (much of it printed by a program of the author's own). -/
import Derived.Test.YtjkkoclmagdpoaaGreatDoorT2
import Derived.Sort.Walk0
import Derived.Test.YtjkkoclmagdpoaaGreatDoorT0
import Derived.Test.YtjkkoclmagdpoaaGreatDoorT1
import Derived.RangeFuncRecord
import Derived.RangeFuncIn
import Derived.RangeFuncLeaves
set_option linter.unusedSimpArgs false
set_option linter.unusedVariables false
set_option maxRecDepth 4000
namespace Go.Pk
open Go Go.RowKit
variable {p:Place} {α:Type} {l:List α} {k n:Nat} {x:Lexicon} {wd:Str} {h:Head} {c:Copy}
section
variable {α:Type} [DecidableEq α]
structure TLt (lt:α→α→Bool):Prop where
 irrefl:∀ a,lt a a=false
 trans:∀ a b c,lt a b=true→lt b c=true→lt a c=true
 total:∀ a b,a≠b→lt a b=true∨lt b a=true
def zmf (lt:α→α→Bool) (l:List α) (x:α):List α:=if (l.dropWhile fun a=>lt a x).head?=some x then l else (l.takeWhile fun a=>lt a x)++[x]++(l.dropWhile fun a=>lt a x)
def zfk (lt:α→α→Bool) (l:List α):List α:=l.foldl (zmf lt) []
variable {lt:α→α→Bool}
theorem zhy (l:List α) (x:α):zfk lt (l++[x])=zmf lt (zfk lt l) x:=by simp[zfk]
omit [DecidableEq α] in
theorem TLt.asymm (T:TLt lt) {a b:α} (h:lt a b=true):lt b a=false:=by
 cases e:lt b a with
 | false=>rfl
 | true=>have:=T.trans _ _ _ h e;rw[T.irrefl] at this;cases this
omit [DecidableEq α] in
theorem zvC {p:α→Bool} {l:List α} (h1:∀ j y,j<k→l[j]?=some y→p y=true) (h2:∀ y,l[k]?=some y→p y=false):l.takeWhile p=l.take k∧l.dropWhile p=l.drop k:=by
 induction l generalizing k with
 | nil=>simp
 | cons a l ih=>
  cases k with
  | zero=>
   have:=h2 a (by simp);simp[this]
  | succ k=>
   have h0:=h1 0 a zU (by simp);obtain ⟨e1,e2⟩:=ih (k:=k) (fun j y hj hy=>h1 (j+1) y zU (by simpa using hy)) (fun y hy=>h2 y (by simpa using hy));simp[h0,e1,e2]
theorem zdH {l:List α} {x:α} (h1:∀ j y,j<k→l[j]?=some y→lt y x=true) (h2:∀ y,l[k]?=some y→lt y x=false) (h3:l[k]?≠some x):zmf lt l x=l.take k++[x]++l.drop k:=by
 obtain ⟨e1,e2⟩:=zvC (p:=fun a=>lt a x) h1 h2;rw[zmf,e1,e2,if_neg];rw[List.head?_drop];exact h3
theorem zgC {l:List α} {x:α} (h1:∀ j y,j<k→l[j]?=some y→lt y x=true) (h2:∀ y,l[k]?=some y→lt y x=false) (h3:l[k]?=some x):zmf lt l x=l:=by
 obtain ⟨e1,e2⟩:=zvC (p:=fun a=>lt a x) h1 h2;rw[zmf,e2,if_pos];rw[List.head?_drop];exact h3
theorem zyM {l:List α} {x y:α}:y∈zmf lt l x↔y∈l∨y=x:=by
 unfold zmf;split
 ·rename_i h;have:x∈l.dropWhile fun a=>lt a x:=List.mem_of_mem_head? h;have hx:x∈l:=(List.dropWhile_sublist _).subset this;constructor
  ·exact .inl
  ·rintro (h|rfl)
   ·exact h
   ·exact hx
 have e:l=(l.takeWhile fun a=>lt a x)++(l.dropWhile fun a=>lt a x):=(List.takeWhile_append_dropWhile).symm;have:y∈l↔y∈(l.takeWhile fun a=>lt a x)∨y∈(l.dropWhile fun a=>lt a x):=by
  rw[← List.mem_append,← e]
 rw[this];simp only[List.mem_append,List.mem_singleton];constructor
 ·rintro ((h|h)|h)
  ·exact .inl (.inl h)
  ·exact .inr h
  ·exact .inl (.inr h)
 rintro ((h|h)|h)
 ·exact .inl (.inl h)
 ·exact .inr h
 exact .inl (.inr h)
theorem zve (T:TLt lt) {l:List α} {x:α} (hs:l.Pairwise fun a b=>lt a b=true):(zmf lt l x).Pairwise fun a b=>lt a b=true:=by
 unfold zmf;split
 ·exact hs
 rename_i hne;have e:l=(l.takeWhile fun a=>lt a x)++(l.dropWhile fun a=>lt a x):=(List.takeWhile_append_dropWhile).symm;have hs':=hs;rw[e] at hs';obtain ⟨s1,s2,s3⟩:=List.pairwise_append.1 hs';have ht:∀ a∈l.takeWhile (fun a=>lt a x),lt a x=true:=by
  intro a ha;have:=List.all_takeWhile (l:=l) (p:=fun a=>lt a x);exact List.all_eq_true.1 this a ha
 have hd:∀ b∈l.dropWhile (fun a=>lt a x),lt x b=true:=by
  cases hD:l.dropWhile (fun a=>lt a x) with
  | nil=>simp
  | cons c D=>
   have hc:¬ lt c x=true:=by
    have:=List.head?_dropWhile_not (fun a=>lt a x) l;rw[hD] at this;simpa using this
   have hcx:c≠x:=by
    intro q;rw[hD,q] at hne;exact hne rfl
   have h1:lt x c=true:=(T.total x c (Ne.symm hcx)).resolve_right hc;intro b hb
   rcases List.mem_cons.1 hb with rfl|hb
   ·exact h1
   ·rw[hD] at s2;exact T.trans _ _ _ h1 ((List.pairwise_cons.1 s2).1 b hb)
 rw[List.append_assoc];refine List.pairwise_append.2 ⟨s1,List.pairwise_append.2 ⟨by simp,s2,?_⟩,?_⟩
 ·intro a ha b hb;simp at ha;subst ha;exact hd b hb
 intro a ha b hb
 rcases List.mem_append.1 hb with hb|hb
 ·simp at hb;subst hb;exact ht a ha
 exact s3 a ha b hb
theorem zvN (T:TLt lt) (l:List α):(zfk lt l).Pairwise fun a b=>lt a b=true:=by
 induction l using zgH with
 | nil=>exact List.Pairwise.nil
 | snoc l d ih=>rw[zhy];exact zve T ih
theorem zsd {l:List α} {y:α}:y∈zfk lt l↔y∈l:=by
 induction l using zgH with
 | nil=>simp[zfk]
 | snoc l d ih=>rw[zhy,zyM,ih];simp
omit [DecidableEq α] in
theorem zyn (T:TLt lt) {a b:List α} (ha:a.Pairwise fun x y=>lt x y=true) (hb:b.Pairwise fun x y=>lt x y=true) (h:∀ x,x∈a↔x∈b):a=b:=by
 have na:a.Nodup:=ha.imp (fun h e=>by subst e;rw[T.irrefl] at h;cases h);have nb:b.Nodup:=hb.imp (fun h e=>by subst e;rw[T.irrefl] at h;cases h);refine List.Perm.eq_of_pairwise (le:=fun x y=>lt x y=true) (fun x y _ _ h1 h2=>by have:=T.asymm h1;rw[h2] at this;cases this) ha hb ((List.perm_ext_iff_of_nodup na nb).2 h)
theorem zkp (T:TLt lt) (l:List α):(zfk lt l).length≤l.length:=by
 induction l using zgH with
 | nil=>simp[zfk]
 | snoc l d ih=>
  rw[zhy,zmf];split
  ·simp;omega
  ·have e:=congrArg List.length (List.takeWhile_append_dropWhile (p:=fun a=>lt a d) (l:=zfk lt l));simp only[List.length_append] at e ⊢;simp only[List.length_cons,List.length_nil];omega
theorem zpU {l:List α}:∀ {y:α},y∈zdW l↔y∈l:=by
 induction l using zgH with
 | nil=>simp[zdW]
 | snoc l d ih=>
  intro y;rw[zkm,zkw];split
  ·rename_i h;rw[ih];have:d∈zdW l:=List.mem_of_getLast? h;rw[ih] at this;constructor
   ·intro h;simp[h]
   ·intro h
    rcases List.mem_append.1 h with h|h
    ·exact h
    ·simp at h;subst h;exact this
  ·simp[ih]
theorem zrz (T:TLt lt) {l:List α} (hs:l.Pairwise fun a b=>lt b a=false):(zdW l).Pairwise fun a b=>lt a b=true:=by
 induction l using zgH with
 | nil=>exact List.Pairwise.nil
 | snoc l d ih=>
  obtain ⟨s1,_,s3⟩:=List.pairwise_append.1 hs;rw[zkm,zkw];split
  ·exact ih s1
  ·rename_i hne;refine List.pairwise_append.2 ⟨ih s1,by simp,fun a ha b hb=>?_⟩;simp at hb;subst hb;have hal:a∈l:=zpU.1 ha;have h1:=s3 a hal b (by simp)
   by_cases e:a=b
   ·exfalso;subst e;rw[zoG] at hne;cases hL:l.getLast? with
    | none=>rw[List.getLast?_eq_none_iff] at hL;subst hL;cases hal
    | some z=>
     rw[hL] at hne;have hz:z∈l:=List.mem_of_getLast? hL;have h2:=s3 z hz a (by simp)
     -- a comes ahead of z, or is it
     have h3:lt z a=false:=by
      obtain ⟨i,hi⟩:=List.mem_iff_getElem?.1 hal;rw[List.getLast?_eq_getElem?] at hL;obtain ⟨i1,i2⟩:=List.getElem?_eq_some_iff.1 hi;obtain ⟨z1,z2⟩:=List.getElem?_eq_some_iff.1 hL
      rcases Nat.lt_or_ge i (l.length-1) with h|h
      ·have:=List.pairwise_iff_getElem.1 s1 i (l.length-1) i1 z1 h;rw[i2,z2] at this;exact this
      ·have:i=l.length-1:=by omega
       subst this;rw[i2] at z2;subst z2;exact T.irrefl _
     by_cases e2:z=a
     ·exact hne (by rw[e2])
     ·rcases T.total z a e2 with q|q
      ·rw[q] at h3;cases h3
      ·rw[q] at h2;cases h2
   ·rcases T.total a b e with q|q
    ·exact q
    ·rw[q] at h1;cases h1
theorem zoD (T:TLt lt) {xs ys:List α} (hp:ys.Perm xs) (hs:ys.Pairwise fun a b=>lt b a=false):zdW ys=zfk lt xs:=
 zyn T (zrz T hs) (zvN T xs) (fun x=>by rw[zpU,zsd];exact hp.mem_iff)
end
theorem zoN (a b:Str):sLt a b=decide (a<b):=Go.Proofs.bytesLess_eq a b
theorem zvg:∀ (a b:Str),decide (zmD a b<0)=sLt a b
 | [],[]=>rfl
 | [],_::_=>rfl
 | _::_,[]=>rfl
 | x::a,y::b=>by
  have ih:=zvg a b;simp only[zmD,sLt,Lib.compareBytes,Op.bytesLess] at ih ⊢
  by_cases h1:x<y
  ·simp[h1]
  ·by_cases h2:y<x
   ·have:¬ x=y:=by rintro rfl;exact h1 h2
    simp[h1,h2,this]
   ·have:x=y:=by
     apply UInt8.le_antisymm
     ·exact UInt8.not_lt.1 h2
     ·exact UInt8.not_lt.1 h1
    subst this;have h1':¬ x<x:=h1;simp only[h1',if_false,beq_self_eq_true,Bool.true_and,decide_false,Bool.false_or];exact ih
theorem zrM:∀ (a b:Str),zmD a b=0↔a=b
 | [],[]=>by simp[zmD,Lib.compareBytes]
 | [],_::_=>by simp[zmD,Lib.compareBytes]
 | _::_,[]=>by simp[zmD,Lib.compareBytes]
 | x::a,y::b=>by
  have ih:=zrM a b;simp only[zmD,Lib.compareBytes] at ih ⊢
  by_cases h1:x<y
  ·have:¬ x=y:=by rintro rfl;exact absurd h1 (UInt8.lt_irrefl _)
   simp[h1,this]
  ·by_cases h2:y<x
   ·have:¬ x=y:=by rintro rfl;exact h1 h2
    simp[h1,h2,this]
   ·have:x=y:=by
     apply UInt8.le_antisymm
     ·exact UInt8.not_lt.1 h2
     ·exact UInt8.not_lt.1 h1
    subst this;simp[h1,ih]
theorem zsQ:∀ (a b:Str),-1≤zmD a b∧zmD a b≤1
 | [],[]=>by simp[zmD,Lib.compareBytes]
 | [],_::_=>by simp[zmD,Lib.compareBytes]
 | _::_,[]=>by simp[zmD,Lib.compareBytes]
 | x::a,y::b=>by
  have ih:=zsQ a b;simp only[zmD,Lib.compareBytes] at ih ⊢
  repeat' split
  all_goals omega
theorem zpx:TLt sLt:=by
 refine ⟨fun a=>?_,fun a b c=>?_,fun a b h=>?_⟩
 ·rw[zoN];simp[List.lt_irrefl]
 ·rw[zoN,zoN,zoN];simp only[decide_eq_true_eq];exact fun h1 h2=>List.lt_trans h1 h2
 rw[zoN,zoN];simp only[decide_eq_true_eq]
 by_cases h1:a<b
 ·exact .inl h1
 by_cases h2:b<a
 ·exact .inr h2
 exact absurd (List.le_antisymm (List.not_lt.1 h2) (List.not_lt.1 h1)) h
theorem zjD:TLt zdU:=by
 refine ⟨fun a=>?_,fun a b c h1 h2=>?_,fun a b h=>?_⟩
 ·simp[zdU,zpx.irrefl]
 ·simp only[zdU,Bool.or_eq_true,Bool.and_eq_true,decide_eq_true_eq] at *
  rcases h1 with h1|⟨e1,h1⟩
  ·rcases h2 with h2|⟨e2,h2⟩
   ·exact .inl (zpx.trans _ _ _ h1 h2)
   ·exact .inl (e2▸h1)
  ·rcases h2 with h2|⟨e2,h2⟩
   ·exact .inl (by rw[e1];exact h2)
   ·exact .inr ⟨e1.trans e2,by omega⟩
 simp only[zdU,Bool.or_eq_true,Bool.and_eq_true,decide_eq_true_eq]
 rcases a with ⟨s,m⟩;rcases b with ⟨s',m'⟩
 by_cases e:s=s'
 ·subst e;have hm:m≠m':=fun q=>h (by rw[q])
  rcases Int.lt_or_gt_of_ne hm with q|q
  ·exact .inl (.inr ⟨rfl,q⟩)
  ·exact .inr (.inr ⟨rfl,q⟩)
 rcases zpx.total s s' e with q|q
 ·exact .inl (.inl q)
 exact .inr (.inl q)
theorem zsR (a b:Head):decide (zlI a b<0)=zdU a b:=by
 unfold zlI zdU;rw[← zvg]
 by_cases h:zmD a.stem b.stem=0
 ·have e:=(zrM _ _).1 h;have h':¬ zmD a.stem b.stem≠0:=by simp[h]
  simp only[if_neg h',h,e];have e2:zmD b.stem b.stem=0:=(zrM _ _).2 rfl;have e3:sLt b.stem b.stem=false:=zpx.irrefl _;rw[← zvg] at e3;rw[e3];simp only[decide_true,Bool.true_and,Bool.false_or,decide_eq_decide];omega
 have e:¬ a.stem=b.stem:=fun q=>h ((zrM _ _).2 q);simp only[if_pos h,e];simp
theorem zzq:Go.Sort.SWO (Go.Proofs.ltOf zlI):=by
 have e:Go.Proofs.ltOf zlI=zdU:=by funext a b;exact zsR a b
 rw[e];refine ⟨zjD.irrefl,zjD.trans,fun a b c h1 h2=>?_⟩;cases h:zdU a c with
 | false=>rfl
 | true=>
  by_cases e1:a=b
  ·subst e1;rw[h] at h2;cases h2
  ·rcases zjD.total a b e1 with q|q
   ·rw[q] at h1;cases h1
   ·have:=zjD.trans _ _ _ q h;rw[this] at h2;cases h2
def zmB (t:Text) (x:Lexicon):List Head:=if zbG t x=0 then zfk zdU (zcD t x) else []
def zbW (t:Text) (x:Lexicon) (hd:Head):List Place:=(zbA t).filter fun p=>decide (zgs t x p=hd)
def zeA (t:Text) (x:Lexicon) (hd:Head):Int:=if zbG t x=0 then (if zhK hd=true then (if zbW t x hd=[] then 6 else 0) else 2) else zbG t x
def zgQ (t:Text) (x:Lexicon) (hd:Head):List Place:=if zeA t x hd=0 then zbW t x hd else []
def zfm (t:Text) (x:Lexicon) (hd:Head):List Entry:=if zeA t x hd=0 then (zee t x).filter fun y=>!decide (y.head≠hd) else []
def zny (t:Text) (x:Lexicon) (hd:Head):List Str:=if zeA t x hd=0 then zfk sLt ((zbW t x hd).map (zbd t)) else []
theorem zms (t:Text) (x:Lexicon) (hd:Head):((zee t x).filter fun y=>!decide (y.head≠hd))=(zbW t x hd).map (ziq t x):=by
 rw[zee,zbW,List.filter_map];congr 1;apply List.filter_congr;intro p _;simp only[ziq,Function.comp]
 by_cases e:zgs t x p=hd <;> simp[e]
theorem znA {t:Text} (ht:zbF t=true) (x:Lexicon):(zee t x).length≤600:=by rw[zee,List.length_map];exact zdY ht
theorem znk {t:Text} {hd:Head} (h:zeA t x hd=0):zbG t x=0:=by
 unfold zeA at h;split at h
 ·assumption
 rename_i q;exact absurd h q
theorem zwZ (l:List Str):zdW (l.mergeSort fun a b=>decide (a≤b))=zfk sLt l:=by
 refine zoD zpx (List.mergeSort_perm _ _) ?_;have h:=List.pairwise_mergeSort (le:=fun a b:Str=>decide (a≤b)) (by intro a b c h1 h2;simp only[decide_eq_true_eq] at *;exact List.le_trans h1 h2) (by intro a b;simp only[Bool.or_eq_true,decide_eq_true_eq];exact List.le_total a b) l;refine h.imp fun h=>?_;rw[zoN];simp only[decide_eq_true_eq] at h;simpa using h
def zBv (es:List Entry) (w:Str):Option Head:=(es.find? fun y=>decide (y.word=w)).map (·.head)
def zDK (es:List Entry) (y:Entry):List Str:=match zBv es y.word with
 | some h=>if h≠y.head then [y.word] else []
 | none=>[]
def zAm (es:List Entry):Nat→List Str
 | 0=>[]
 | n+1=>zAm es n++(match es[n]? with
  | some y=>zDK (es.take n) y
  | none=>[])
def zCA (es:List Entry) (i j:Nat):List Str:=match es[i]?,es[j]? with
 | some a,some b=>if a.word=b.word∧a.head≠b.head then [a.word] else []
 | _,_=>[]
def zBp (es:List Entry) (i:Nat):List Str:=(List.range i).flatMap (zCA es i)
def pairsN (es:List Entry) (n:Nat):List Str:=(List.range n).flatMap (zBp es)
def zDY (t:Text) (x:Lexicon):List Str:=if zbG t x=0 then zfk sLt (zAm (zee t x) (zee t x).length) else []
def zwp (x:Lexicon) (n:Int):Lexicon:={ x with decisions:=x.decisions.filter fun d=>decide (d.number≠n) }
def zDJ (t:Text) (x:Lexicon) (n:Int):Bool:=decide ((zwp x n).decisions.length<x.decisions.length) && decide (zcD t (zwp x n)=zcD t x)
def zDX (k:Nat):Int:=(k:Int)+1
def zDI (t:Text) (x:Lexicon) (k:Nat):List Int:=((List.range k).map zDX).filter (zDJ t x)
def zDH (t:Text) (x:Lexicon):List Int:=zDI t x 999
def idleN (t:Text) (x:Lexicon):List Int:=if zbG t x=0 then zDH t x else []
def idleP (t:Text) (x:Lexicon) (d:Decision):Bool:=decide (zee t (zwp x d.number)=zee t x)
def zDD (x:Lexicon) (d:Decision):Lexicon:={ x with decisions:=x.decisions++[d] }
def zEg (l:List Decision):List Decision:=l.mergeSort fun a b=>decide (a.number≤b.number)
def zCX (x:Lexicon) (d:Decision):Lexicon:={ x with decisions:=zEg (x.decisions++[d]) }
def zCY (t:Text) (x:Lexicon) (d:Decision):Int:=if zbG t x≠0 then zbG t x else if x.decisions.length=20 then 9 else if zbG t (zDD x d)≠0 then 41 else 0
def zvz:Lexicon:=⟨[],[]⟩
def zEh (t:Text) (x:Lexicon) (d:Decision):Lexicon:=if zCY t x d=0 then zCX x d else zvz
def zAD (t:Text) (x:Lexicon) (d:Decision):List Place:=(zbA t).filter fun p=>decide (zgs t (zCX x d) p≠zgs t x p)
def changesR (t:Text) (x:Lexicon) (d:Decision):List Place:=if zCY t x d=0 then zAD t x d else []
def insK (ds:List Decision) (i k:Nat) (y:Decision):List Decision:=ds.take k++y::((ds.take i).drop k++ds.drop (i+1))
def sortedTo (ds:List Decision) (i:Nat):Prop:=(ds.take i).Pairwise fun a b=>a.number≤b.number
def zwQ (x:Lexicon) (p:Place) (wd:Str):Decision:=
 if (zbD ((x.decisions.filter (zfh x)).filter fun d=>zfg d p wd)).number=0 then { zeK with to:=⟨((zec x.rules 4 wd).getLast?).getD [],0⟩ } else zbD ((x.decisions.filter (zfh x)).filter fun d=>zfg d p wd)
theorem zvK (x:Lexicon):((zgV x).map (·.2)).Perm (x.decisions.filter (zfh x)):=by
 have:(zgV x).map (·.2)=(zeQ x).filter (zfh x):=by simp[zgV,zhV,List.map_map,Function.comp_def]
 rw[this];exact (zfD x).filter _
theorem zxK (h:OkD x):zeG x=zwQ x:=by
 funext p wd;have hp:(zqB x p wd).Perm ((x.decisions.filter (zfh x)).filter fun d=>zfg d p wd):=(zvK x).filter _;have e:zbD (zqB x p wd)=zbD ((x.decisions.filter (zfh x)).filter fun d=>zfg d p wd):=by
  refine znK hp ?_ ?_
  ·intro y hy;exact (h.2 _ (List.mem_filter.1 (List.mem_filter.1 hy).1).1).1
  ·exact ((List.filter_sublist.trans List.filter_sublist).map _).nodup h.1
 rw[zeG,zwQ,e]
def zws (t:Text) (x:Lexicon) (p:Place):Head:=(zwQ x p (zbd t p)).to
def zCK (t:Text) (x:Lexicon) (p:Place):Entry:=⟨p,zbd t p,zws t x p⟩
def zAp (t:Text) (x:Lexicon):List Head:=(zbA t).map (zws t x)
def zAu (t:Text) (x:Lexicon):List Entry:=(zbA t).map (zCK t x)
def underV (t:Text) (x:Lexicon) (hd:Head):List Place:=(zbA t).filter fun p=>decide (zws t x p=hd)
def homV (t:Text) (x:Lexicon):List Str:=zfk sLt (zAm (zAu t x) (zbA t).length)
def idleV (t:Text) (x:Lexicon) (n:Int):Bool:=decide ((zwp x n).decisions.length<x.decisions.length) && decide (zAp t (zwp x n)=zAp t x)
def changesV (t:Text) (x y:Lexicon):List Place:=(zbA t).filter fun p=>decide (zws t y p≠zws t x p)
def zDe:Str:=[116,104,101]
def ztw:Str:=[115,101,97]
def zzk:Str:=[115,101,101]
def wIs:Str:=[105,115]
def zAX:Str:=[111,108,100]
def wOlde:Str:=[111,108,100,101]
def zDR:Str:=[97,110,100]
def zDf:Str:=[97,103,101]
def zBY:Text:=⟨[⟨7,[[zDe,ztw,wIs,zAX],[zAX,zDe,ztw]]⟩,⟨3,[[ztw,zDR,ztw]]⟩]⟩
def zCw:List Rule:=[⟨[115],[],2⟩,⟨[108,100],[108,100,101],1⟩]
def d1E:Decision:=⟨1,1,ztw,zfK,⟨ztw,1⟩,0⟩
def d2E:Decision:=⟨2,2,zAX,⟨0,1,0⟩,⟨zDf,3⟩,0⟩
def d3E:Decision:=⟨3,3,[],⟨1,0,2⟩,⟨zzk,2⟩,0⟩
def d4E:Decision:=⟨4,1,ztw,zfK,⟨zzk,2⟩,0⟩
def d5E:Decision:=⟨5,4,[],zfK,zhb,3⟩
def lexE (more:List Decision):Lexicon:=⟨zCw,[d1E,d2E,d3E]++more⟩
theorem zyG {r:Rule} {w s:Str} (hr:ziH r=true) (hw:zdI w=true) (h:zhN r w=some s):zdI s=true:=by
 unfold zhN at h;split at h
 ·rename_i h1;cases h;simp only[ziH,Bool.and_eq_true,zed,inB,decide_eq_true_eq] at hr;simp only[zdI,zed,inB,Bool.and_eq_true,decide_eq_true_eq,List.all_eq_true] at hw ⊢;refine ⟨?_,?_⟩
  ·intro c hc
   rcases List.mem_append.1 hc with hc|hc
   ·exact hw.1 c (List.mem_of_mem_take hc)
   ·exact List.all_eq_true.1 hr.1.1.2.1 c hc
  ·rw[List.length_append,List.length_take];have:=hr.2;omega
 cases h
theorem zqV {rs:List Rule} (hr:∀ r∈rs,ziH r=true):∀ (n:Nat) (w:Str),zdI w=true→∀ s∈zec rs n w,zdI s=true
 | 0,w,hw,s,hs=>by simp[zec] at hs;subst hs;exact hw
 | n+1,w,hw,s,hs=>by
  simp only[zec] at hs;split at hs
  ·simp at hs;subst hs;exact hw
  ·rename_i u hu
   rcases List.mem_cons.1 hs with rfl|hs
   ·exact hw
   ·obtain ⟨r,hr1,hr2⟩:=List.exists_of_findSome?_eq_some hu;exact zqV hr n u (zyG (hr r hr1) hw hr2) s hs
theorem zxr {t:Text} (h:zbG t x=0):∀ r∈x.rules,ziH r=true:=by
 have h1:=(zoR h).2;simp only[zdm,Bool.and_eq_true,List.all_eq_true] at h1;exact h1.1.1.2
def ziX (x:Lexicon) (p:Place) (wd:Str):List Decision:=(x.decisions.filter (zfh x)).filter fun d=>zfg d p wd
def zwW (x:Lexicon):List Int:=(zeh x).map (·.number)
def cntQ {α:Type} (q:α→Bool) (l:List α) (i:Nat):Nat:=((l.take i).filter q).length
theorem countV_mem {e:Decision}:e∈ziX x p wd↔e∈x.decisions∧zfh x e=true∧zfg e p wd=true:=by
 simp only[ziX,List.mem_filter];constructor
 ·rintro ⟨⟨a,b⟩,c⟩;exact ⟨a,b,c⟩
 rintro ⟨a,b,c⟩;exact ⟨⟨a,b⟩,c⟩
theorem zyk (h:ziX x p wd=[]):zwQ x p wd={ zeK with to:=⟨((zec x.rules 4 wd).getLast?).getD [],0⟩ }:=by
 simp only[ziX] at h;rw[zwQ,h,if_pos (show (zbD []).number=0 from rfl)]
theorem zyj (hx:OkD x) (h:ziX x p wd≠[]):zwQ x p wd=zbD (ziX x p wd)∧zbD (ziX x p wd)∈ziX x p wd∧∀ y∈ziX x p wd,y≠zbD (ziX x p wd)→zoS y (zbD (ziX x p wd)):=by
 have hp:∀ z∈ziX x p wd,1≤z.number:=fun z hz=>(hx.2 _ (countV_mem.1 hz).1).1;have hn:((ziX x p wd).map (·.number)).Nodup:=((List.filter_sublist.trans List.filter_sublist).map _).nodup hx.1;have hb:=zkd hp h;refine ⟨?_,hb.2,znL hp hn⟩;have h1:=hb.1;simp only[ziX] at h1 ⊢;rw[zwQ,if_neg zU]
theorem zyZ {d:Decision} (h:d.kind=4) (p:Place) (wd:Str):zfg d p wd=false:=by simp[zfg,h]
def voidD (n o:Int):Decision:=⟨n,4,[],zfK,zhb,o⟩
section
variable {t:Text} {x:Lexicon} {d:Decision} {most:Int}
end
def zRule:Rule:=⟨[],[],0⟩
def chooseN (l:List Int) (i:Nat):Int:=(l[i % l.length]?).getD 0
theorem zwP {t:Text} (ht:zbF t=true) (hp:zcz t p=true):zdI (zbd t p)=true:=by
 obtain ⟨c,ln,wd,_,hc,_,hl,_,hw,e⟩:=zpK hp;rw[e];simp only[zbF,Bool.and_eq_true,List.all_eq_true] at ht;have h1:=ht.1.2 _ (List.mem_of_getElem? hc);simp only[zcN,Bool.and_eq_true,List.all_eq_true] at h1;have h2:=h1.2 _ (List.mem_of_getElem? hl);simp only[ziz,Bool.and_eq_true,List.all_eq_true] at h2;exact h2.2 _ (List.mem_of_getElem? hw)
def trM (l:List Int):List (Int×Bool):=l.map fun n=>(n,true)
def wonF (l:List Decision) (n:Int):Decision:=l.foldl (fun a d=>if d.number=n then d else a) zeK
theorem zmo {q:α→Bool} {a:α} (h:l[k]?=some a):(l.take (k+1)).any q=((l.take k).any q || q a):=by rw[zaQ h,List.any_append];simp
def someS (x:Lexicon) (p:Place) (wd:Str) (d:Decision):Bool:=decide (d.number∈zwW x) && zfg d p wd
def zwf (l:List Decision):Int:=l.foldl (fun a d=>max a d.number) 0
def chQ (t:Text) (x:Lexicon) (d:Decision) (p:Place):Bool:=decide (zgs t (zCX x d) p≠zgs t x p)
section
variable {t:Text} {x:Lexicon} {d:Decision}
def cdQ (x y:Lexicon) (p:Place) (wd:Str) (o:Decision):Bool:=(decide (o.number∈zwW x) != decide (o.number∈zwW y)) && zfg o p wd
end
def zText:Text:=⟨[]⟩
def zDW (t:Text) (p:Place):Int:=(((zbA t).idxOf p:Nat):Int)
theorem under_mem {t:Text}:p∈zbW t x h↔p∈zbA t∧zgs t x p=h:=by rw[zbW,List.mem_filter,decide_eq_true_eq]
def zCp (t:Text) (x:Lexicon) (hs:List Head):List Place:=hs.flatMap (zbW t x)
def seenL (t:Text) (x:Lexicon) (hs:List Head) (u:List Place):List Int:=(zCp t x hs++u).map (zDW t)
def putAll (ws:List Str):List (Str×Bool):=ws.foldl (fun m w=>zgd m w true) []
theorem zyO {t:Text} (h:zbG t x=0) (hp:zcz t p=true):zhK (zgs t x p)=true:=by
 have hx:=zsq h;have ht:=zdk h;rw[zgs]
 by_cases hc:ziX x p (zbd t p)=[]
 ·rw[zxK hx,zyk hc];have hw:=zqV (zxr h) 4 (zbd t p) (zwP ht hp) (((zec x.rules 4 (zbd t p)).getLast?).getD []) (by
   cases e:(zec x.rules 4 (zbd t p)).getLast? with
   | none=>exact absurd (List.getLast?_eq_none_iff.1 e) (zjY x.rules 4 (zbd t p))
   | some s=>exact List.mem_of_getLast? e)
  simp[zhK,hw,inB]
 have hb:=(zyj hx hc);rw[zxK hx,hb.1];obtain ⟨h1,_,h3⟩:=countV_mem.1 hb.2.1;have q:=znv h _ h1;simp only[zaZ,Bool.and_eq_true] at q;have q2:=q.2;split at q2
 ·simp only[Bool.and_eq_true] at q2;exact q2.1.2
 split at q2
 ·simp only[Bool.and_eq_true] at q2;exact q2.1.2
 split at q2
 ·simp only[Bool.and_eq_true] at q2;exact q2.1.2
 split at q2
 ·rename_i hk;rw[zyZ hk] at h3;cases h3
 cases q2
theorem zvD {t:Text} (hx:zbG t x=0) (hh:h∈zfk zdU (zcD t x)):zeA t x h=0∧zbW t x h≠[]:=by
 obtain ⟨p,hp,rfl⟩:=List.mem_map.1 (zsd.1 hh);have hne:zbW t x (zgs t x p)≠[]:=List.ne_nil_of_mem (under_mem.2 ⟨hp,rfl⟩);exact ⟨by rw[zeA,if_pos hx,if_pos (zyO hx (zhU hp)),if_neg hne],hne⟩
theorem zoU {α:Type} (f:Nat→List α) {i:Nat}:∀ {N:Nat},i<N→∃ R,(List.range N).flatMap f=(List.range i).flatMap f++(f i++R)
 | N+1,h=>by
  rw[zeU]
  by_cases e:i=N
  ·subst e;exact ⟨[],by simp⟩
  ·obtain ⟨R,hR⟩:=zoU f (show i<N by omega);exact ⟨R++f N,by rw[hR];simp⟩
theorem zuu {α:Type} (g:Nat→α) {m:Nat}:∀ {N:Nat},m<N→∃ R,(List.range N).map g=(List.range m).map g++g m::R
 | N+1,h=>by
  rw[List.range_succ,List.map_append]
  by_cases e:m=N
  ·subst e;exact ⟨[],rfl⟩
  ·obtain ⟨R,hR⟩:=zuu g (show m<N by omega);exact ⟨R++[g N],by rw[hR];simp⟩
theorem zyC {t:Text} {i m: Nat} {c:Chapter} {ln:List Str} (hc:t.chapters[i]?=some c) (hl:c.lines[n]?=some ln) (hm:m<ln.length):
  (zbA t)[((List.range i).flatMap (ziA t)++(List.range n).flatMap (ziI t i)++(List.range m).map (mkP i n)).length]?=some (mkP i n m):=by
 obtain ⟨R1,e1⟩:=zoU (ziA t) (List.getElem?_eq_some_iff.1 hc).1;obtain ⟨R2,e2⟩:=zoU (ziI t i) (show n<(zbY t i).length by rw[zeV hc];exact (List.getElem?_eq_some_iff.1 hl).1);obtain ⟨R3,e3⟩:=zuu (mkP i n) (show m<(zfA t i n).length by rw[zfl hc hl];exact hm);have e:zbA t=((List.range i).flatMap (ziA t)++(List.range n).flatMap (ziI t i)++(List.range m).map (mkP i n))++(mkP i n m::(R3++(R2++R1))):=by
  rw[zbA,e1,show ziA t i=(List.range n).flatMap (ziI t i)++(ziI t i n++R2) from e2,show ziI t i n=(List.range m).map (mkP i n)++mkP i n m::R3 from e3];simp[List.append_assoc]
 rw[e,List.getElem?_append_right (Nat.le_refl _),Nat.sub_self];rfl
theorem zwb {pre: List α} {x:α} (h:pre=l.take pre.length) (hx:l[pre.length]?=some x):pre++[x]=l.take (pre++[x]).length:=by
 rw[List.length_append,List.length_cons,List.length_nil,Nat.zero_add,zaQ hx,← h]
def zBR (t:Text) (w:Str) (xs:List Place):List Place:=xs.filter fun p=>decide (zbd t p=w)
def wordsP (t:Text) (w:Str):List Place:=zBR t w (zbA t)
def zAb {α:Type} (l:List α):Option (List α):=if l.isEmpty then none else some l
def IdxOk (t:Text) (xs:List Place) (ls:List (Str×List Place)):Prop:=∀ k,zcb ls k=zAb (zBR t k xs)
theorem zyF (l:List α):(zAb l).getD []=l:=by
 cases l with
 | nil=>rfl
 | cons a l=>rfl
def ztr {κ α:Type} [DecidableEq κ] (L:Lay α) (h:Heap) (m:List (κ×Value)) (f:κ→List α):Prop:=∀ k,(zcb m k=none∧f k=[])∨∃ v,zcb m k=some v∧f k≠[]∧Sl L h v (f k)
theorem ztr.up {κ α:Type} [DecidableEq κ] {L:Lay α} {h h':Heap} {m:List (κ×Value)} {f:κ→List α} (a:ztr L h m f) (l:Le h h'):ztr L h' m f:=by
 intro k
 rcases a k with b|⟨v,b1,b2,b3⟩
 ·exact .inl b
 exact .inr ⟨v,b1,b2,b3.up l⟩
theorem ztr.get {κ: Type} [DecidableEq κ] {L:Lay α} {h:Heap} {m:List (κ×Value)} {f:κ→List α} (a:ztr L h m f) (k:κ):Sl L h ((zcb m k).getD (.slice none 0 0)) (f k):=by
 rcases a k with ⟨b1,b2⟩|⟨v,b1,_,b3⟩
 ·rw[b1,b2];exact Sl.nil L h
 rw[b1];exact b3
section
variable {κ:Type} [DecidableEq κ]
def zpJ (l:List κ):List (κ×Bool):=l.foldl (fun m w=>zgd m w true) []
theorem znW (l:List κ) (w:κ):zpJ (l++[w])=zgd (zpJ l) w true:=by rw[zpJ,List.foldl_append];rfl
theorem zyH (w:κ) {ws:List κ}:zcb (zpJ ws) w=if w∈ws then some true else none:=by
 have key:∀ (l:List κ) (m:List (κ×Bool)),zcb (l.foldl (fun m w=>zgd m w true) m) w=if w∈l then some true else zcb m w:=by
  intro l
  induction l with
  | nil=>intro m;simp
  | cons a l ih=>
   intro m;rw[List.foldl_cons,ih,zhz]
   by_cases h1:w∈l
   ·simp[h1]
   ·by_cases h2:w=a <;> simp[h1,h2]
 rw[zpJ,key];rfl
def fstL (l:List κ):List κ:=l.foldl (fun a x=>if x∈a then a else a++[x]) []
end
def vocabL (t:Text):List Str:=zfk sLt ((zbA t).map (zbd t))
def zfu (l:List Str) (w:Nat):Str:=(l[w]?).getD []
def zkA (kind:Int) (own put:Str):List Str:=if kind=1 then [] else if kind=2 then [put,own] else [put]
def zgR (kind:Int) (own put:Str):Bool:=if kind=1 then decide (put=[]) else if kind=2 then zdI put else zdI put && decide (put≠own)
def zpC (s:List Str) (r:Reading):List Str:=s.dropLast++zkA r.kind (s.getLast?.getD []) r.word
def zcM (c:Copy) (p:Place):List Reading:=c.readings.filter fun r=>decide (r.at_=p)
def zgJ (rs:List Reading) (own:Str):List Str:=rs.foldl zpC [own]
def zum (c:Copy) (k n:Nat) (l:List Str) (w:Nat):List Str:=zgJ (zcM c (mkP k n w)) (zfu l w)
def zkL (c:Copy) (k n:Nat) (l:List Str) (m:Nat):List Str:=(List.range m).flatMap (zum c k n l)
def zuo (c:Copy) (k n:Nat) (l:List Str):List Str:=(zkL c k n l (l.length+1)).filter fun s=>decide (s≠[])
def zlb (c:Copy) (k:Nat) (ls:List (List Str)) (n:Nat):List (List Str):=(List.range n).map fun i=>zuo c k i ((ls[i]?).getD [])
def zvW (c:Copy) (k:Nat) (x:Chapter):Chapter:=⟨x.id,zlb c k x.lines x.lines.length⟩
def zlU (t:Text) (c:Copy) (n:Nat):List Chapter:=(List.range n).map fun k=>zvW c k ((t.chapters[k]?).getD ⟨0,[]⟩)
def zmX (t:Text) (c:Copy):Text:=⟨zlU t c t.chapters.length⟩
def zjz (t:Text) (c:Copy) (i:Nat):Bool:=match c.readings[i]? with
 | some r=>(match zcc t r.at_ with
  | some l=>inB r.kind 1 3 && inB r.at_.word 0 ((l.length:Int)-1+if r.kind=2 then 1 else 0) && zgR r.kind (zfu l r.at_.word.toNat) r.word && decide (l≠[])
  | none=>false) && (match i with|0=>true|i+1=>match c.readings[i]? with|some q=>decide (zgA q.at_ r.at_<0) || (decide (zgA q.at_ r.at_=0) && decide (q.kind=2))|none=>true)
 | none=>true
def zjm (t:Text) (c:Copy):Bool:=inB c.id 0 9999 && decide (c.readings.length≤20) && (List.range c.readings.length).all (zjz t c) && (zmX t c).chapters.all fun x=>x.lines.all fun l=>inB l.length 1 10
theorem zvU {ls:List (List Str)} {l:List Str} (h:ls[n]?=some l):zlb c k ls (n+1)=zlb c k ls n++[zuo c k n l]:=by
 simp[zlb,List.range_succ,h]
theorem zvV {t:Text} {x:Chapter} (h:t.chapters[n]?=some x):zlU t c (n+1)=zlU t c n++[zvW c n x]:=by
 simp[zlU,List.range_succ,h]
theorem zpD (c:Copy) (k n:Nat) (l:List Str) (m:Nat):zkL c k n l (m+1)=zkL c k n l m++zum c k n l m:=by
 simp[zkL,List.range_succ]
theorem ziS (rs:List Reading) (r:Reading) (own:Str):zgJ (rs++[r]) own=zpC (zgJ rs own) r:=by simp[zgJ,List.foldl_append]
def zlZ:Question:=⟨zfK,[]⟩
def zCo:Voter:=⟨0,0,[]⟩
def zBP:Span:=⟨0,0⟩
def zuB (hs:List Head) (k:Nat):Bool:=match hs[k]? with|some h=>zhK h && (decide (k=0) || zdU ((hs[k-1]?).getD zhb) h)|none=>true
def zBu (hs:List Head):Bool:=(List.range hs.length).all (zuB hs)
def zBn (p:Poll) (i:Nat):Bool:=match p.questions[i]? with
 | some q=>zcz p.text q.at_ && (decide (i=0) || zdw ((p.questions[i-1]?).getD zlZ).at_ q.at_) && inB q.heads.length 2 3 && zBu q.heads
 | none=>true
def zAY (p:Poll) (v:Voter) (k:Nat):Bool:=match v.votes[k]?,p.questions[k]? with|some n,some q=>inB n (-1) ((q.heads.length:Int)-1)|_,_=>true
def zxL (p:Poll) (v:Voter):Bool:=(List.range v.votes.length).all (zAY p v)
def zAZ (p:Poll) (v:Voter):Bool:=inB v.id 0 9999 && inB v.wrong 0 6 && decide (v.votes.length=p.questions.length) && zxL p v
def zBa (p:Poll) (i:Nat):Bool:=match p.voters[i]? with|some v=>zAZ p v && (p.voters.take i).all fun u=>decide (u.id≠v.id)|none=>true
def zDw (p:Poll):Bool:=decide (p.questions.length≤6) && decide (p.voters.length≤6) && (List.range p.questions.length).all (zBn p) && (List.range p.voters.length).all (zBa p)
def zqC (p:Poll):Int:=if zbG p.text p.lexicon≠0 then zbG p.text p.lexicon else if zDw p=true then 0 else 70
def zxJ (v:Voter) (hs:List Int) (k:Nat):Bool:=match v.votes[k]?,hs[k]? with|some a,some b=>decide (0≤a) && decide (a≠b)|_,_=>false
def zrP (v:Voter) (hs:List Int):Nat:=((List.range hs.length).filter (zxJ v hs)).length
def zDG (p:Poll) (hs:List Int) (k:Nat):Bool:=match hs[k]?,p.questions[k]? with|some n,some q=>inB n 0 ((q.heads.length:Int)-1)|_,_=>true
def zBX (p:Poll) (hs:List Int):Bool:=decide (hs.length=p.questions.length) && (List.range hs.length).all (zDG p hs) && p.voters.all fun v=>decide ((zrP v hs:Int)≤v.wrong)
def zAE:List Nat→List (List Int)
 | []=>[[]]
 | n::ns=>(List.range n).flatMap fun (h:Nat)=>(zAE ns).map fun t=>(h:Int)::t
def zzw (p:Poll):List Nat:=p.questions.map (·.heads.length)
def zgc (p:Poll):List (List Int):=(zAE (zzw p)).filter (zBX p)
def zrS (p:Poll) (now:List Int):List (List Int):=((zAE ((zzw p).drop now.length)).map (now++·)).filter (zBX p)
def wrongK (v:Voter) (hs:List Int) (k:Nat):Nat:=((List.range k).filter (zxJ v hs)).length
def zpo (p:Poll) (so:Bool):Int:=if zqC p≠0 then zqC p else if so=false then 2 else if zgc p=[] then 8 else 0
def allL (p:Poll) (so:Bool):List (List Int):=if zpo p so=0 then zgc p else []
def zDv:List Nat→Nat
 | []=>1
 | n::ns=>n*zDv ns
def zEb (l:List (List Int)) (q:Nat) (h:Int):Nat:=(l.filter fun t=>decide (t[q]?=some h)).length
def zzj (l:List (List Int)) (q:Nat):Nat→Int
 | 0=>0
 | k+1=>zsu (zzj l q k) (zEb l q (k:Int))
def zrQ (l:List (List Int)) (q:Nat):Int:=zzj l q 3
end Go.Pk

namespace Go.Pk
open Go Go.RowKit
end Go.Pk

namespace Go.Pk
open Go Go.RowKit
variable {k m n:Nat} {h:Heap} {T:TypeId} {O:List (Nat×Obj)}
def ltL:List Int→List Int→Bool
 | a::s,b::t=>if a=b then ltL s t else decide (a<b)
 | _,_=>false
def zBJ (a b:List Int):Bool:=if a.length≠b.length then decide (a.length<b.length) else ltL a b
def zCW (a b l:List Int):Bool:=l.all fun k=>decide (a[k.toNat]?=b[k.toNat]?)
def zBh (ts:List (List Int)) (l:List Int) (i:Nat):Bool:=match ts[i]? with|some t=>(ts.take i).all fun u=>!zCW t u l|none=>true
def zzp (ts:List (List Int)) (l:List Int):Bool:=(List.range ts.length).all (zBh ts l)
def znu (s:Int) (n:Nat):List Int:=((List.range n).filter fun (i:Nat)=>decide (zDO s (i:Int)=1)).map fun (i:Nat)=>(i:Int)
def zCV (ts:List (List Int)) (n:Nat):Nat→Option (List Int)
 | 0=>none
 | k+1=>if ((match zCV ts n k with|none=>true|some b=>zBJ (znu (k:Int) n) b) && zzp ts (znu (k:Int) n))=true then some (znu (k:Int) n) else zCV ts n k
def zCk (p:Poll):List Int:=if zpo p true=0 then (zCV (zgc p) p.questions.length (2 ^ p.questions.length)).getD [] else []
def zAe (ts:List (List Int)):Nat→Nat
 | 0=>0
 | k+1=>if zrQ ts (k+1)<zrQ ts (zAe ts k) then k+1 else zAe ts k
def nextE (p:Poll):Int:=if zpo p true≠0 then zpo p true else if (zgc p).length=1 then 6 else 0
def nextR (p:Poll):Int:=if nextE p=0 then (zAe (zgc p) (p.questions.length-1):Int) else 0
def zDB (ts:List (List Int)) (q:Nat) (h:Int):Bool:=ts.any fun t=>decide (t[q]?=some h)
def zCf (ts:List (List Int)) (q n:Nat):List Int:=((List.range n).filter fun (h:Nat)=>zDB ts q (h:Int)).map fun (h:Nat)=>(h:Int)
def openR (p:Poll) (question:Int):List Int:=if zpo p (inB question 0 ((p.questions.length:Int)-1))=0 then zCf (zgc p) question.toNat (((p.questions[question.toNat]?).getD zlZ).heads.length) else []
def zCr (vs:List Voter) (q n:Nat):List Int:=(List.range n).map fun (h:Nat)=>(((vs.filter fun v=>decide (v.votes[q]?=some (h:Int))).length:Nat):Int)
def zCs (p:Poll) (question:Int):Int:=if zqC p≠0 then zqC p else if inB question 0 ((p.questions.length:Int)-1)=true then 0 else 2
def tallyR (p:Poll) (question:Int):List Int:=if zCs p question=0 then zCr p.voters question.toNat (((p.questions[question.toNat]?).getD zlZ).heads.length) else []
def setAt (ts:List (List Int)) (a0:List Int) (k:Nat):Int:=match a0[k]? with|some h=>if (ts.all fun t=>decide (t[k]?=some h))=true then h else -1|none=>-1
def zCv (ts:List (List Int)) (a0:List Int):List Int:=(List.range a0.length).map (setAt ts a0)
def zse (ts:List (List Int)):List Int:=match ts[0]? with|some a0=>zCv ts a0|none=>[]
def setM (ts:List (List Int)) (a0:List Int) (i k:Nat):List Int:=(zCv (ts.take (i+1)) a0).take k++(zCv (ts.take i) a0).drop k
def zvM (p:Poll):List Int:=if zpo p true=0 then zse (zgc p) else []
def zBZ (v:Voter) (ts:List (List Int)):Span:=ts.foldl (fun s t=>⟨zwg s.lo (zrP v t),zsu s.hi (zrP v t)⟩) ⟨6,0⟩
def zAW (p:Poll) (voter:Int):Span:=if zpo p (inB voter 0 ((p.voters.length:Int)-1))=0 then zBZ ((p.voters[voter.toNat]?).getD zCo) (zgc p) else zBP
section
variable {P:Program} {σ:Env} {w:World} {ty:TypeId} {pos:String} {aft:Array Edge} {g:Option (Nat×Bool)} {dst:Option Tmp}
theorem zmw {t e:TypeId} {x ix:Operand} {i:Int} {vs us:List Value} (hx:ev σ x=.agg vs.toArray) (hi:ev σ ix=.int .i64 i) (hk:i=(k:Int)) (hlt:Nat.blt k n=true) (hu:P.underlying t=some (.array n e)) (ha:∀ w,(isAgg e).run P w=.ok true w) (hz:∀ w,(sizeOf e).run P w=.ok m w) (hv:(vs.drop (k*m)).take m=us):
  Run P σ w ⟨dst,.index t x ix,ty,pos,aft,g⟩ (.agg us.toArray) w:=by
 subst hk hv;have h1:k<n:=by rwa [Nat.blt_eq] at hlt
 simp[Run,execOp,hx,hi,Instr.index,asIntOf,run_underlying hu,h1,part,ha,hz]
end
def cmpT (a b:Str):Int:=if sLt a b=true then -1 else if a=b then 0 else 1
def orL:List Int→Int
 | []=>0
 | a::l=>if a≠0 then a else orL l
theorem zpM {l:List Int} {a:Int} (h:l[k]?=some a):orL (l.drop k)=if a≠0 then a else orL (l.drop (k+1)):=by rw[zhA h];rfl
def zCz (p:Poll) (i:Nat) (q:Question):Bool:=zcz p.text q.at_ && (decide (i=0) || zdw ((p.questions[i-1]?).getD zlZ).at_ q.at_) && inB q.heads.length 2 3
def questK (p:Poll) (i:Nat) (q:Question) (k:Nat):Bool:=zCz p i q && (List.range k).all (zuB q.heads)
section
variable {p:Poll} {i k:Nat} {q q1:Question} {hd h1:Head}
end
def askAt (p:Poll) (v:Voter) (i:Nat):Nat→Bool
 | 0=>inB v.id 0 9999
 | 1=>inB v.wrong 0 6
 | 2=>decide (v.votes.length=p.questions.length)
 | 3=>zxL p v
 | _=>!((p.voters.take i).any fun u=>decide (u.id=v.id))
def voteB (p:Poll) (v:Voter):Bool:=inB v.id 0 9999 && inB v.wrong 0 6 && decide (v.votes.length=p.questions.length)
section
variable {t:Text} {c:Copy} {x:Lexicon}
def wordE (s:Str):Prop:=s=[]∨zdI s=true
theorem ziP (h:zbF t=true):1≤t.chapters.length∧t.chapters.length≤6∧(∀ x∈t.chapters,zcN x=true)∧(t.chapters.map (·.id)).Nodup:=by
 simp only[zbF,inB,Bool.and_eq_true,decide_eq_true_eq,List.all_eq_true] at h;exact ⟨by omega,by omega,h.1.2,h.2⟩
theorem zsj {x:Chapter} (hk:k<n) (h:t.chapters[k]?=some x):(zlU t c n)[k]?=some (zvW c k x):=by
 simp[zlU,List.getElem?_range hk,h]
theorem zCD (a b:Place):orL [zgN a.chapter b.chapter,zgN a.line b.line,zgN a.word b.word]=zgA a b:=by
 simp only[orL,zgA,zrA]
 repeat' split
 all_goals first|rfl|simp_all
def formsX (x:Lexicon) (k:Nat):Lexicon:=⟨x.rules,(x.decisions.take k).filter fun d=>decide (d.kind=1)⟩
end
section
variable {κ α:Type} [DecidableEq κ] {key:α→κ} {xs:List α} {ls:List (κ×List α)}
def zxv (key:α→κ) (k:κ) (xs:List α):List α:=xs.filter fun a=>decide (key a=k)
def ztu (key:α→κ) (xs:List α) (ls:List (κ×List α)):Prop:=∀ k,zcb ls k=zAb (zxv key k xs)
theorem zBw:ztu key [] []:=fun _=>rfl
theorem zpR (h:ztu key xs ls) (k:κ):(zcb ls k).getD []=zxv key k xs:=by rw[h k,zyF]
theorem zAq (h:ztu key xs ls) (a:α):ztu key (xs++[a]) (zgd ls (key a) ((zcb ls (key a)).getD []++[a])):=by
 intro k;rw[zhz,zpR h,h k];simp only[zxv,List.filter_append,List.filter_cons,List.filter_nil]
 by_cases e:k=key a
 ·subst e;rw[if_pos rfl,if_pos (by simp),zAb,if_neg (by simp)]
 rw[if_neg e,if_neg (by simpa using fun z=>e z.symm),List.append_nil]
theorem zxW (k:κ) (xs:List α):(zxv key k xs).length≤xs.length:=List.length_filter_le _ _
theorem zAr (h:ztu key xs ls) {k:κ} {l:List α} (e:zcb ls k=some l):l.length≤xs.length:=by
 have:=zpR h k;rw[e] at this;rw[show l=zxv key k xs from this];exact zxW k xs
theorem zBx {L:Lay α} {m:List (κ×Value)} {h' : Heap} (hi:ztu key xs ls) (a:NM L T h m ls O) (hf:∀ k v,zcb m k=some v→Sl L h' v ((zcb ls k).getD [])):ztr L h' m fun k=>zxv key k xs:=by
 intro k;obtain ⟨es,_,a2,_⟩:=a
 rcases a2 k with ⟨b1,_,b3⟩|⟨v,o,l,b1,_,b3,_⟩
 ·refine .inl ⟨b1,?_⟩;have:=zpR hi k;rw[b3] at this;exact this.symm
 refine .inr ⟨v,b1,?_,?_⟩
 ·have e:=hi k;rw[b3,zAb] at e;split at e
  ·cases e
  ·rename_i q;intro z;exact q (by rw[show zxv key k xs=[] from z];rfl)
 have:=hf k v b1;rwa [zpR hi k] at this
theorem NM.ent {L:Lay α} {m:List (κ×Value)} {k:κ} {v z:Value} (a:NM L T h (zgd m k v) ls O):NM L T h (zgd (zsJ m k z) k v) ls O:=by
 obtain ⟨es,a1,a2,a3⟩:=a;refine ⟨es,a1,fun k'=>?_,a3⟩;have e:zcb (zgd (zsJ m k z) k v) k'=zcb (zgd m k v) k':=by
  rw[zhz,zhz,zyI]
  by_cases q:k'=k
  ·rw[if_pos q,if_pos q]
  ·rw[if_neg q,if_neg q,if_neg q]
 rw[e];exact a2 k'
end
theorem OSl.pre {α:Type} {L:Lay α} {p:Option Addr} {c: Nat} {xs:List α} {o:List (Nat×Obj)} (e:OSl L T h (.slice p n c) xs o) (hm:m≤xs.length) (h0:xs≠[]):OSl L T h (.slice p m c) (xs.take m) o:=by
 obtain ⟨cs,e1,⟨_,rfl,_⟩|⟨g,cap,cur,q1,q2,q3,q4,q5,q6⟩⟩:=e
 ·exact absurd rfl h0
 cases q1;refine ⟨cs.take (m*L.size),⟨?_,fun i x hi=>?_⟩,.inr ⟨g,c,cur,?_,q2,?_,q4,q5,?_⟩⟩
 ·rw[List.length_take,List.length_take,e1.1,Nat.min_eq_left hm,Nat.min_eq_left (Nat.mul_le_mul_right _ hm)]
 ·rw[List.getElem?_take] at hi;split at hi
  ·rename_i hlt;have hr:=e1.2 i x hi;have:(List.take L.size (List.drop (i*L.size) (List.take (m*L.size) cs)))=List.take L.size (List.drop (i*L.size) cs):=by
    rw[List.drop_take,List.take_take,Nat.min_eq_left];have:=Nat.mul_le_mul_right L.size hlt;rw[Nat.succ_mul] at this;omega
   rw[this];exact hr
  ·cases hi
 ·rw[List.length_take,Nat.min_eq_left hm]
 ·rw[List.length_take];omega
 rw[List.length_take,Nat.min_eq_left hm,← q6,List.take_take,Nat.min_eq_left (Nat.mul_le_mul_right _ hm)]
def zAi (now:List Int) (v:Voter):Int:=v.wrong-(zrP v now:Int)
def leftL (p:Poll) (now:List Int):List Int:=p.voters.map (zAi now)
def leftM (p:Poll) (now:List Int) (h:Int) (i:Nat):List Int:=(p.voters.take i).map (zAi (now++[h]))++(p.voters.drop i).map (zAi now)
structure NowOk (p:Poll) (now:List Int):Prop where
 len:now.length≤p.questions.length
 ins:∀ k,k<now.length→zDG p now k=true
 wr:∀ v∈p.voters,(zrP v now:Int)≤v.wrong
def startL (p:Poll) (i:Nat):List Int:=(p.voters.take i).map (·.wrong)++List.replicate (p.voters.length-i) 0
def truthsK (p:Poll) (now:List Int) (k:Nat):List (List Int):=(List.range k).flatMap fun (h:Nat)=>zrS p (now++[(h:Int)])
def OnWay (p:Poll) (done:List (List Int)) (now:List Int):Prop:=∃ tl,zgc p=done++zrS p now++tl
def choiceAt (q:Nat) (t:List Int):Int:=(t[q]?).getD 0
def zCu (q:Question):Bool:=decide (q.heads.length≤6) && q.heads.all fun h=>decide (h.stem.length≤40)
def zCt (v:Voter):Bool:=decide (v.votes.length≤20)
def smallP (p:Poll):Bool:=ziB p.text && zep p.lexicon && decide (p.questions.length≤10) && decide (p.voters.length≤10) && p.questions.all zCu && p.voters.all zCt
def maxL:List Int→Int
 | []=>0
 | a::l=>l.foldl zsu a
def zCJ {α:Type} (lt:α→α→Bool) (l:List α):Option α:=l.foldl (fun o x=>match o with|none=>some x|some b=>if lt x b=true then some x else some b) none
def firstL {α:Type} (lt:α→α→Bool) (z:α) (l:List α):α:=(zCJ lt l).getD z
def askC (ts:List (List Int)) (n k:Nat):List (List Int):=((List.range k).filter fun (s:Nat)=>zzp ts (znu (s:Int) n)).map fun (s:Nat)=>znu (s:Int) n
def nextC (ts:List (List Int)) (k:Nat):List Int:=((List.range k).filter fun (q:Nat)=>decide (zrQ ts q<(ts.length:Int))).map fun (q:Nat)=>(q:Int)
def worseB (ts:List (List Int)) (a b:Int):Bool:=decide (zrQ ts a.toNat<zrQ ts b.toNat)
def zuj (t:List Int) (s:Int) (k j:Nat):Int:=if j<k then (t[j]?).getD 0*zDO s (j:Int) else 0
def zDT (t:List Int) (s:Int) (k:Nat):Six:=⟨zuj t s k 0,zuj t s k 1,zuj t s k 2,zuj t s k 3,zuj t s k 4,zuj t s k 5⟩
def sixM (ts:List (List Int)) (s:Int) (i:Nat) (x:Six):Option Bool:=if ((ts.take i).any fun u=>decide (zDT u s 6=x))=true then some true else none
section
def zDN (x:Lexicon) (q:Question) (hd:Head):Decision:=⟨zwf x.decisions+1,3,[],q.at_,hd,0⟩
def decN (n:Int) (q:Question) (hd:Head):Decision:=⟨n,3,[],q.at_,hd,0⟩
def zEa (p:Poll) (x:Lexicon) (q:Question) (h:Int):Lexicon×Int:=
 if h<0 then (x,0) else if (zEf p.text x q.at_).to=(q.heads[h.toNat]?).getD zhb then (x,0)
 else (zEh p.text x (zDN x q ((q.heads[h.toNat]?).getD zhb)),zCY p.text x (zDN x q ((q.heads[h.toNat]?).getD zhb)))
def zyX (p:Poll) (s:List Int):Nat→Lexicon×Int
 | 0=>(p.lexicon,0)
 | k+1=>if (zyX p s k).2=0 then (match p.questions[k]?,s[k]? with
  | some q,some h=>zEa p (zyX p s k).1 q h
  | _,_=>zyX p s k) else zyX p s k
def zya (p:Poll):Int:=if zpo p true=0 then (zyX p (zse (zgc p)) (zse (zgc p)).length).2 else zpo p true
def zxZ (p:Poll):Lexicon:=if zpo p true=0 then (zyX p (zse (zgc p)) (zse (zgc p)).length).1 else zvz
variable {p:Poll} {s:List Int} {k:Nat} {x:Lexicon} {q:Question} {h:Int} {hd:Head}
def nextN (l:List Decision):Int:=zwf l+1
def zDE (p:Poll) (s:List Int) (k:Nat) (w:Str):Bool:=match p.questions[k]?,s[k]? with
 | some q,some h=>decide (h<0) && decide (zbd p.text q.at_=w)
 | _,_=>false
def zCg (p:Poll) (s:List Int) (n:Nat) (w:Str):Bool:=(List.range n).any fun k=>zDE p s k w
def mootR (p:Poll):List Str:=if zpo p true=0 then (zDY p.text p.lexicon).filter (zCg p (zse (zgc p)) (zse (zgc p)).length) else []
def stillF (ws:List Str) (p:Poll) (s:List Int) (n:Nat) (w:Str):Option Bool:=if w∈ws∧zCg p s n w=false then some true else none
end
def dPE:Decision:=⟨1,3,[],⟨1,0,2⟩,⟨zzk,2⟩,0⟩
def zDF (more:List Decision):Lexicon:=⟨[],dPE::more⟩
def zzz:List Head:=[⟨ztw,1⟩,⟨zzk,2⟩]
def zxR:List Question:=[⟨⟨0,0,1⟩,zzz⟩,⟨⟨0,0,3⟩,[⟨zDf,3⟩,⟨zAX,0⟩]⟩,⟨⟨1,0,0⟩,zzz⟩]
def zxM:List Voter:=[⟨5,0,[-1,1,-1]⟩,⟨2,1,[0,0,0]⟩,⟨8,1,[0,-1,1]⟩]
def zzW:Poll:=⟨zBY,zDF [],zxR,zxM⟩
def twoE:Poll:=⟨zBY,zDF [],zxR,zxM.drop 1⟩
def e1E:Decision:=⟨2,3,[],⟨0,0,1⟩,⟨ztw,1⟩,0⟩
def e2E:Decision:=⟨3,3,[],⟨1,0,0⟩,⟨ztw,1⟩,0⟩
def candX (l:List (List Int)) (n:Nat):List (List Int):=l.flatMap fun x=>(List.range n).map fun (h:Nat)=>x++[(h:Int)]
def heads1 (x:List Int) (h:Nat):List (List Int):=(List.range h).map fun (h:Nat)=>x++[(h:Int)]
def forN (vs:List Voter) (q:Nat) (h:Int):Nat:=(vs.filter fun v=>decide (v.votes[q]?=some h)).length
end Go.Pk

namespace Go.Pk
open Go Go.RowKit
end Go.Pk

namespace Go.Pk
open Go Go.RowKit
variable {vs ys:List Voter} {k i n j:Nat} {a b p:Place} {c:Copy} {h0 h:Heap} {w0 w:World} {o:List (Nat×Obj)} {m:List (Pair×Pair)} {r:Reading} {s x y:Stretch} {e:Edition} {l:List Stretch}
def openN (p:Poll) (k:Nat):List Int:=if zpo p true=0 then zCf (zgc p) k (((p.questions[k]?).getD zlZ).heads.length) else []
def wrongsN (p:Poll) (k:Nat):Span:=zAW p (k:Int)
def moreP (p:Poll) (v:Voter):Poll:=⟨p.text,p.lexicon,p.questions,p.voters++[v]⟩
def rotP (p:Poll) (ys:List Voter):Poll:=⟨p.text,p.lexicon,p.questions,ys⟩
def zAQ (vs ys:List Voter) (k i:Nat):Prop:=ys.length=vs.length∧∀ j,j<i→ys[j]?=vs[(j+k) % vs.length]?
theorem zAQ.step {v:Voter} (h:zAQ vs ys k i) (hi:i<vs.length) (hv:vs[(i+k) % vs.length]?=some v):zAQ vs (ys.set i v) k (i+1):=by
 refine ⟨by rw[List.length_set];exact h.1,fun j hj=>?_⟩
 by_cases e:j=i
 ·subst e;rw[List.getElem?_set_self (by rw[h.1];exact hi),hv]
 rw[List.getElem?_set_ne (Ne.symm e)];exact h.2 j zU
theorem zAQ.perm (h:zAQ vs ys k i) (hi:vs.length≤i) (hk:k<vs.length):ys.Perm vs:=by
 have e:ys=vs.drop k++vs.take k:=by
  refine List.ext_getElem? fun j=>?_
  by_cases hj:j<vs.length
  ·rw[h.2 j zU]
   by_cases c:j+k<vs.length
   ·rw[Nat.mod_eq_of_lt c,List.getElem?_append_left (by rw[List.length_drop];omega),List.getElem?_drop,Nat.add_comm]
   ·have e2:(j+k) % vs.length=j+k-vs.length:=by
     rw[Nat.mod_eq_sub_mod zU,Nat.mod_eq_of_lt zU]
    rw[e2,List.getElem?_append_right (by rw[List.length_drop];omega),List.length_drop,List.getElem?_take,if_pos zU];congr 1;omega
  ·rw[List.getElem?_eq_none (by rw[h.1];omega),List.getElem?_eq_none (by rw[List.length_append,List.length_drop,List.length_take];omega)]
 rw[e];have:=List.perm_append_comm (l₁:=vs.drop k) (l₂:=vs.take k);rwa [List.take_append_drop] at this
structure RotE (p x:Poll):Prop where
 ck:zqC x=zqC p
 ts:zgc x=zgc p
 al:∀ so,zpo x so=zpo p so
 se:zvM x=zvM p
 ak:zCk x=zCk p
 dr:zxZ x=zxZ p
 de:zya x=zya p
def wrongsV (p:Poll) (v:Voter):Span:=if zpo p true=0 then zBZ v (zgc p) else zBP
def zCF (vs:List Voter):Int:=vs.foldl (fun a v=>zsu a v.id) 0
def zDM (hs qs:List Int) (k:Nat):Int:=if (k:Int)∈qs then (hs[k]?).getD 0 else -1
def zDZ (hs qs:List Int) (n:Nat):List Int:=(List.range n).map (zDM hs qs)
def expertV (p:Poll) (hs qs:List Int):Voter:=⟨zCF p.voters+1,0,zDZ hs qs p.questions.length⟩
def oddE:Poll:={ zzW with voters:=[⟨2,0,[-1,1,-1]⟩,⟨2,1,[0,0,0]⟩,⟨8,1,[0,-1,1]⟩] }
def tornE:Poll:={ zzW with lexicon:=⟨[],[⟨0,3,[],⟨1,0,2⟩,⟨zzk,2⟩,0⟩]⟩ }
def noneE:Poll:={ zzW with voters:=[⟨5,0,[-1,1,-1]⟩,⟨2,0,[0,0,0]⟩,⟨8,1,[0,-1,1]⟩] }
section
variable {t:Text} {x:Lexicon} {d:Decision}
end
theorem zvp {c: Place} (h1:zdw a b=true) (h2:zdw b c=true):zdw a c=true:=by
 rcases a with ⟨c1,l1,w1⟩;rcases b with ⟨c2,l2,w2⟩;rcases c with ⟨c3,l3,w3⟩
 simp only[zdw] at *
 by_cases q1:c1=c2 <;> by_cases q2:c2=c3 <;> by_cases q3:l1=l2 <;> by_cases q4:l2=l3 <;> by_cases q5:c1=c3 <;> by_cases q6:l1=l3 <;> simp_all <;> omega
def hdA (t:Text) (x:Lexicon) (q:Question):Head:=(zeG x q.at_ (zbd t q.at_)).to
def hdQ (q:Question) (h:Int):Head:=(q.heads[h.toNat]?).getD zhb
def zEd (p:Poll) (s:List Int) (j:Nat):Bool:=match p.questions[j]?,s[j]? with
 | some q,some h=>decide (0≤h) && decide (hdA p.text p.lexicon q≠hdQ q h)
 | _,_=>false
def zEc (p:Poll) (s:List Int) (k:Nat):Nat:=((List.range k).filter (zEd p s)).length
structure DecI (p:Poll) (s:List Int) (k:Nat) (x:Lexicon):Prop where
 ck:zbG p.text x=0
 mono:zwf p.lexicon.decisions≤zwf x.decisions
 out:∀ (pl:Place) (w:Str),(∀ (j:Nat) (q:Question) (h:Int),j<k→p.questions[j]?=some q→s[j]?=some h→0≤h→q.at_≠pl)→zeG x pl w=zeG p.lexicon pl w
 ins:∀ (j:Nat) (q:Question) (h:Int),j<k→p.questions[j]?=some q→s[j]?=some h→0≤h→hdA p.text x q=hdQ q h∧(hdA p.text p.lexicon q=hdQ q h→zeG x q.at_ (zbd p.text q.at_)=zeG p.lexicon q.at_ (zbd p.text q.at_))∧(hdA p.text p.lexicon q≠hdQ q h→zwf p.lexicon.decisions<(zeG x q.at_ (zbd p.text q.at_)).number)
 len:x.decisions.length=p.lexicon.decisions.length+zEc p s k
theorem St.front {own:Own} (st:St h0 w0 h w own) (hk:own[k]?=some o):St h0 w0 h w (o::own.set k []):=by
 obtain ⟨h1,h2⟩:=List.getElem?_eq_some_iff.1 hk;have hp:own.flatten.Perm (o::own.set k []).flatten:=by
  have e:own=own.take k++o::own.drop (k+1):=by
   conv=>lhs;rw[← List.take_append_drop k own,List.drop_eq_getElem_cons h1,h2]
  rw[List.set_eq_take_append_cons_drop,if_pos h1]
  conv=>lhs;rw[e]
  simp only[List.flatten_append,List.flatten_cons,List.nil_append];rw[← List.append_assoc,← List.append_assoc];exact List.perm_append_comm.append_right _
 exact ⟨st.le,st.new,st.sub,st.below,fun p hq=>st.mine p (hp.mem_iff.2 hq),(hp.map _).nodup_iff.1 st.nodup⟩
theorem St.backAt {rest:Own} (st:St h0 w0 h w (o::rest)) (hk:rest[k]?=some []):St h0 w0 h w (rest.set k o):=by
 obtain ⟨h1,h2⟩:=List.getElem?_eq_some_iff.1 hk;have hp:(o::rest).flatten.Perm (rest.set k o).flatten:=by
  have e:rest=rest.take k++[]::rest.drop (k+1):=by
   conv=>lhs;rw[← List.take_append_drop k rest,List.drop_eq_getElem_cons h1,h2]
  rw[List.set_eq_take_append_cons_drop,if_pos h1]
  conv=>lhs;rw[e]
  simp only[List.flatten_append,List.flatten_cons,List.nil_append];rw[← List.append_assoc,← List.append_assoc];exact List.perm_append_comm.append_right _
 exact ⟨st.le,st.new,st.sub,st.below,fun p hq=>st.mine p (hp.mem_iff.2 hq),(hp.map _).nodup_iff.1 st.nodup⟩
section
variable {t:Text} {c:Copy} {k n w:Nat} {l:List Str}
theorem zxz:zdw a b=true↔a.chapter<b.chapter∨(a.chapter=b.chapter∧(a.line<b.line∨(a.line=b.line∧a.word<b.word))):=by
 unfold zdw;split
 ·simp only[decide_eq_true_eq];omega
 split
 ·simp only[decide_eq_true_eq];omega
 simp only[decide_eq_true_eq];omega
theorem zqh (h1:zdw a b=false) (h2:zdw b a=false):a=b:=by
 have h1':¬ zdw a b=true:=by rw[h1];decide
 have h2':¬ zdw b a=true:=by rw[h2];decide
 rw[zxz] at h1' h2'
 rcases a with ⟨a1,a2,a3⟩;rcases b with ⟨b1,b2,b3⟩
 simp only[Place.mk.injEq] at *;omega
theorem zCC (h:zgA a b≤0):zdw b a=false:=by
 have:=zkk a b;rw[decide_eq_true h] at this;simpa using this.symm
def zzT (a b:Reading):Prop:=zdw b.at_ a.at_=false∧(a.at_=b.at_→a.kind=2)
theorem zvR (h:zjz t c (k+1)=true) {a b:Reading} (ha:c.readings[k]?=some a) (hb:c.readings[k+1]?=some b):zzT a b:=by
 rw[zjz,hb] at h;simp only[Bool.and_eq_true] at h;have h2:=h.2;simp only[ha,Bool.or_eq_true,Bool.and_eq_true,decide_eq_true_eq] at h2;refine ⟨zCC zU,fun e=>?_⟩
 rcases h2 with h2|h2
 ·have:zgA a.at_ b.at_=0:=by
   rw[e];simp[zgA,zrA,zgN]
  omega
 exact h2.2
theorem zvS (h:∀ i,i<c.readings.length→zjz t c i=true):∀ (d i:Nat) {a b:Reading},c.readings[i]?=some a→c.readings[i+d+1]?=some b→zzT a b
 | 0,i,a,b,ha,hb=>zvR (h _ (List.getElem?_eq_some_iff.1 hb).1) ha hb
 | d+1,i,a,b,ha,hb=>by
  have hlt:i+d+1<c.readings.length:=by have:=(List.getElem?_eq_some_iff.1 hb).1;omega
  have h1:=zvS h d i ha (List.getElem?_eq_getElem hlt);have h2:zzT c.readings[i+d+1] b:=zvR (h _ (List.getElem?_eq_some_iff.1 hb).1) (List.getElem?_eq_getElem hlt) hb;have h3:zdw b.at_ a.at_=false:=by
   cases e:zdw b.at_ a.at_ with
   | false=>rfl
   | true=>
    have q:zdw b.at_ (c.readings[i+d+1]).at_=true:=by
     rcases Classical.em (a.at_=(c.readings[i+d+1]).at_) with q1|q1
     ·rw[← q1];exact e
     ·have q2:zdw a.at_ (c.readings[i+d+1]).at_=true:=by
       cases e2:zdw a.at_ (c.readings[i+d+1]).at_ with
       | true=>rfl
       | false=>exact absurd (zqh e2 h1.1) q1
      exact zvp e q2
    rw[h2.1] at q;cases q
  refine ⟨h3,fun e=>h1.2 (zqh ?_ h1.1)⟩;rw[e];exact h2.1
theorem zul (h:∀ i,i<c.readings.length→zjz t c i=true) (p:Place) {m:Nat} {a:Reading} (ha:(zcM c p)[m]?=some a) (hm:m+1<(zcM c p).length):a.kind=2:=by
 have hp:c.readings.Pairwise zzT:=List.pairwise_iff_getElem.2 fun i j hi hj hij=>zvS h (j-i-1) i (List.getElem?_eq_getElem hi) (by rw[show i+(j-i-1)+1=j by omega];exact List.getElem?_eq_getElem hj);have hq:(zcM c p).Pairwise zzT:=hp.filter _;obtain ⟨h1,h2⟩:=List.getElem?_eq_some_iff.1 ha;have h3:=(List.pairwise_iff_getElem.1 hq) m (m+1) h1 hm zU;have at1:∀ (i:Nat) (hi:i<(zcM c p).length),((zcM c p)[i]).at_=p:=fun i hi=>by simpa using (List.mem_filter.1 (List.getElem_mem hi)).2
 rw[← h2];exact h3.2 (by rw[at1 _ h1,at1 _ hm])
theorem zAf (k:Int) (a b:Str):(zkA k a b).length≤2:=by
 unfold zkA;split
 ·simp
 split <;> simp
theorem zzE (s:List Str) (r:Reading):(zpC s r).length≤s.length+2:=by
 have:=zAf r.kind (s.getLast?.getD []) r.word;rw[zpC,List.length_append,List.length_dropLast];omega
theorem zvT (own:Str):∀ rs:List Reading,(zgJ rs own).length≤2*rs.length+1:=by
 intro rs
 induction rs using zgH with
 | nil=>simp[zgJ]
 | snoc rs r ih=>
  have:=zzE (zgJ rs own) r;rw[ziS,List.length_append,List.length_singleton];omega
theorem zsg (c:Copy) (p:Place):(zcM c p).length≤c.readings.length:=List.length_filter_le _ _
theorem zoO (hl:c.readings.length≤20):∀ m:Nat,(zkL c k n l m).length≤41*m
 | 0=>by simp[zkL]
 | m+1=>by
  have h1:=zoO hl m;have h2:=zvT (zfu l m) (zcM c (mkP k n m));have h3:=zsg c (mkP k n m);rw[zpD,List.length_append,zum];omega
theorem zsi (h:∀ i,i<c.readings.length→zjz t c i=true) (p:Place) (own:Str):∀ j:Nat,j<(zcM c p).length→(zgJ ((zcM c p).take j) own).length=j+1
 | 0,_=>by simp[zgJ]
 | j+1,hj=>by
  have ih:=zsi h p own j zU;have hk:=zul h p (List.getElem?_eq_getElem (show j<(zcM c p).length by omega)) hj;rw[zaQ (List.getElem?_eq_getElem (show j<(zcM c p).length by omega)),ziS,zpC,List.length_append,List.length_dropLast,ih,zkA,if_neg zU,if_pos hk];simp
theorem zyA (h:∀ i,i<c.readings.length→zjz t c i=true) (hr:r∈c.readings):1≤r.kind∧r.kind≤3:=by
 obtain ⟨i,hi⟩:=List.mem_iff_getElem?.1 hr;have h1:=h i (List.getElem?_eq_some_iff.1 hi).1;rw[zjz,hi] at h1;simp only[Bool.and_eq_true] at h1;have h2:=h1.1;cases e:zcc t r.at_ with
 | none=>rw[e] at h2;cases h2
 | some l=>
  rw[e] at h2;simp only[Bool.and_eq_true,inB,decide_eq_true_eq] at h2;omega
theorem zrc (h:r∈zcM c p):r∈c.readings:=(List.mem_filter.1 h).1
theorem zsh {s:List Str} {b:Str} (hb:s[s.length-1]?=some b):zpC s r=s.take (s.length-1)++zkA r.kind b r.word:=by
 rw[zpC,List.dropLast_eq_take,List.getLast?_eq_getElem?,hb];rfl
end
section
variable {t:Text} {c:Copy} {k n m:Nat} {l:List Str} {x:Chapter}
theorem zhX (ht:zbF t=true) (hx:t.chapters[k]?=some x):x.lines.length≤10:=by
 have h:=(ziP ht).2.2.1 x (List.mem_of_getElem? hx);simp only[zcN,inB,Bool.and_eq_true,decide_eq_true_eq,List.all_eq_true] at h;omega
theorem zkt (ht:zbF t=true) (hx:t.chapters[k]?=some x) (hl:x.lines[n]?=some l):l.length≤10∧∀ a∈l,zdI a=true:=by
 have h:=(ziP ht).2.2.1 x (List.mem_of_getElem? hx);simp only[zcN,inB,Bool.and_eq_true,decide_eq_true_eq,List.all_eq_true,ziz] at h;have h2:=h.2 l (List.mem_of_getElem? hl);exact ⟨by omega,h2.2⟩
theorem zBq (ht:zbF t=true) (hx:t.chapters[k]?=some x) (hl:x.lines[n]?=some l) (m:Nat):(zfu l m).length≤12:=by
 unfold zfu;cases e:l[m]? with
 | none=>simp
 | some a=>exact zps ((zkt ht hx hl).2 a (List.mem_of_getElem? e))
theorem zpB (hl:c.readings.length≤20) (h1:l.length≤10) (h2:m≤l.length+1):(zkL c k n l m).length≤500:=by
 have:=zoO (c:=c) (k:=k) (n:=n) (l:=l) hl m;omega
theorem zun (hl:c.readings.length≤20) (p:Place) (own:Str) (j:Nat):(zgJ ((zcM c p).take j) own).length≤100:=by
 have h1:=zvT own ((zcM c p).take j);have h2:=zsg c p;rw[List.length_take] at h1;omega
theorem zeq {ls:List (List Str)}:(zlb c k ls n).length=n:=by simp[zlb]
theorem zfb:(zlU t c n).length=n:=by simp[zlU]
end
def zrx:Ref:=⟨0,0,0⟩
def ziG:Pair:=⟨0,0⟩
def zTrip:Trip:=⟨0,0,0⟩
def zStretch:Stretch:=⟨0,0,0,0,0⟩
def zBQ:CRow:=⟨0,0,0,0,0⟩
def zhu (t:Text) (s:Stretch):Bool:=inB s.chapter 0 ((t.chapters.length:Int)-1)
def zfM (t:Text) (s:Stretch):Bool:=inB s.from_ 0 (((zbY t s.chapter.toNat).length:Int)-1) && inB s.to (s.from_+1) ((zbY t s.chapter.toNat).length:Int)
def zhI (s:Stretch):Bool:=inB s.as_ 1 999 && inB s.first 1 999 && decide (s.first+s.to-s.from_-1≤999)
def zcr (t:Text) (s:Stretch):Bool:=zhu t s && zfM t s && zhI s
def zdV (t:Text) (e:Edition):Bool:=inB e.id 0 9999 && decide (e.stretches.length≤12) && e.stretches.all (zcr t)
def zcT (t:Text) (e:Edition):Int:=if zbF t=true then (if zdV t e=true then 0 else 20) else 10
def OkS (s:Stretch):Prop:=0≤s.chapter∧s.chapter≤5∧0≤s.from_∧s.from_<s.to∧s.to≤10∧1≤s.as_∧s.as_≤999∧1≤s.first∧s.first≤999
theorem zwU {t:Text} (ht:zbF t=true) (h:zcr t s=true):OkS s:=by
 simp only[zcr,zhu,zfM,zhI,inB,Bool.and_eq_true,decide_eq_true_eq] at h;have h1:=(ziP ht).2.1;have h2:(zbY t s.chapter.toNat).length≤10:=by
  unfold zbY;cases e:t.chapters[s.chapter.toNat]? with
  | none=>simp
  | some c=>simpa using zhX ht e
 unfold OkS;omega
theorem zfC {t:Text} (h:zcT t e=0):zbF t=true∧e.stretches.length≤12∧∀ s∈e.stretches,zcr t s=true∧OkS s:=by
 unfold zcT at h;split at h
 ·rename_i ht;split at h
  ·rename_i he;simp only[zdV,Bool.and_eq_true,decide_eq_true_eq,List.all_eq_true] at he;exact ⟨ht,he.1.2,fun s hs=>⟨he.2 s hs,zwU ht (he.2 s hs)⟩⟩
  ·cases h
 cases h
def zeC (a b:Stretch):Bool:=(decide (a.chapter=b.chapter) && decide (zsu a.from_ b.from_<zwg a.to b.to)) || (decide (a.as_=b.as_) && decide (zsu a.first b.first<zwg (a.first+a.to-a.from_) (b.first+b.to-b.from_)))
def zsE (l:List Stretch) (j:Nat) (s:Stretch):Bool:=match l[j]? with
 | some o=>decide (o=s) || zeC o s
 | none=>false
def clS (l:List Stretch):Nat→Int×Int×Bool
 | 0=>((l.length:Int),0,false)
 | k+1=>match l[k]? with
  | some s=>(match (List.range k).find? (fun j:Nat=>decide ((j:Int)<(clS l k).1) && zsE l j s) with
   | some j=>((j:Int),(k:Int),true)
   | none=>clS l k)
  | none=>clS l k
def zhj (l:List Stretch):Bool:=!decide (l.Pairwise fun a b=>zeC a b=false)
theorem zoV {p:Nat→Bool} (hj:j<n) (hp:p j=true) (h:∀ i,i<j→p i=false):(List.range n).find? p=some j:=by
 rw[List.find?_range_eq_some];exact ⟨hp,List.mem_range.2 hj,fun i hi=>by rw[h i hi];rfl⟩
theorem zsI {p:Nat→Bool} (h:∀ i,i<n→p i=false):(List.range n).find? p=none:=by
 rw[List.find?_eq_none];intro i hi;rw[h i (List.mem_range.1 hi)];simp
theorem zoa {o: Stretch} (hs:l[k]?=some s) (ho:l[j]?=some o) (hj:j<k) (h1:(j:Int)<(clS l k).1) (h2:(decide (o=s) || zeC o s)=true) (h:∀ i,i<j→(decide ((i:Int)<(clS l k).1) && zsE l i s)=false):clS l (k+1)=((j:Int),(k:Int),true):=by
 simp only[clS,hs];rw[zoV (j:=j) hj (by simp only[zsE,ho,h2,Bool.and_true,decide_eq_true_eq];exact h1) h]
theorem zsT (hs:l[k]?=some s) (h:∀ i,i<k→(decide ((i:Int)<(clS l k).1) && zsE l i s)=false):clS l (k+1)=clS l k:=by
 conv=>lhs;rw[clS]
 simp only[hs];rw[zsI h]
theorem zxo (h:OkS s):zeC s s=true:=by
 unfold OkS at h;unfold zeC;rw[Bool.or_eq_true];left;rw[Bool.and_eq_true,decide_eq_true_eq,decide_eq_true_eq];exact ⟨rfl,by simp only[zsu,zwg];(repeat' split) <;> omega⟩
theorem zxU (hl:∀ s∈l,OkS s) {o: Stretch} (ho:l[j]?=some o) (hs:s∈l):zsE l j s=zeC o s:=by
 simp only[zsE,ho]
 by_cases e:o=s
 ·subst e;rw[zxo (hl _ hs)];simp
 simp[e]
theorem zyb {l:List Stretch} (hl:∀ s∈l,OkS s):∀ k,k≤l.length→(clS l k).2.2=zhj (l.take k)∧((clS l k).2.2=false→(clS l k).1=(l.length:Int))
 | 0,_=>by simp[clS,zhj]
 | k+1,hk=>by
  obtain ⟨ih1,ih2⟩:=zyb hl k zU;obtain ⟨s,hs⟩:∃ s,l[k]?=some s:=⟨_,List.getElem?_eq_getElem zU⟩;have hsm:=List.mem_of_getElem? hs;have e1:zhj (l.take (k+1))=(zhj (l.take k) || (l.take k).any fun o=>zeC o s):=by
   rw[zaQ hs,zhj,zhj,Bool.eq_iff_iff];simp only[Bool.not_eq_true',decide_eq_false_iff_not,Bool.or_eq_true,List.any_eq_true,List.pairwise_append,List.mem_singleton,forall_eq,List.pairwise_singleton,true_and];constructor
   ·intro h
    by_cases q:(l.take k).Pairwise fun a b=>zeC a b=false
    ·right;apply Classical.byContradiction;intro h2;refine h ⟨q,fun a ha=>?_⟩;cases e:zeC a s with
     | false=>rfl
     | true=>exact absurd ⟨a,ha,e⟩ h2
    ·exact .inl q
   ·rintro (h|⟨a,ha,e⟩) ⟨h1,h2⟩
    ·exact h h1
    ·rw[h2 a ha] at e;cases e
  rw[e1,← ih1];cases hf:(List.range k).find? (fun j:Nat=>decide ((j:Int)<(clS l k).1) && zsE l j s) with
  | some j=>
   have e2:clS l (k+1)=((j:Int),(k:Int),true):=by simp only[clS,hs,hf]
   rw[e2];refine ⟨?_,fun h=>by cases h⟩;rw[List.find?_range_eq_some] at hf;obtain ⟨h1,h2,_⟩:=hf;simp only[Bool.and_eq_true,decide_eq_true_eq] at h1;have hj:=List.mem_range.1 h2;obtain ⟨o,ho⟩:∃ o,l[j]?=some o:=⟨_,List.getElem?_eq_getElem zU⟩;have h3:=h1.2;rw[zxU hl ho hsm] at h3;have:((l.take k).any fun o=>zeC o s)=true:=List.any_eq_true.2 ⟨o,List.mem_of_getElem? (i:=j) (by rw[List.getElem?_take,if_pos hj];exact ho),h3⟩;rw[this];simp
  | none=>
   have e2:clS l (k+1)=clS l k:=by simp only[clS,hs,hf]
   rw[e2];refine ⟨?_,ih2⟩;cases hc:(clS l k).2.2 with
   | true=>simp
   | false=>
    rw[Bool.false_or];refine (List.any_eq_false.2 fun o ho=>?_).symm;obtain ⟨j,hj⟩:=List.mem_iff_getElem?.1 ho;rw[List.getElem?_take] at hj;split at hj
    ·rename_i hjk;rw[List.find?_eq_none] at hf;have h4:=hf j (List.mem_range.2 hjk);have h5:=ih2 hc;have h6:(j:Int)<(clS l k).1:=by rw[h5];omega
     simp only[Bool.and_eq_true,decide_eq_true_eq,not_and] at h4;have h7:=h4 h6;rw[zxU hl hj hsm] at h7;exact h7
    ·cases hj
theorem zuI (hl:∀ s∈l,OkS s):(clS l l.length).2.2=zhj l:=by
 have:=(zyb hl l.length (Nat.le_refl _)).1;rwa [List.take_length] at this
def atS (s:Stretch) (i:Nat):Pair:=⟨s.chapter,s.from_+(i:Int)⟩
def asS (s:Stretch) (i:Nat):Pair:=⟨s.as_,s.first+(i:Int)⟩
def ztX (m:List (Pair×Pair)) (k v:Pair):List (Pair×Pair):=if (zcb m k).isSome=true then m else zgd m k v
def asN (m:List (Pair×Pair)) (s:Stretch) (n:Nat):List (Pair×Pair):=(List.range n).foldl (fun m i=>ztX m (atS s i) (asS s i)) m
def zmn (m:List (Pair×Pair)) (s:Stretch) (n:Nat):List (Pair×Pair):=(List.range n).foldl (fun m i=>ztX m (asS s i) (atS s i)) m
def zfi (s:Stretch):Nat:=(s.to-s.from_).toNat
def asM (l:List Stretch):List (Pair×Pair):=l.foldl (fun m s=>asN m s (zfi s)) []
def zoJ (l:List Stretch):List (Pair×Pair):=l.foldl (fun m s=>zmn m s (zfi s)) []
theorem ztl (m:List (Pair×Pair)) (s:Stretch) (n:Nat):asN m s (n+1)=ztX (asN m s n) (atS s n) (asS s n):=by rw[asN,List.range_succ,List.foldl_append];rfl
theorem ztk (m:List (Pair×Pair)) (s:Stretch) (n:Nat):zmn m s (n+1)=ztX (zmn m s n) (asS s n) (atS s n):=by rw[zmn,List.range_succ,List.foldl_append];rfl
theorem zls (l:List Stretch) (s:Stretch):asM (l++[s])=asN (asM l) s (zfi s):=by rw[asM,List.foldl_append];rfl
theorem zke (l:List Stretch) (s:Stretch):zoJ (l++[s])=zmn (zoJ l) s (zfi s):=by rw[zoJ,List.foldl_append];rfl
theorem zyJ (m:List (Pair×Pair)) (k v q:Pair):zcb (ztX m k v) q=(zcb m q).or (if q=k then some v else none):=by
 unfold ztX;split
 ·rename_i h
  by_cases e:q=k
  ·subst e;cases h2:zcb m q with
   | none=>rw[h2] at h;cases h
   | some a=>rfl
  ·rw[if_neg e];cases zcb m q <;> rfl
 rename_i h;rw[zhz]
 by_cases e:q=k
 ·subst e;have h2:zcb m q=none:=by cases h2:zcb m q with
   | none=>rfl
   | some a=>rw[h2] at h;exact absurd rfl h
  rw[h2,if_pos rfl];rfl
 rw[if_neg e,if_neg e];cases zcb m q <;> rfl
def zqy (p:Pair) (s:Stretch):Bool:=decide (s.chapter=p.a) && decide (s.from_≤p.b) && decide (p.b<s.to)
def inS (p:Pair) (s:Stretch) (n:Nat):Bool:=decide (s.chapter=p.a) && decide (s.from_≤p.b) && decide (p.b<s.from_+(n:Int))
def zAd (p:Pair) (s:Stretch):Pair:=⟨s.as_,s.first+(p.b-s.from_)⟩
theorem zwk (m:List (Pair×Pair)) (s:Stretch) (p:Pair):∀ n,zcb (asN m s n) p=(zcb m p).or (if inS p s n=true then some (zAd p s) else none)
 | 0=>by
  have h0:inS p s 0=false:=by
   simp only[inS,Bool.and_eq_false_iff,decide_eq_false_iff_not]
   by_cases h1:s.from_≤p.b
   ·right;omega
   ·left;right;exact h1
  rw[h0];simp[asN]
 | n+1=>by
  rw[ztl,zyJ,zwk m s p n,Option.or_assoc];congr 1
  rcases p with ⟨a,b⟩
  simp only[inS,atS,asS,zAd,Bool.and_eq_true,decide_eq_true_eq,Pair.mk.injEq]
  by_cases h1:(s.chapter=a∧s.from_≤b)∧b<s.from_+(n:Int)
  ·rw[if_pos h1,Option.some_or,if_pos ⟨h1.1,by omega⟩]
  ·rw[if_neg h1]
   by_cases h2:a=s.chapter∧b=s.from_+(n:Int)
   ·rw[if_pos h2,if_pos ⟨⟨h2.1.symm,by omega⟩,by omega⟩];simp only[Option.none_or,Option.some.injEq,Pair.mk.injEq,true_and];omega
   ·rw[if_neg h2,if_neg (fun q=>h1 ⟨q.1,by
     have:¬ b=s.from_+(n:Int):=fun e=>h2 ⟨q.1.1.symm,e⟩;omega⟩)];rfl
theorem zwm {b f t:Int} (h:f≤b):b<f+((t-f).toNat:Int)↔b<t:=by omega
theorem zyN (p:Pair):inS p s (zfi s)=zqy p s:=by
 rw[Bool.eq_iff_iff];simp only[inS,zqy,zfi,Bool.and_eq_true,decide_eq_true_eq];constructor
 ·rintro ⟨⟨h1,h2⟩,h3⟩;exact ⟨⟨h1,h2⟩,(zwm h2).1 (of_decide_eq_true h3)⟩
 rintro ⟨⟨h1,h2⟩,h3⟩;exact ⟨⟨h1,h2⟩,decide_eq_true ((zwm h2).2 h3)⟩
def asF (l:List Stretch) (p:Pair):Option Pair:=(l.find? (zqy p)).map (zAd p)
theorem zwl (l:List Stretch) (p:Pair):zcb (asM l) p=asF l p:=by
 induction l using zgH with
 | nil=>rfl
 | snoc l s ih=>
  rw[zls,zwk,ih,zyN,asF,asF,List.find?_append];cases l.find? (zqy p) with
  | some a=>rfl
  | none=>
   simp only[Option.map_none,Option.none_or,List.find?_cons,List.find?_nil];cases zqy p s <;> rfl
def ztz (e:Edition) (p:Place):Ref:=match asF e.stretches ⟨p.chapter,p.line⟩ with
 | some q=>⟨q.a,q.b,p.word+1⟩
 | none=>zrx
def zcH (t:Text) (e:Edition):Int:=if zcT t e≠0 then zcT t e else if zhj e.stretches=true then 8 else 0
def ziR (t:Text) (e:Edition) (p:Place):Int:=if zcH t e≠0 then zcH t e else if zcz t p=true then (if (asF e.stretches ⟨p.chapter,p.line⟩).isSome=true then 0 else 6) else 12
def zfn (t:Text) (e:Edition) (p:Place):Ref:=if zcH t e=0∧zcz t p=true then ztz e p else zrx
section
variable {t:Text} {c:Copy} {i k:Nat} {r q:Reading}
def zBo (c:Copy) (i:Nat) (r:Reading):Bool:=match i with
 | 0=>true
 | i+1=>match c.readings[i]? with|some q=>decide (zgA q.at_ r.at_<0) || (decide (zgA q.at_ r.at_=0) && decide (q.kind=2))|none=>true
def zfo (t:Text) (r:Reading):Bool:=decide ((zcc t r.at_).getD []≠[]) && inB r.kind 1 3 && inB r.at_.word 0 ((((zcc t r.at_).getD []).length:Int)-1+if r.kind=2 then 1 else 0) && zgR r.kind (zfu ((zcc t r.at_).getD []) r.at_.word.toNat) r.word
theorem zhH (hr:c.readings[i]?=some r):zjz t c i=(zfo t r && zBo c i r):=by
 rw[zjz,hr];simp only[];congr 1;unfold zfo;cases e:zcc t r.at_ with
 | none=>simp
 | some l=>
  simp only[Option.getD_some];cases decide (l≠[]) <;> simp
theorem zcA (hr:c.readings[i]?=some r) (h:(zfo t r && zBo c i r)=false):zjm t c=false:=by
 cases e:zjm t c with
 | false=>rfl
 | true=>
  simp only[zjm,Bool.and_eq_true] at e;have h1:=List.all_eq_true.1 e.1.2 i (List.mem_range.2 (List.getElem?_eq_some_iff.1 hr).1);rw[zhH hr,h] at h1;cases h1
theorem zds (hi:0<i) (hq:c.readings[i-1]?=some q):zBo c i r=(decide (zgA q.at_ r.at_<0) || (decide (zgA q.at_ r.at_=0) && decide (q.kind=2))):=by
 obtain ⟨j,rfl⟩:∃ j,i=j+1:=⟨i-1,by omega⟩;rw[Nat.add_sub_cancel] at hq;simp[zBo,hq]
theorem zCB (ht:zbF t=true) (p:Place) (w:Nat):(zfu ((zcc t p).getD []) w).length≤12:=by
 unfold zfu;cases e:((zcc t p).getD [])[w]? with
 | none=>simp
 | some a=>
  cases e2:zcc t p with
  | none=>rw[e2] at e;simp at e
  | some l=>
   rw[e2] at e;have e3:=e2;unfold zcc at e3;split at e3
   ·cases e4:t.chapters[p.chapter.toNat]? with
    | none=>rw[e4] at e3;simp at e3
    | some x=>
     rw[e4] at e3;have h:=(zkt ht e4 (by simpa using e3)).2 a (List.mem_of_getElem? e);simpa using zps h
   ·cases e3
theorem zkb (h:¬ (inB c.id 0 9999=true∧c.readings.length≤20)):zjm t c=false:=by
 cases e:zjm t c with
 | false=>rfl
 | true=>
  simp only[zjm,Bool.and_eq_true,decide_eq_true_eq] at e;exact absurd ⟨e.1.1.1,e.1.1.2⟩ h
def zmy (x:Chapter):Bool:=x.lines.all fun l=>inB l.length 1 10
theorem zoX {x:Chapter} (hx:(zmX t c).chapters[k]?=some x) (h:zmy x=false):zjm t c=false:=by
 cases e:zjm t c with
 | false=>rfl
 | true=>
  simp only[zjm,Bool.and_eq_true] at e;have h1:=List.all_eq_true.1 e.2 x (List.mem_of_getElem? hx);rw[zmy] at h;rw[h] at h1;cases h1
theorem zqA (h1:inB c.id 0 9999=true) (h2:c.readings.length≤20) (h3:∀ j,j<c.readings.length→zjz t c j=true) (h4:∀ (j:Nat) x,(zmX t c).chapters[j]?=some x→zmy x=true):zjm t c=true:=by
 simp only[zjm,Bool.and_eq_true,decide_eq_true_eq,List.all_eq_true,List.mem_range];refine ⟨⟨⟨h1,h2⟩,h3⟩,fun x hx l hl=>?_⟩;obtain ⟨j,hj⟩:=List.mem_iff_getElem?.1 hx;exact List.all_eq_true.1 (h4 j x hj) l hl
end
section
variable {t:Text} {c:Copy} {k n w i:Nat} {l:List Str} {r:Reading}
def zld (s:List Str×Str) (r:Reading):List Str×Str:=if r.kind=2 then (s.1++[r.word],s.2) else (s.1,r.word)
def zhM (c:Copy) (k n:Nat) (l:List Str) (w m:Nat):List Str×Str:=((c.readings.take m).filter fun r=>decide (r.at_=mkP k n w)).foldl zld ([],zfu l w)
def zsK (s:List Str×Str):List Str:=s.1++if s.2=[] then [] else [s.2]
def zyv (c:Copy) (k n:Nat) (l:List Str) (w:Nat):List Str:=zsK ((zcM c (mkP k n w)).foldl zld ([],zfu l w))
def zlT (c:Copy) (k n:Nat) (l:List Str) (m:Nat):List Str:=(List.range m).flatMap (zyv c k n l)
def zvP (c:Copy) (k n:Nat) (l:List Str):List Str:=zlT c k n l (l.length+1)
theorem zkO:zhM c k n l w 0=([],zfu l w):=rfl
theorem zkP {m:Nat} (h:c.readings[m]?=some r) (hr:¬ r.at_=mkP k n w):zhM c k n l w (m+1)=zhM c k n l w m:=by
 rw[zhM,zaQ h,List.filter_append,List.filter_cons,if_neg (by simpa using hr)];simp[zhM]
theorem zpz {m:Nat} (h:c.readings[m]?=some r) (hr:r.at_=mkP k n w):zhM c k n l w (m+1)=zld (zhM c k n l w m) r:=by
 rw[zhM,zaQ h,List.filter_append,List.filter_cons,if_pos (by simpa using hr),List.foldl_append];rfl
theorem zpy:zsK (zhM c k n l w c.readings.length)=zyv c k n l w:=by rw[zhM,List.take_length];rfl
theorem zkq (m:Nat):zlT c k n l (m+1)=zlT c k n l m++zyv c k n l m:=by
 simp[zlT,List.range_succ,List.flatMap_append]
theorem zzR (s:List Str×Str):∀ rs:List Reading,(rs.foldl zld s).1.length≤s.1.length+rs.length:=by
 intro rs
 induction rs generalizing s with
 | nil=>simp
 | cons r rs ih=>
  have:=ih (zld s r);rw[List.foldl_cons,List.length_cons];refine Nat.le_trans this ?_;unfold zld;split <;> simp <;> omega
theorem zfL (m:Nat):(zhM c k n l w m).1.length≤c.readings.length:=by
 have:=zzR ([],zfu l w) ((c.readings.take m).filter fun r=>decide (r.at_=mkP k n w));have h2:=List.length_filter_le (fun r:Reading=>decide (r.at_=mkP k n w)) (c.readings.take m);rw[List.length_take] at h2;simp only[List.length_nil,Nat.zero_add] at this;unfold zhM;omega
theorem zzC:(zyv c k n l w).length≤c.readings.length+1:=by
 rw[← zpy,zsK];have:=zfL (c:=c) (k:=k) (n:=n) (l:=l) (w:=w) c.readings.length;split <;> simp <;> omega
theorem zhh (m:Nat):(zlT c k n l m).length≤(c.readings.length+1)*m:=by
 induction m with
 | zero=>simp[zlT]
 | succ m ih=>
  rw[zkq,List.length_append,Nat.mul_succ];have:=zzC (c:=c) (k:=k) (n:=n) (l:=l) (w:=m);omega
theorem zyz (h:∀ i,i<c.readings.length→zjz t c i=true) {r:Reading} (hr:r∈c.readings):(r.kind=1∧r.word=[])∨((r.kind=2∨r.kind=3)∧r.word≠[]):=by
 obtain ⟨i,hi⟩:=List.mem_iff_getElem?.1 hr;have h1:=h i (List.getElem?_eq_some_iff.1 hi).1;rw[zhH hi] at h1;simp only[zfo,Bool.and_eq_true] at h1;have h2:=h1.1.2;have h3:=h1.1.1.1.2;simp only[inB,Bool.and_eq_true,decide_eq_true_eq] at h3;have hw:∀ s:Str,zdI s=true→s≠[]:=by rintro s hs rfl;exact absurd hs (by decide)
 unfold zgR at h2;split at h2
 ·exact .inl ⟨by assumption,by simpa using h2⟩
 split at h2
 ·exact .inr ⟨.inl (by assumption),hw _ h2⟩
 simp only[Bool.and_eq_true] at h2;exact .inr ⟨.inr zU,hw _ h2.1⟩
theorem zzS (own:Str) (rs:List Reading) (h:∀ r∈rs,r.kind=2):zgJ rs own=rs.map (·.word)++[own]∧rs.foldl zld ([],own)=(rs.map (·.word),own):=by
 induction rs using zgH with
 | nil=>simp[zgJ]
 | snoc rs r ih=>
  obtain ⟨h1,h2⟩:=ih fun r hr=>h r (by simp[hr]);have hk:=h r (by simp);refine ⟨?_,?_⟩
  ·rw[ziS,h1,zpC,zkA,hk];simp
  ·rw[List.foldl_append,h2];simp[zld,hk]
theorem zBk (h:∀ i,i<c.readings.length→zjz t c i=true):zyv c k n l w=(zum c k n l w).filter fun s=>decide (s≠[]):=by
 have hp:=fun m a (ha:(zcM c (mkP k n w))[m]?=some a) hm=>zul h (mkP k n w) ha hm;have hw:∀ r∈zcM c (mkP k n w),(r.kind=1∧r.word=[])∨((r.kind=2∨r.kind=3)∧r.word≠[]):=fun r hr=>zyz h (zrc hr);rw[zyv,zum];generalize zcM c (mkP k n w)=rs at hp hw
 induction rs using zgH with
 | nil=>
  simp only[zgJ,List.foldl_nil,zsK,List.nil_append,List.filter_cons,List.filter_nil]
  by_cases e:zfu l w=[] <;> simp[e]
 | snoc rs r _=>
  have h1:∀ q∈rs,q.kind=2:=by
   intro q hq;obtain ⟨m,hm⟩:=List.mem_iff_getElem?.1 hq;have hl:=(List.getElem?_eq_some_iff.1 hm).1;exact hp m q (by rw[List.getElem?_append_left hl];exact hm) (by simp;omega)
  obtain ⟨e1,e2⟩:=zzS (zfu l w) rs h1;have hf:(rs.map (·.word)).filter (fun s=>decide (s≠[]))=rs.map (·.word):=by
   rw[List.filter_eq_self];intro s hs;obtain ⟨q,hq,rfl⟩:=List.mem_map.1 hs
   rcases hw q (by simp[hq]) with ⟨q1,_⟩|⟨_,q2⟩
   ·rw[h1 q hq] at q1;cases q1
   ·simpa using q2
  rw[ziS,e1,List.foldl_append,e2,zpC];simp only[List.dropLast_concat,List.getLast?_append,List.getLast?_singleton,List.foldl_cons,List.foldl_nil,Option.some_or,Option.getD_some,List.filter_append,hf]
  rcases hw r (by simp) with ⟨q1,q2⟩|⟨q1,q2⟩
  ·simp[zld,zkA,q1,q2,zsK]
  ·rcases q1 with q1|q1
   ·simp only[zld,zkA,q1,zsK,if_true]
    by_cases e:zfu l w=[] <;> simp[e,q2]
   ·simp[zld,zkA,q1,q2,zsK]
theorem zxN (h:∀ i,i<c.readings.length→zjz t c i=true):zvP c k n l=zuo c k n l:=by
 rw[zvP,zuo,zlT,zkL];generalize l.length+1=m
 induction m with
 | zero=>simp
 | succ m ih=>rw[List.range_succ,List.flatMap_append,List.flatMap_append,List.filter_append,ih];simp[zBk h]
theorem zqx (ht:zbF t=true) (h:zcc t p=some l):1≤l.length∧l.length≤10:=by
 unfold zcc at h;split at h
 ·cases e4:t.chapters[p.chapter.toNat]? with
  | none=>rw[e4] at h;simp at h
  | some x=>
   rw[e4] at h;have h0:=(ziP ht).2.2.1 x (List.mem_of_getElem? e4);simp only[zcN,Bool.and_eq_true,List.all_eq_true] at h0;have h1:=h0.2 l (List.mem_of_getElem? (by simpa using h));simp only[ziz,inB,Bool.and_eq_true,decide_eq_true_eq] at h1;omega
 cases h
def zki (t:Text) (c:Copy) (p:Place):Str:=match c.readings.find? (fun r=>decide (r.at_=p) && decide (r.kind≠2)) with
 | some r=>r.word
 | none=>zbd t p
def ziU (t:Text) (l:List Copy) (p:Place):Bool:=l.any fun c=>decide (zki t c p≠zbd t p)
def zdf (t:Text) (l:List Copy):List Place:=(zbA t).filter (ziU t l)
def zem (t:Text) (l:List Copy):Int:=if zbF t=true then (if l.length≤5 then (if l.all (zjm t)=true then 0 else 11) else 4) else 10
def zlg (t:Text) (l:List Copy):List Place:=if zem t l=0 then zdf t l else []
end
theorem zuE {t:Text} {l:List Copy}:(zdf t l).length≤(zbA t).length:=List.length_filter_le _ _
def zRow:Row:=⟨zfK,zrx,0⟩
def zForm:Form:=⟨[],[]⟩
def zpr:VEntry:=⟨zhb,[]⟩
def zoW (c:Cut):Bool:=inB c.width 12 80 && inB c.side 1 3
def zjP (c:Cut):Int:=if zoW c=true then 0 else 30
def zhT (r:Records):Int:=orL [zbG r.text r.lexicon,zcH r.text r.edition,zjP r.cut,zem r.text r.copies]
def zzs (r:Records) (p:Place):Int:=if p∈zdf r.text r.copies then 1 else 2
def zyt (r:Records) (p:Place):Row:=⟨p,zfn r.text r.edition p,zzs r p⟩
def zDV (r:Records) (hd:Head) (w:Str):List Place:=(zbW r.text r.lexicon hd).filter fun p=>decide (zbd r.text p=w)
def zuC (r:Records) (hd:Head) (w:Str):Form:=⟨w,(zDV r hd w).map (zyt r)⟩
def zhD (r:Records) (hd:Head):VEntry:=⟨hd,(zfk sLt ((zbW r.text r.lexicon hd).map (zbd r.text))).map (zuC r hd)⟩
def zhW (r:Records):List VEntry:=(zfk zdU (zcD r.text r.lexicon)).map (zhD r)
def zrk (r:Records):List VEntry:=if zhT r=0 then zhW r else []
def ofE (r:Records) (hd:Head):Int:=if zhT r≠0 then zhT r else zeA r.text r.lexicon hd
def ofR (r:Records) (hd:Head):VEntry:=if ofE r hd=0 then zhD r hd else zpr
def inE (r:Records) (x:Edition):Int:=if zhT r≠0 then zhT r else zcH r.text x
def inR (r:Records) (x:Edition):List VEntry:=if inE r x=0 then zhW { r with edition:=x } else []
theorem zla {r:Records} (h:zhT r=0):zbG r.text r.lexicon=0∧zcH r.text r.edition=0∧zoW r.cut=true∧zem r.text r.copies=0:=by
 simp only[zhT,orL,ne_eq] at h
 by_cases h1:zbG r.text r.lexicon=0
 ·by_cases h2:zcH r.text r.edition=0
  ·by_cases h3:zjP r.cut=0
   ·by_cases h4:zem r.text r.copies=0
    ·refine ⟨h1,h2,?_,h4⟩;unfold zjP at h3;split at h3
     ·assumption
     ·cases h3
    ·simp[h1,h2,h3,h4] at h
   ·simp[h1,h2,h3] at h
  ·simp[h1,h2] at h
 simp[h1] at h
theorem zpw {t:Text} (h:zcH t e=0):zcT t e=0∧zhj e.stretches=false:=by
 unfold zcH at h
 by_cases h1:zcT t e=0
 ·rw[if_neg (by simp[h1])] at h;split at h
  ·cases h
  ·rename_i h2;exact ⟨h1,by simpa using h2⟩
 rw[if_pos h1] at h;exact absurd h h1
def findV (l:List VEntry) (hd:Head):VEntry:=(l.find? fun x=>decide (x.head=hd)).getD zpr
def zoF (a many b more:Int):Bool:=decide (a<b+more) && decide (b<a+many)
def zga (a b:Stretch):Bool:=(decide (a.chapter=b.chapter) && zoF a.from_ (a.to-a.from_) b.from_ (b.to-b.from_)) || (decide (a.as_=b.as_) && zoF a.first (a.to-a.from_) b.first (b.to-b.from_))
theorem zxp (a b c d:Int):(zsu a b<zwg c d)↔a<c∧a<d∧b<c∧b<d:=by
 unfold zsu zwg;(repeat' split) <;> omega
theorem zsS {a b:Stretch} (ha:OkS a) (hb:OkS b):zga a b=zeC a b:=by
 unfold OkS at ha hb;rw[Bool.eq_iff_iff];simp only[zga,zeC,zoF,Bool.or_eq_true,Bool.and_eq_true,decide_eq_true_eq,zxp];omega
def zir (l:List Stretch) (a b:Nat):Bool:=match l[a]?,l[b]? with
 | some x,some y=>zga x y
 | _,_=>false
def ztK (l:List Stretch) (a:Nat):Bool:=(List.range l.length).any fun b=>decide (a<b) && zir l a b
def clR (l:List Stretch):Int×Int×Bool:=match (List.range l.length).find? (ztK l) with
 | some a=>(match (List.range l.length).find? (fun b=>decide (a<b) && zir l a b) with
  | some b=>((a:Int),(b:Int),true)
  | none=>(0,0,false))
 | none=>(0,0,false)
theorem zBH {a b:Nat} (hx:l[a]?=some x) (hy:l[b]?=some y) (hab:a<b) (h:zga x y=true) (h1:∀ a',a'<a→ztK l a'=false) (h2:∀ b',b'<b→(decide (a<b') && zir l a b')=false):clR l=((a:Int),(b:Int),true):=by
 have hb:=(List.getElem?_eq_some_iff.1 hy).1;have h3:(decide (a<b) && zir l a b)=true:=by simp[zir,hx,hy,h,hab]
 have h4:ztK l a=true:=List.any_eq_true.2 ⟨b,List.mem_range.2 hb,h3⟩;rw[clR,zoV zU h4 h1];simp only[];rw[zoV hb h3 h2]
theorem zAC (h:∀ a,a<l.length→ztK l a=false):clR l=(0,0,false):=by rw[clR,zsI h]
theorem zAo {a:Nat} (h:∀ b,b<l.length→(decide (a<b) && zir l a b)=false):ztK l a=false:=by
 rw[ztK,List.any_eq_false];intro b hb;rw[h b (List.mem_range.1 hb)];simp
theorem zAn {a b:Nat} (hx:l[a]?=some x) (hy:l[b]?=some y) (hc:zga x y=false) (h:∀ b',b'<b→(decide (a<b') && zir l a b')=false):∀ b',b'<b+1→(decide (a<b') && zir l a b')=false:=by
 intro b' hb
 rcases Nat.lt_or_eq_of_le (Nat.le_of_lt_succ hb) with q|q
 ·exact h b' q
 subst q;simp[zir,hx,hy,hc]
theorem zuK (hl:∀ s∈l,OkS s):(clR l).2.2=zhj l:=by
 have key:zhj l=(List.range l.length).any (ztK l):=by
  rw[Bool.eq_iff_iff,zhj];simp only[Bool.not_eq_true',decide_eq_false_iff_not,List.any_eq_true,List.mem_range];constructor
  ·intro h;apply Classical.byContradiction;intro hn;refine h (List.pairwise_iff_getElem.2 fun i j hi hj hij=>?_);cases e:zeC l[i] l[j] with
   | false=>rfl
   | true=>
    exfalso;refine hn ⟨i,hi,List.any_eq_true.2 ⟨j,List.mem_range.2 hj,?_⟩⟩;have e1:l[i]?=some l[i]:=List.getElem?_eq_getElem hi;have e2:l[j]?=some l[j]:=List.getElem?_eq_getElem hj;simp only[zir,e1,e2,zsS (hl _ (List.getElem_mem hi)) (hl _ (List.getElem_mem hj)),e,hij,decide_true,Bool.and_self]
  ·rintro ⟨i,hi,h⟩ hp;obtain ⟨j,hj,h2⟩:=List.any_eq_true.1 h;have hj:=List.mem_range.1 hj;have e1:l[i]?=some l[i]:=List.getElem?_eq_getElem hi;have e2:l[j]?=some l[j]:=List.getElem?_eq_getElem hj;simp only[zir,e1,e2,Bool.and_eq_true,decide_eq_true_eq,zsS (hl _ (List.getElem_mem hi)) (hl _ (List.getElem_mem hj))] at h2;rw[List.pairwise_iff_getElem.1 hp i j hi hj h2.1] at h2;exact absurd h2.2 (by decide)
 rw[key,clR];cases hf:(List.range l.length).find? (ztK l) with
 | none=>
  refine (List.any_eq_false.2 fun a ha=>?_).symm;exact List.find?_eq_none.1 hf a ha
 | some a=>
  have ha:=List.find?_some hf;have hm:=List.mem_of_find?_eq_some hf;have e:(List.range l.length).any (ztK l)=true:=List.any_eq_true.2 ⟨a,hm,ha⟩;rw[e];obtain ⟨b,hb,h2⟩:=List.any_eq_true.1 ha;cases hf2:(List.range l.length).find? (fun b=>decide (a<b) && zir l a b) with
  | none=>exact absurd h2 (List.find?_eq_none.1 hf2 b hb)
  | some b=>simp only[hf2]
def zjy (t:Text) (e:Edition) (c l:Nat):CRow:=⟨c,l,((asF e.stretches ⟨c,l⟩).getD ziG).a,((asF e.stretches ⟨c,l⟩).getD ziG).b,((zfA t c l).length:Int)⟩
def zrb (t:Text) (e:Edition) (c:Nat):List CRow:=(List.range (zbY t c).length).map (zjy t e c)
def zlC (t:Text) (e:Edition):List CRow:=(List.range t.chapters.length).flatMap (zrb t e)
theorem zAM {p:Pair} (hs:l[k]?=some s) (h:(asF (l.take k) p).isSome=true∨zqy p s=false):asF (l.take (k+1)) p=asF (l.take k) p:=by
 rw[zaQ hs,asF,asF,List.find?_append]
 rcases h with h|h
 ·unfold asF at h;cases e:(l.take k).find? (zqy p) with
  | none=>rw[e] at h;cases h
  | some a=>rfl
 simp[List.find?_cons,h]
theorem zAL {p:Pair} (hs:l[k]?=some s) (h1:asF (l.take k) p=none) (h:zqy p s=true):asF (l.take (k+1)) p=some (zAd p s):=by
 rw[zaQ hs,asF,List.find?_append];unfold asF at h1;cases e:(l.take k).find? (zqy p) with
 | none=>simp[List.find?_cons,h]
 | some a=>rw[e] at h1;cases h1
theorem zBK (hl:∀ s∈l,OkS s) {p q:Pair} (h:asF l p=some q):1≤q.a∧q.a≤999∧1≤q.b∧q.b≤1009:=by
 unfold asF at h;obtain ⟨s,hs,rfl⟩:=Option.map_eq_some_iff.1 h;have h1:=hl s (List.mem_of_find?_eq_some hs);have h2:=List.find?_some hs;simp only[zqy,Bool.and_eq_true,decide_eq_true_eq] at h2;unfold OkS at h1;simp only[zAd];omega
theorem ztm (hl:∀ s∈l,OkS s) {p:Pair}:((asF l p).getD ziG).a=0↔asF l p=none:=by
 cases h:asF l p with
 | none=>simp[ziG]
 | some q=>have:=zBK hl h;simp;omega
theorem zys {t:Text} {c:Nat}:(zrb t e c).length=(zbY t c).length:=by simp[zrb]
def atR (l:List CRow) (p:Place):CRow:=(l.find? fun x=>decide (x.chapter=p.chapter) && decide (x.line=p.line)).getD zBQ
theorem zAH {l:List CRow} {x:CRow} (hx:l[k]?=some x) (h1:∀ j y,j<k→l[j]?=some y→(decide (y.chapter=p.chapter) && decide (y.line=p.line))=false) (h2:(decide (x.chapter=p.chapter) && decide (x.line=p.line))=true):atR l p=x:=by
 have:l=l.take k++x::l.drop (k+1):=by rw[← zhA hx,List.take_append_drop]
 rw[atR,this,List.find?_append,List.find?_eq_none.2,List.find?_cons,h2]
 ·rfl
 intro y hy;obtain ⟨j,hj⟩:=List.mem_iff_getElem?.1 hy;rw[List.getElem?_take] at hj;split at hj
 ·rw[h1 j y (by assumption) hj];simp
 cases hj
theorem zyq {t:Text} {x:CRow} (h:x∈zlC t e):∃ c l:Nat,c<t.chapters.length∧l<(zbY t c).length∧x=zjy t e c l:=by
 unfold zlC zrb at h;obtain ⟨c,hc,h⟩:=List.mem_flatMap.1 h;obtain ⟨l,hl,rfl⟩:=List.mem_map.1 h;exact ⟨c,l,List.mem_range.1 hc,List.mem_range.1 hl,rfl⟩
theorem zyr {t:Text} {c l:Nat} (hc:c<t.chapters.length) (hl:l<(zbY t c).length):zjy t e c l∈zlC t e:=
 List.mem_flatMap.2 ⟨c,List.mem_range.2 hc,List.mem_map.2 ⟨l,List.mem_range.2 hl,rfl⟩⟩
theorem zjj {t:Text} (h:zcz t p=true):0≤p.chapter∧0≤p.line∧0≤p.word∧p.chapter.toNat<t.chapters.length∧p.line.toNat<(zbY t p.chapter.toNat).length∧p.word.toNat<(zfA t p.chapter.toNat p.line.toNat).length:=by
 unfold zcz zjw at h;split at h
 ·rename_i h0;cases e0:zcc t p with
  | none=>rw[e0] at h;cases h
  | some ln=>
   rw[e0] at h;have e3:=e0;unfold zcc at e3;split at e3
   ·rename_i h1;cases e1:t.chapters[p.chapter.toNat]? with
    | none=>rw[e1] at e3;cases e3
    | some c=>
     rw[e1] at e3;have e2:c.lines[p.line.toNat]?=some ln:=e3;have h3:zbY t p.chapter.toNat=c.lines:=by rw[zbY,e1];rfl
     have h4:zfA t p.chapter.toNat p.line.toNat=ln:=by rw[zfA,h3,e2];rfl
     rw[h3,h4];refine ⟨h1.1,h1.2,h0,(List.getElem?_eq_some_iff.1 e1).1,(List.getElem?_eq_some_iff.1 e2).1,?_⟩;cases e5:ln[p.word.toNat]? with
     | none=>simp[e5] at h
     | some a=>exact (List.getElem?_eq_some_iff.1 e5).1
   ·cases e3
 cases h
theorem zAI {t:Text} (hp:zcz t p=true):atR (zlC t e) p=zjy t e p.chapter.toNat p.line.toNat:=by
 obtain ⟨h1,h2,h3,h4,h5,h6⟩:=zjj hp;unfold atR;have hm:=zyr (e:=e) h4 h5;have hq:(decide ((zjy t e p.chapter.toNat p.line.toNat).chapter=p.chapter) && decide ((zjy t e p.chapter.toNat p.line.toNat).line=p.line))=true:=by
  rw[Bool.and_eq_true];exact ⟨decide_eq_true (Int.toNat_of_nonneg h1),decide_eq_true (Int.toNat_of_nonneg h2)⟩
 cases hf:(zlC t e).find? fun x=>decide (x.chapter=p.chapter) && decide (x.line=p.line) with
 | none=>exact absurd hq (List.find?_eq_none.1 hf _ hm)
 | some x=>
  obtain ⟨c,l,hc,hl,rfl⟩:=zyq (List.mem_of_find?_eq_some hf);have h7:=List.find?_some hf;rw[Bool.and_eq_true] at h7;have h8:(c:Int)=p.chapter:=of_decide_eq_true h7.1;have h9:(l:Int)=p.line:=of_decide_eq_true h7.2;have e1:p.chapter.toNat=c:=by rw[← h8];exact Int.toNat_natCast c
  have e2:p.line.toNat=l:=by rw[← h9];exact Int.toNat_natCast l
  rw[e1,e2];rfl
theorem zBj {t:Text} (hl:∀ s∈e.stretches,OkS s) (h1:0≤p.chapter) (h2:0≤p.line) (h:(zjy t e p.chapter.toNat p.line.toNat).as_≠0):ztz e p=⟨(zjy t e p.chapter.toNat p.line.toNat).as_,(zjy t e p.chapter.toNat p.line.toNat).number,p.word+1⟩∧(asF e.stretches ⟨p.chapter,p.line⟩).isSome=true:=by
 have e1:(⟨(p.chapter.toNat:Int),(p.line.toNat:Int)⟩:Pair)=⟨p.chapter,p.line⟩:=by rw[Int.toNat_of_nonneg h1,Int.toNat_of_nonneg h2]
 simp only[zjy,e1] at h ⊢;rw[ztz];cases hq:asF e.stretches ⟨p.chapter,p.line⟩ with
 | none=>exact absurd ((ztm hl).2 hq) h
 | some q=>exact ⟨rfl,rfl⟩
theorem zzB {t:Text} (hl:∀ s∈e.stretches,OkS s) (h1:0≤p.chapter) (h2:0≤p.line) (h:(zjy t e p.chapter.toNat p.line.toNat).as_=0):ztz e p=zrx∧(asF e.stretches ⟨p.chapter,p.line⟩).isSome=false:=by
 have e1:(⟨(p.chapter.toNat:Int),(p.line.toNat:Int)⟩:Pair)=⟨p.chapter,p.line⟩:=by rw[Int.toNat_of_nonneg h1,Int.toNat_of_nonneg h2]
 simp only[zjy,e1] at h;have:=(ztm hl).1 h;rw[ztz,this];exact ⟨rfl,rfl⟩
def zpW (t:Text) (s:Stretch):Nat→Bool
 | 0=>zhu t s
 | 1=>zfM t s
 | _=>zhI s
theorem zzG {t:Text} (ht:zbF t=true) (hb:zhu t s=true) (h:zfM t s=true):0≤s.from_∧s.from_≤10∧0≤s.to∧s.to≤10:=by
 simp only[zhu,zfM,inB,Bool.and_eq_true,decide_eq_true_eq] at h hb;have h2:(zbY t s.chapter.toNat).length≤10:=by
  unfold zbY;cases e:t.chapters[s.chapter.toNat]? with
  | none=>simp
  | some c=>simpa using zhX ht e
 omega
theorem zyE {α:Type} (l:List α) (p:α→Bool):(l.filter fun x=>!p x).length=0↔l.all p=true:=by
 rw[List.length_eq_zero_iff,List.filter_eq_nil_iff,List.all_eq_true];simp
def zhk (t:Text) (e:Edition):Chart:=⟨e,t,asM e.stretches,zoJ e.stretches⟩
theorem zuJ (l:List Stretch):∀ k,k≤l.length→0≤(clS l k).1∧(clS l k).1≤(l.length:Int)
 | 0,_=>by simp[clS]
 | k+1,h=>by
  have ih:=zuJ l k zU;obtain ⟨s,hs⟩:∃ s,l[k]?=some s:=⟨_,List.getElem?_eq_getElem zU⟩;simp only[clS,hs];cases hf:(List.range k).find? (fun j:Nat=>decide ((j:Int)<(clS l k).1) && zsE l j s) with
  | none=>exact ih
  | some j=>
   have:=List.mem_range.1 (List.mem_of_find?_eq_some hf);simp only[];omega
theorem zlL (h:(zcb (asN m s n) ⟨s.chapter,s.from_+(n:Int)⟩).isSome=false):asN m s (n+1)=zgd (asN m s n) ⟨s.chapter,s.from_+(n:Int)⟩ ⟨s.as_,s.first+(n:Int)⟩:=by
 rw[ztl,ztX,atS,asS,if_neg (by rw[h];simp)]
theorem zlM (h:(zcb (asN m s n) ⟨s.chapter,s.from_+(n:Int)⟩).isSome=true):asN m s (n+1)=asN m s n:=by
 rw[ztl,ztX,atS,if_pos h]
theorem zjo (h:(zcb (zmn m s n) ⟨s.as_,s.first+(n:Int)⟩).isSome=false):zmn m s (n+1)=zgd (zmn m s n) ⟨s.as_,s.first+(n:Int)⟩ ⟨s.chapter,s.from_+(n:Int)⟩:=by
 rw[ztk,ztX,atS,asS,if_neg (by rw[h];simp)]
theorem zjp (h:(zcb (zmn m s n) ⟨s.as_,s.first+(n:Int)⟩).isSome=true):zmn m s (n+1)=zmn m s n:=by
 rw[ztk,ztX,asS,if_pos h]
def zkD (t:Text) (e:Edition):Int×Int×Int:=if zcT t e≠0 then (0,0,zcT t e) else if (clS e.stretches e.stretches.length).2.2=true then ((clS e.stretches e.stretches.length).1,(clS e.stretches e.stretches.length).2.1,0) else (0,0,6)
theorem zsU (t:Text) (e:Edition):zcT t e=0∨zcT t e=10∨zcT t e=20:=by
 unfold zcT;split
 ·split
  ·exact .inl rfl
  ·exact .inr (.inr rfl)
 exact .inr (.inl rfl)
theorem zwy (t:Text) (e:Edition):((zkD t e).2.2=0→zcH t e=8)∧((zkD t e).2.2=6→zcH t e=0)∧(¬ (zkD t e).2.2=0→¬ (zkD t e).2.2=6→zcH t e=(zkD t e).2.2):=by
 unfold zkD zcH
 rcases zsU t e with h|h|h
 ·have:=zuI (fun s hs=>((zfC h).2.2 s hs).2);rw[← this];cases (clS e.stretches e.stretches.length).2.2 <;> simp[h]
 ·simp[h]
 simp[h]
def zuX (b:Chart) (p:Place):Ref:=match zcb b.as_ ⟨p.chapter,p.line⟩ with
 | some q=>⟨q.a,q.b,p.word+1⟩
 | none=>zrx
def okC (b:Chart) (p:Place):Bool:=(zcb b.as_ ⟨p.chapter,p.line⟩).isSome
theorem zBl (t:Text) (e:Edition) (p:Place):zuX (zhk t e) p=ztz e p:=by
 (simp only[zuX,zhk,zwl,ztz]) <;> rfl
theorem zCE (t:Text) (e:Edition) (p:Place):okC (zhk t e) p=(asF e.stretches ⟨p.chapter,p.line⟩).isSome:=by
 simp only[okC,zhk,zwl]
def zlS (t:Text) (l:List Edition):Int:=match l.find? (fun e=>decide (zcT t e≠0)) with
 | some e=>zcT t e
 | none=>if l.any (fun e=>zhj e.stretches)=true then 8 else 0
def zqL (t:Text) (l:List Edition):List Chart:=if zlS t l=0 then l.map (zhk t) else []
theorem zrY (t:Text) (e:Edition):zlS t [e]=zcH t e:=by
 simp only[zlS,zcH,List.find?_cons,List.find?_nil,List.any_cons,List.any_nil,Bool.or_false]
 by_cases h:zcT t e=0
 ·simp[h]
 simp[h]
theorem zxy (t:Text) (e:Edition):zqL t [e]=if zcH t e=0 then [zhk t e] else []:=by rw[zqL,zrY];rfl
theorem zrZ {t:Text} {l:List Edition} (he:l[k]?=some e) (h1:∀ j x,j<k→l[j]?=some x→zcT t x=0) (h2:zcT t e≠0):zlS t l=zcT t e:=by
 have e1:l=l.take k++e::l.drop (k+1):=by rw[← zhA he,List.take_append_drop]
 have e2:l.find? (fun e=>decide (zcT t e≠0))=some e:=by
  rw[e1,List.find?_append,List.find?_eq_none.2,List.find?_cons,decide_eq_true h2]
  ·rfl
  ·intro y hy;obtain ⟨j,hj⟩:=List.mem_iff_getElem?.1 hy;rw[List.getElem?_take] at hj;split at hj
   ·simp[h1 j y (by assumption) hj]
   ·cases hj
 rw[zlS,e2]
theorem zuV {t:Text} {l:List Edition} (h:∀ e∈l,zcT t e=0):zlS t l=if l.any (fun e=>zhj e.stretches)=true then 8 else 0:=by
 rw[zlS,List.find?_eq_none.2];intro e he;simp[h e he]
def zge (t:Text) (e:Edition) (p:Place):Int:=if zcH t e≠0 then zcH t e else if zcz t p=true then 0 else 12
theorem zqs {t:Text} (h:zge t e p=0):zcH t e=0∧zcz t p=true:=by
 unfold zge at h
 by_cases h1:zcH t e=0
 ·rw[if_neg (by simp[h1])] at h;split at h
  ·exact ⟨h1,by assumption⟩
  ·cases h
 rw[if_pos h1] at h;exact absurd h h1
theorem zrg {t:Text} (h:zge t e p=0):0≤p.word∧p.word≤1000:=by
 obtain ⟨h1,h2⟩:=zqs h;have ht:=(zfC (zpw h1).1).1;unfold zcz zjw at h2;split at h2
 ·cases e0:zcc t p with
  | none=>rw[e0] at h2;cases h2
  | some ln=>
   have:=(zqx ht e0).2;rw[e0] at h2;cases e5:ln[p.word.toNat]? with
   | none=>simp[e5] at h2
   | some a=>have:=(List.getElem?_eq_some_iff.1 e5).1;omega
 cases h2
theorem zuk {t:Text} (h:zge t e p≠0):zfn t e p=zrx∧ziR t e p=zge t e p:=by
 unfold zge at h ⊢;unfold zfn ziR
 by_cases h1:zcH t e=0
 ·have h1':¬ zcH t e≠0:=fun q=>q h1;rw[if_neg h1'] at h ⊢;rw[if_neg h1']
  by_cases h2:zcz t p=true
  ·rw[if_pos h2] at h;exact absurd rfl h
  ·exact ⟨if_neg (fun q=>h2 q.2),by rw[if_neg h2,if_neg h2]⟩
 exact ⟨if_neg (fun q=>h1 q.1),by rw[if_pos h1,if_pos h1]⟩
theorem zxf {t:Text} (h:zge t e p=0) (h3:(asF e.stretches ⟨p.chapter,p.line⟩).isSome=false):zfn t e p=zrx∧ziR t e p=6:=by
 obtain ⟨h1,h2⟩:=zqs h;have h4:asF e.stretches ⟨p.chapter,p.line⟩=none:=by simpa using h3
 simp[zfn,ziR,h1,h2,h4,ztz]
theorem zxe {t:Text} (h:zge t e p=0) (h3:(asF e.stretches ⟨p.chapter,p.line⟩).isSome=true):zfn t e p=ztz e p∧ziR t e p=0:=by
 obtain ⟨h1,h2⟩:=zqs h;simp[zfn,ziR,h1,h2,h3]
theorem zqY {t:Text} (h:∀ (j:Nat) x,c.readings[j]?=some x→(decide (x.at_=p) && decide (x.kind≠2))=false):zki t c p=zbd t p:=by
 rw[zki,List.find?_eq_none.2];intro x hx;obtain ⟨j,hj⟩:=List.mem_iff_getElem?.1 hx;rw[h j x hj];simp
theorem zui {t:Text} (hr:c.readings[k]?=some r) (h1:∀ j x,j<k→c.readings[j]?=some x→(decide (x.at_=p) && decide (x.kind≠2))=false) (h2:(decide (r.at_=p) && decide (r.kind≠2))=true):zki t c p=r.word:=by
 have e1:c.readings=c.readings.take k++r::c.readings.drop (k+1):=by rw[← zhA hr,List.take_append_drop]
 have e2:c.readings.find? (fun r=>decide (r.at_=p) && decide (r.kind≠2))=some r:=by
  rw[e1,List.find?_append,List.find?_eq_none.2,List.find?_cons,h2]
  ·rfl
  ·intro y hy;obtain ⟨j,hj⟩:=List.mem_iff_getElem?.1 hy;rw[List.getElem?_take] at hj;split at hj
   ·rw[h1 j y (by assumption) hj];simp
   ·cases hj
 rw[zki,e2]
def zkB (c:Copy):Bool:=decide (30<(c.readings.length:Int)) || c.readings.any fun r=>decide (40<(r.word.length:Int))
theorem zyQ (h:30<(c.readings.length:Int)):zkB c=true:=by rw[zkB,decide_eq_true h];rfl
theorem zxw (hr:c.readings[i]?=some r) (h:40<(r.word.length:Int)):zkB c=true:=by
 rw[zkB,Bool.or_eq_true];right;exact List.any_eq_true.2 ⟨r,List.mem_of_getElem? hr,by simpa using h⟩
theorem zyP (h1:¬ 30<(c.readings.length:Int)) (h2:(c.readings.any fun r=>decide (40<(r.word.length:Int)))=false):zkB c=false:=by rw[zkB,decide_eq_false h1,h2];rfl
end Go.Pk

namespace Go.Pk
open Go Go.RowKit
end Go.Pk

namespace Go.Pk
open Go Go.RowKit
variable {h0 h h1 h2 h3:Heap} {w0 w w4:World} {A C tail own3:Own} {b n k i:Nat} {o:Oper} {P:Program} {ops:Array Oper} {rest l l1:List Oper} {K:Env→World→Prop} {σ:Env} {x g:Operand} {args:Array Operand} {ats:Array TypeId} {vs:List Value} {f gf:FuncId} {ds:List Deferred} {a:Act} {y c body assign:Code} {r:Option Nat} {F:Fence} {α:Type} {I:List α→Heap→Own→Prop} {Ix:Code→List α→Heap→Own→Prop} {xs:List α} {ps:Array Tmp} {S:List α→Prop} {p:Tmp} {fn:Func} {R:Ending→World→Prop} {listed:Array Bool}
theorem St.setAt {o:Obj} (st:St h0 w0 h w (A++[(b,o)]::C)) (o':Obj):St h0 w0 h (w.putObj b o') (A++[(b,o')]::C):=by
 have:=st.set (k:=A.length) (b:=b) (o:=o) o' (by simp);have e:(A++[(b,o)]::C).set A.length [(b,o')]=A++[(b,o')]::C:=by
  rw[List.set_append_right _ _ (Nat.le_refl _),Nat.sub_self,List.set_cons_zero]
 rw[e] at this;exact this
theorem St.at {o:Obj} (st:St h0 w0 h w (A++[(b,o)]::C)):w.heap[b]?=some o:=st.get (k:=A.length) (by simp)
def zmU (P:Program) (l:Nat) (args:Array Value) (w:World) (R:Value→World→Prop):Prop:=
 ∃ fn tmps assign body,(Instr.yield l args).run P w=.ok (.round l fn tmps assign body) w∧RoundIn Fence.wide 0 P l fn tmps assign body w fun e w'=>∃ v,e=.returned v∧R v w'
theorem zwI {l:Nat} (ho:o.op=.call ⟨.value x,args,ats⟩) (hg:o.guard=none) (hd:zgM n o.dst=true) (hx:ev σ x=.func (.yield l) #[] #[]) (hv:args.toList.map (ev σ)=vs) (h:zmU P l vs.toArray w fun v w'=>E P n ops rest K (updO σ o.dst v) w'):E P n ops (o::rest) K σ w:=by
 obtain ⟨fn,tmps,assign,body,hr,hR⟩:=h;refine zxD (l:=l) (f:=fn) (tmps:=tmps) (assign:=assign) (body:=body) (w':=w) hg hd ?_ hR;subst hv;have e:args.map (ev σ)=(args.toList.map (ev σ)).toArray:=zAN (ev σ) args;rw[← e] at hr;unfold execOp;simp[ho,resolve,hx,invoke,callFunc,hr,go_sem]
theorem St.tl {o:List (Nat×Obj)} {own:Own} (st:St h0 w0 h w (o::own)):St h0 w0 h w own:=by
 have s:=st.drop 0;rw[List.set_cons_zero] at s;exact ⟨s.le,s.new,s.sub,s.below,fun p hp=>s.mine p (by simpa using hp),by simpa using s.nodup⟩
theorem zmU.mono {P:Program} {l:Nat} {args:Array Value} {w:World} {R R':Value→World→Prop} (h:zmU P l args w R) (hr:∀ v w',R v w'→R' v w'):zmU P l args w R':=by
 obtain ⟨fn,tmps,assign,body,hrun,hR⟩:=h;exact ⟨fn,tmps,assign,body,hrun,RoundIn.mono hR fun e w' ⟨v,he,h⟩=>⟨v,he,hr v w' h⟩⟩
theorem zjL {l:Nat} {B:Own} {J1 J2:Heap→Own→Prop} (ho:o.op=.call ⟨.value x,args,ats⟩) (hg:o.guard=none) (hd:zgM n o.dst=true) (hx:ev σ x=.func (.yield l) #[] #[]) (hv:args.toList.map (ev σ)=vs) (h:zmU P l vs.toArray w fun v w2=>∃ h2 rest2,Le h1 h2∧St h0 w0 h2 w2 (B++rest2)∧((v=.bool true∧J1 h2 rest2)∨(v=.bool false∧J2 h2 rest2))) (hk:∀ b w2 h2 rest2,Le h1 h2→St h0 w0 h2 w2 (B++rest2)→(b=true→J1 h2 rest2)→(b=false→J2 h2 rest2)→E P n ops rest K (updO σ o.dst (.bool b)) w2):E P n ops (o::rest) K σ w:=by
 refine zwI ho hg hd hx hv (h.mono ?_);rintro v w2 ⟨h2,rest2,le,st,⟨rfl,hj⟩|⟨rfl,hj⟩⟩
 ·exact hk true w2 h2 rest2 le st (fun _=>hj) (fun e=>by cases e)
 ·exact hk false w2 h2 rest2 le st (fun e=>by cases e) (fun _=>hj)
theorem zdE {own:Own} {fs cs:List Value} {Φ:Heap→World→Value→Prop} (st:St h0 w0 h w own) (ho:o.op=.call ⟨.value x,args,ats⟩) (hx:ev σ x=.func (.func f) fs.toArray cs.toArray) (hg:o.guard=none) (hd:zgM n o.dst=true) (hf:∀ a w,(callFunc f a).run P w=.ok (.enter f a) w) (hv:fs++args.toList.map (ev σ)++cs=vs) (hc:Calls P f vs.toArray w (zbe h w Φ)) (hk:∀ v w' h',Le h h'→St h0 w0 h' w' own→Φ h' w' v→E P n ops rest K (updO σ o.dst v) w'):E P n ops (o::rest) K σ w:=by
 refine zbN hg hd (zde ho hx hf hv) (hc.mono ?_);rintro e w' ⟨h',v,rfl,s,hΦ⟩;exact ⟨v,rfl,hk v w' h' s.le (st.call0 s) hΦ⟩
def zCl {α:Type} (P:Program) (gf:FuncId) (caps:List Value) (A:Heap→Value→α→Prop) (S:List α→Prop) (h0:Heap) (w0:World) (h:Heap):Prop:=
 ∀ (l:Nat) (J Jx:List α→Heap→Own→Prop),
  (∀ xs h1 h2 o,J xs h1 o→Le h1 h2→J xs h2 o)→(∀ xs h1 h2 o,Jx xs h1 o→Le h1 h2→Jx xs h2 o)→
  (∀ pre x h1 w1 B rest u,Le h h1→J pre h1 rest→St h0 w0 h1 w1 (B++rest)→A h1 u x→zmU P l #[u] w1 fun v w2=>∃ h2 rest2,Le h1 h2∧St h0 w0 h2 w2 (B++rest2)∧((v=.bool true∧J (pre++[x]) h2 rest2)∨(v=.bool false∧Jx (pre++[x]) h2 rest2)))→
  ∀ h1 w rest,Le h h1→J [] h1 rest→St h0 w0 h1 w rest→
   Calls P gf (.func (.yield l) #[] #[]::caps).toArray w fun e w'=>∃ h' rest' v,e=.returned v∧Le h1 h'∧St h0 w0 h' w' rest'∧((∃ xs,S xs∧J xs h' rest')∨(∃ pre,Jx pre h' rest'))
structure FitsD (ds:List Deferred) (n:Nat) (a:Act) (σ:Env):Prop where
 size:a.tmps.size=n
 defers:a.defers=ds
 at_:∀ i,a.tmps.getD i undef=σ i
abbrev VS:=List Deferred×Env
variable {Q:Exit→VS→World→Prop} {s:VS}
theorem FitsD.bare (h:FitsD ds n a σ):Fits n { a with defers:=[] } σ:=⟨h.size,rfl,h.at_⟩
theorem FitsD.eval {ds:List Deferred} {n:Nat} {a:Act} {σ:Env} (h:FitsD ds n a σ):a.eval=ev σ:=by
 funext x;cases x <;> simp only[Act.eval,ev];exact h.at_ _
def V (F:Fence) (P:Program) (n:Nat) (c:Code) (Q:Exit→VS→World→Prop) (s:VS) (w:World):Prop:=
 ∀ k a,FitsD s.1 n a s.2→c.wpIn F k P (fun e a' w'=>∃ s':VS,FitsD s'.1 n a' s'.2∧Q e s' w') a w
def zeZ (K:VS→World→Prop) (Q:Exit→VS→World→Prop):Exit→VS→World→Prop
 | .normal,σ,w=>K σ w
 | e,σ,w=>Q e σ w
def zqS (id:Nat) (Q:Exit→VS→World→Prop):Exit→VS→World→Prop
 | .exit id',σ,w=>if id'=id then Q .normal σ w else Q (.exit id') σ w
 | e,σ,w=>Q e σ w
theorem zcw {K:VS→World→Prop} (h:K s w):zeZ K Q .normal s w:=h
theorem zeZ.exit {K:VS→World→Prop} {id:Nat} (h:Q (.exit id) s w):zeZ K Q (.exit id) s w:=h
theorem zqO {K:VS→World→Prop} (h:Q .ret s w):zeZ K Q .ret s w:=h
theorem zkg {id:Nat} (h:Q .normal s w):zqS id Q .normal s w:=h
theorem zqS.ret {id:Nat} (h:Q .ret s w):zqS id Q .ret s w:=h
section
variable {F:Fence} {P:Program} {n:Nat} {Q:Exit→VS→World→Prop} {s:VS} {w:World}
theorem zqN (h:Q .normal s w):V F P n .skip Q s w:=fun _ _ ha=>wpIn_skip ⟨s,ha,h⟩
theorem V.label {l:Nat} (h:Q .normal s w):V F P n (.label l) Q s w:=fun _ _ ha=>wpIn_label ⟨s,ha,h⟩
theorem V.exit {id:Nat} (h:Q (.exit id) s w):V F P n (.exit id) Q s w:=fun _ _ ha=>wpIn_exit ⟨s,ha,h⟩
theorem zuN (h:Q .ret s w):V F P n .ret Q s w:=fun _ _ ha=>wpIn_ret ⟨s,ha,h⟩
theorem zgz {x: Code} (h:V F P n x (zeZ (V F P n y Q) Q) s w):V F P n (.seq x y) Q s w:=by
 intro k a ha;refine wpIn_seq (wpIn_mono (h k a ha) ?_);rintro e a' w' ⟨s',hf,q⟩;cases e <;> first|exact q k a' hf|exact ⟨s',hf,q⟩
theorem zrO {id:Nat} (h:V F P n c (zqS id Q) s w):V F P n (.block id c) Q s w:=by
 intro k a ha;refine wpIn_block (wpIn_mono (h k a ha) ?_);rintro e a' w' ⟨s',hf,q⟩;cases e with
 | exit id'=>
  simp only[zqS] at q;simp only[Exit.inBlock];split
  ·rename_i h;rw[if_pos h] at q;exact ⟨s',hf,q⟩
  ·rename_i h;rw[if_neg h] at q;exact ⟨s',hf,q⟩
 | _=>exact ⟨s',hf,q⟩
theorem znN {c:Operand} {x: Code} {t:Bool} (hc:ev s.2 c=.bool t) (ht:t=true→V F P n x Q s w) (hf:t=false→V F P n y Q s w):V F P n (.cond c x y) Q s w:=by
 intro k a ha;exact wpIn_cond_split (t:=t) (by rw[ha.eval];exact hc) (fun e=>ht e k a ha) (fun e=>hf e k a ha)
def zlF:List Oper→Bool
 | []=>true
 | o::l=>(match o.op with|.defer _=>false|_=>true) && zlF l
theorem zri (h:(match o.op with|.defer _=>false|_=>true)=true):∀ c,o.op≠.defer c:=by
 intro c e;rw[e] at h;cases h
theorem zuz {ops:Array Oper} {ds:List Deferred} {q:Exit→Act→World→Prop} {q':Exit→Act→World→Prop} {r:Option Nat} (hq:∀ e a1 a2 w,a2.tmps=a1.tmps→a2.defers=a1.defers++ds→q e a1 w→q' e a2 w) (hn:∀ e a w,q e a w→e=.normal) {k:Nat}:
  ∀ (l:List Oper) (a1 a2:Act) (w:World),zlF l=true→a2.tmps=a1.tmps→a2.defers=a1.defers++ds→wpListIn Fence.wide 0 P ops q l a1 w→wpListIn { Fence.wide with round:=r } k P ops q' l a2 w
 | [],a1,a2,w,_,h1,h2,h=>hq _ _ _ _ h1 h2 h
 | o::l,a1,a2,w,hd,h1,h2,h=>by
  simp only[zlF,Bool.and_eq_true] at hd;have ih:=fun a1 a2 w=>zuz (r:=r) (ops:=ops) hq hn (k:=k) l a1 a2 w hd.2;have hev:a2.eval=a1.eval:=by funext x;cases x <;> simp only[Act.eval,h1]
  unfold wpListIn at h ⊢;rw[h1];have hp1:∀ (d:Option Tmp) (v:Value),(a2.put d v).tmps=(a1.put d v).tmps:=by
   intro d v;cases d <;> simp[Act.put,h1]
  have hp2:∀ (d:Option Tmp) (v:Value),(a2.put d v).defers=(a1.put d v).defers++ds:=by
   intro d v;cases d <;> simp[Act.put,h2]
  split
  ·rename_i hw;rw[if_pos hw] at h;obtain ⟨_,h⟩:=h;refine ⟨fun _ _=>trivial,?_⟩;rw[Oper.semAt_eq _ _ _ (zri hd.1),hev];have h:o.uponIn Fence.wide 0 P a1 _ _ ((execOp a1.eval o).run P w):=h;cases hr:(execOp a1.eval o).run P w with
   | ok nx w'=>
    rw[hr] at h;cases nx with
    | value v=>exact ih _ _ _ (hp1 _ _) (hp2 _ _) h
    | skip=>exact ih _ _ _ (hp1 _ _) (hp2 _ _) h
    | defer d=>
     refine ih _ _ _ ?_ ?_ h
     ·cases o.dst <;> simp[Act.put,h1]
     ·cases o.dst <;> simp[Act.put,h2]
    | enter f args=>
     refine ⟨fun hh=>absurd hh (by simp[Fence.wide]),?_⟩;have h2':=(callsIn_wide (n:=k-1)).2 (callsIn_wide.1 h.2);have h3:CallsIn { Fence.wide with round:=r } (k-1) P f args w' _:=h2';refine CallsIn.mono h3 ?_;intro e w'' he;cases e with
     | returned v=>exact ih _ _ _ (hp1 _ _) (hp2 _ _) he
     | panicked c=>exact absurd (hn _ _ _ he) (by simp)
     | outgrown=>obtain ⟨_,_,he⟩:=he;exact absurd (hn _ _ _ he) (by simp)
    | round l f tmps assign body=>
     refine ⟨fun hh=>absurd hh (by simp[Fence.wide]),?_⟩;have h3:RoundIn { Fence.wide with round:=r } (k-1) P l f tmps assign body w' _:=⟨trivial,fun c cs _=>h.2.2 c cs (room_wide _)⟩;refine RoundIn.mono h3 ?_;intro e w'' he;cases e with
     | returned v=>exact ih _ _ _ (hp1 _ _) (hp2 _ _) he
     | panicked c=>exact absurd (hn _ _ _ he) (by simp)
     | outgrown=>obtain ⟨_,_,he⟩:=he;exact absurd (hn _ _ _ he) (by simp)
    | row rw_ args=>
     refine ⟨fun hh=>absurd hh (by simp[Fence.wide]),?_⟩;have h3:RowsIn { Fence.wide with round:=r } (k-1) P rw_ args w' _:=fun c cs _=>h.2 c cs (room_wide _);refine RowsIn.mono h3 ?_;intro v w'' he;exact ih _ _ _ (hp1 _ _) (hp2 _ _) he
    | _=>exact h.elim
   | halt x w'=>
    rw[hr] at h;cases x with
    | panic v=>exact absurd (hn _ _ _ h) (by simp)
    | _=>exact h.elim
  ·rename_i hw;rw[if_neg hw] at h;obtain ⟨_,h⟩:=h;exact ⟨fun _ _=>trivial,ih _ _ _ (hp1 _ _) (hp2 _ _) h⟩
theorem zdJ {id:Nat} (hnd:zlF l=true) (h:E P n l.toArray l (fun σ w=>Q .normal (ds,σ) w) σ w):V { Fence.wide with round:=r } P n (.region id l.toArray false) Q (ds,σ) w:=by
 intro k a ha;refine wpIn_region_lit (zuz (ds:=ds) ?_ ?_ l { a with defers:=[] } a w hnd rfl (by simpa using ha.defers) (h _ ha.bare))
 ·rintro e a1 a2 w h1 h2 ⟨rfl,σ',hf,q⟩;refine ⟨(ds,σ'),⟨by rw[h1];exact hf.size,by rw[h2,hf.defers];rfl,by rw[h1];exact hf.at_⟩,q⟩
 rintro e a w ⟨rfl,_⟩;rfl
end
theorem V.mono {Q' : Exit→VS→World→Prop} (h:V F P n c Q s w) (hq:∀ e s w,Q e s w→Q' e s w):V F P n c Q' s w:=
 fun k a ha=>wpIn_mono (h k a ha) fun _ _ _ ⟨s',hf,q⟩=>⟨s',hf,hq _ _ _ q⟩
theorem zDP (h:W P n c (fun e σ' w'=>Q e ([],σ') w') σ w):V Fence.wide P n c Q ([],σ) w:=by
 intro k a ha;have hf:Fits n a σ:=⟨ha.size,ha.defers,ha.at_⟩;refine (wpIn_wide (n:=k)).2 (Code.wp_mono ?_ (h a hf));rintro e a' w' ⟨σ',hf',q⟩;exact ⟨([],σ'),⟨hf'.size,hf'.defers,hf'.at_⟩,q⟩
def znO {α:Type} (I:List α→Heap→Own→Prop) (Ix:Code→List α→Heap→Own→Prop) (h0:Heap) (w0:World) (h2:Heap) (xs:List α) (tail:Own):Exit→VS→World→Prop:=fun e _ w4=>
 ∃ h3 own3,Le h2 h3∧St h0 w0 h3 w4 (own3++tail)∧(match e with
  | .normal=>I xs h3 own3
  | .ret=>Ix .ret xs h3 own3
  | .exit id=>Ix (.exit id) xs h3 own3
  | .goto t=>Ix (.goto t) xs h3 own3
  | _=>False)
def zrw {α:Type} (F:Fence) (P:Program) (n:Nat) (body:Code) (I:List α→Heap→Own→Prop) (Ix:Code→List α→Heap→Own→Prop) (h0:Heap) (w0:World) (h1:Heap) (xs:List α) (tail:Own):Exit→VS→World→Prop:=fun e s w2=>
 e=.normal∧∃ h2 own2,Le h1 h2∧St h0 w0 h2 w2 (own2++tail)∧∀ tail' w3,St h0 w0 h2 w3 (own2++tail')→V F P n body (znO I Ix h0 w0 h2 xs tail') s w3
theorem zwN {own2: Own} {w2:World} (le:Le h1 h2) (st:St h0 w0 h2 w2 (own2++tail)) (hb:∀ tail' w3,St h0 w0 h2 w3 (own2++tail')→V F P n body (znO I Ix h0 w0 h2 xs tail') s w3):zrw F P n body I Ix h0 w0 h1 xs tail .normal s w2:=⟨rfl,h2,own2,le,st,hb⟩
theorem zlt (le:Le h2 h3) (st:St h0 w0 h3 w4 (own3++tail)) (hI:I xs h3 own3):znO I Ix h0 w0 h2 xs tail .normal s w4:=⟨h3,own3,le,st,hI⟩
theorem znO.exit {id:Nat} (le:Le h2 h3) (st:St h0 w0 h3 w4 (own3++tail)) (hI:Ix (.exit id) xs h3 own3):znO I Ix h0 w0 h2 xs tail (.exit id) s w4:=⟨h3,own3,le,st,hI⟩
theorem zwe (A B C:List α):(B++(A++C)).Perm (A++(C++B)):=by
 rw[← List.append_assoc A C B];exact List.perm_append_comm
def zAS {α:Type} (P:Program) (gf:FuncId) (caps:List Value) (A:List α→Heap→List Value→α→Prop) (S:List α→Prop) (X:Own) (h0:Heap) (w0:World) (h:Heap):Prop:=
 ∀ (l:Nat) (J Jx:List α→Heap→Own→Prop),
  (∀ xs h1 h2 o,J xs h1 o→Le h1 h2→J xs h2 o)→(∀ xs h1 h2 o,Jx xs h1 o→Le h1 h2→Jx xs h2 o)→
  (∀ pre x h1 w1 B rest us,Le h h1→J pre h1 rest→St h0 w0 h1 w1 (B++rest)→A pre h1 us x→zmU P l us.toArray w1 fun v w2=>∃ h2 rest2,Le h1 h2∧St h0 w0 h2 w2 (B++rest2)∧((v=.bool true∧J (pre++[x]) h2 rest2)∨(v=.bool false∧Jx (pre++[x]) h2 rest2)))→
  ∀ h1 w rest,Le h h1→J [] h1 rest→St h0 w0 h1 w (X++rest)→
   Calls P gf (.func (.yield l) #[] #[]::caps).toArray w fun e w'=>∃ h' rest' v,e=.returned v∧Le h1 h'∧St h0 w0 h' w' rest'∧((∃ xs,S xs∧J xs h' rest')∨(∃ pre,Jx pre h' rest'))
def zvy {α:Type} (P:Program) (gf:FuncId) (caps:List Value) (A:List α→Heap→List Value→α→Prop) (S:List α→Prop) (h0:Heap) (w0:World) (h:Heap):Prop:=zAS P gf caps A S [] h0 w0 h
theorem zvt {A:List α→Heap→List Value→α→Prop} {up:List Value→Env} {caps:List Value} {X own:Own} (st:St h0 w0 h w (X++own)) (hg:ev σ g=.func (.func gf) #[] caps.toArray) (eg:∀ a w,(callFunc gf a).run P w=.ok (.enter gf a) w) (hput:∀ (a:Act) pre us h x,FitsD [] n a σ→A pre h us x→FitsD [] n ({ tmps:=(ps.zip us.toArray).foldl (fun tmps (x:Nat×Value)=>tmps.setIfInBounds x.1 x.2) a.tmps,defers:=[] }:Act) (up us)) (hsz:∀ pre us h x,A pre h us x→us.toArray.size=ps.size) (seq:zAS P gf caps A S X h0 w0 h) (I:List α→Heap→Own→Prop) (Ix:Code→List α→Heap→Own→Prop) (hI:∀ xs h1 h2 o,I xs h1 o→Le h1 h2→I xs h2 o) (hIx:∀ c xs h1 h2 o,Ix c xs h1 o→Le h1 h2→Ix c xs h2 o) (h00:I [] h own) (hround:∀ (l:Nat) pre x h1 w1 own1 tail us,Le h h1→I pre h1 own1→St h0 w0 h1 w1 (own1++tail)→A pre h1 us x→
   V { Fence.wide with round:=some l } P n assign (zrw { Fence.wide with round:=some l } P n body I Ix h0 w0 h1 (pre++[x]) tail) ([],up us) w1) (hdone:∀ D xs h' w' own',Le h h'→S xs→I xs h' own'→St h0 w0 h' w' (own'++[[(D,.deferred (some []))]])→Q .normal ([{ target:=.collected D,args:=#[] }],σ) w') (hstop:∀ D c pre h' w' own',Le h h'→Ix c pre h' own'→St h0 w0 h' w' (own'++[[(D,.deferred (some []))]])→V Fence.wide P n c Q ([{ target:=.collected D,args:=#[] }],σ) w'):
  V Fence.wide P n (.rangeFunc g ps assign body) Q ([],σ) w:=by
 intro k a ha;refine wpIn_rangeFunc ?_;intro fn _;obtain ⟨D,hD⟩:∃ D,D=w.heap.size:=⟨_,rfl⟩;obtain ⟨l,hl⟩:∃ l,l=w.heap.size+1:=⟨_,rfl⟩;obtain ⟨rec,hrec⟩:∃ rec:LoopState→Option Code→Loop,rec=fun st pe=>{ state:=st,pending:=pe,fn,tmps:=a.tmps,params:=ps,assign,body,defers:=D }:=⟨_,rfl⟩;have st1:=(st.alloc (.deferred (some []))).alloc (.loop (rec .ready none));have hsz':(w.alloc (.deferred (some []))).heap.size=l:=by rw[hl];simp
 rw[hsz',← hD] at st1;have hxa:a.eval=ev σ:=ha.eval;obtain ⟨w1,ew1⟩:∃ w1,w1=(w.alloc (.deferred (some []))).alloc (.loop (rec .ready none)):=⟨_,rfl⟩;rw[← ew1] at st1;have e1:(Instr.enterLoop fn a.tmps ps assign body none).run P w=.ok (l,[({ target:=.collected D,args:=#[] }:Deferred)]) w1:=by
  rw[ew1,hrec,hl,hD];exact run_enterLoop_outer _ _ _ _ _
 refine ⟨l,[({ target:=.collected D,args:=#[] }:Deferred)],w1,({ target:=.fn (.func gf) caps.toArray,args:=#[.func (.yield l) #[] #[]] }:Deferred),w1,gf,#[.func (.yield l) #[] #[]]++caps.toArray,w1,?_,?_,fun _ _=>trivial,?_,fun hh=>absurd hh (by simp[Fence.wide]),?_⟩
 ·exact e1
 ·simp only[resolve,hxa,hg];simp[go_sem,rangeCall,ev]
 ·simp[invoke,go_sem,eg]
 ·have con:=seq l (fun pre h1 rest=>∃ own1,I pre h1 own1∧rest=own1++[[(D,.deferred (some []))],[(l,.loop (rec .ready none))]])
   (fun pre h1 rest=>∃ own1 c,Ix c pre h1 own1∧rest=own1++[[(D,.deferred (some []))],[(l,.loop (rec .done (some c)))]])
   (by rintro xs h1 h2 o ⟨own1,hi,rfl⟩ le;exact ⟨own1,hI _ _ _ _ hi le,rfl⟩) (by rintro xs h1 h2 o ⟨own1,c,hi,rfl⟩ le;exact ⟨own1,c,hIx _ _ _ _ _ hi le,rfl⟩) ?_ h _ _ (Le.refl h) ⟨own,h00,rfl⟩ (by simpa using st1)
  ·refine (callsIn_wide.2 ?_);have e0:(.func (.yield l) #[] #[]::caps:List Value).toArray=#[.func (.yield l) #[] #[]]++caps.toArray:=by simp
   rw[e0] at con;refine con.mono ?_;rintro e w2 ⟨h',rest',v,rfl,le,st2,hout⟩;have tk:∀ {own1:Own} {r:Loop},St h0 w0 h' w2 (own1++[[(D,.deferred (some []))],[(l,.loop r)]])→∀ o',St h0 w0 h' (w2.putObj l o') (own1++[[(D,.deferred (some []))]]):=by
    intro own1 r s o';have s2:St h0 w0 h' w2 ((own1++[[(D,.deferred (some []))]])++[(l,.loop r)]::[]):=by simpa using s
    have s3:=(s2.setAt o').take (own1++[[(D,Obj.deferred (some []))]]).length;rwa [List.take_left'] at s3;rfl
   rcases hout with ⟨xs,hS,own1,hi,rfl⟩|⟨pre,own1,c,hi,rfl⟩
   ·have hlr:w2.heap[l]?=some (.loop (rec .ready none)):=St.at (A:=own1++[[(D,.deferred (some []))]]) (C:=[]) (by simpa using st2);have hend:=run_endLoop (P:=P) hlr (by rw[hrec];simp);rw[hrec] at hend;refine ⟨none,_,hend,⟨([{ target:=.collected D,args:=#[] }],σ),⟨ha.size,by simp[ha.defers],ha.at_⟩,hdone D xs h' _ own1 le hS hi (tk st2 _)⟩⟩
   ·have hlr:w2.heap[l]?=some (.loop (rec .done (some c))):=St.at (A:=own1++[[(D,.deferred (some []))]]) (C:=[]) (by simpa using st2);have hend:=run_endLoop (P:=P) hlr (by rw[hrec];simp);rw[hrec] at hend;refine ⟨some c,_,hend,?_⟩;exact hstop D c pre h' _ own1 le hi (tk st2 _) k _ ⟨ha.size,by simp[ha.defers],ha.at_⟩
  ·rintro pre x h1 w1 B rest us le ⟨own1,hi,rfl⟩ s1 hA;have hlr:w1.heap[l]?=some (.loop (rec .ready none)):=St.at (A:=B++(own1++[[(D,.deferred (some []))]])) (C:=[]) (by simpa using s1);have hy:=run_yield (P:=P) (args:=us.toArray) hlr (by rw[hrec];exact hsz pre us h1 x hA);rw[hrec] at hy;refine ⟨fn,_,assign,body,hy,roundIn_of_wpIn trivial ?_⟩
   -- the caller's entries first
   have s2:St h0 w0 h1 w1 (own1++([[(D,.deferred (some []))],[(l,.loop (rec .ready none))]]++B)):=s1.perm (zwe own1 B _);have hfit:=hput { tmps:=a.tmps,defers:=[] } pre us h1 x ⟨ha.size,rfl,ha.at_⟩ hA;have hr:=hround l pre x h1 w1 own1 _ us le hi s2 hA 0 _ hfit;refine wpIn_mono hr ?_;rintro e a2 w2 ⟨s',hf2,rfl,h2,own2,le2,s3,hbody⟩;have s3':St h0 w0 h2 w2 ((own2++[[(D,.deferred (some []))]])++[(l,.loop (rec .ready none))]::B):=by simpa using s3
   have hl2:=s3'.at;have hbr:=run_beginRound (P:=P) hl2 (by rw[hrec]);refine ⟨_,hbr,?_⟩;have s4:=s3'.setAt (.loop { rec .ready none with state:=.busy });have s4':=s4;rw[show (own2++[[(D,.deferred (some []))]])++[(l,.loop { rec .ready none with state:=.busy })]::B=own2++([[(D,.deferred (some []))],[(l,.loop { rec .ready none with state:=.busy })]]++B) by simp] at s4';refine wpIn_mono (hbody _ _ s4' 0 a2 hf2) ?_;have fin:∀ (jump:Option Code) (h3:Heap) (own3:Own) (w4:World),St h0 w0 h3 w4 (own3++([[(D,.deferred (some []))],[(l,.loop { rec .ready none with state:=.busy })]]++B))→
     ∃ w5,(Instr.endRound l jump).run P w4=.ok (.bool jump.isNone) w5∧St h0 w0 h3 w5 (B++(own3++[[(D,.deferred (some []))],[(l,.loop (rec (if jump.isNone then .ready else .done) jump))]])):=by
    intro jump h3 own3 w4 s5;have s5':St h0 w0 h3 w4 ((own3++[[(D,.deferred (some []))]])++[(l,.loop { rec .ready none with state:=.busy })]::B):=by simpa using s5
    refine ⟨_,run_endRound (P:=P) jump s5'.at,?_⟩;have s6:=s5'.setAt (.loop (rec (if jump.isNone then .ready else .done) jump));rw[show (own3++[[(D,.deferred (some []))]])++[(l,.loop (rec (if jump.isNone then .ready else .done) jump))]::B=own3++([[(D,.deferred (some []))],[(l,.loop (rec (if jump.isNone then .ready else .done) jump))]]++B) by simp] at s6;have s7:=s6.perm (zwe own3 B _).symm;rw[hrec] at s7 ⊢;exact s7
   rintro e a4 w4 ⟨s'',hf4,h3,own3,le3,s5,hm⟩;cases e with
   | normal=>
    obtain ⟨w5,hr5,s6⟩:=fin none h3 own3 w4 s5;exact ⟨_,w5,hr5,_,rfl,h3,_,le2.trans le3,s6,.inl ⟨rfl,own3,hm,rfl⟩⟩
   | ret=>
    obtain ⟨w5,hr5,s6⟩:=fin (some .ret) h3 own3 w4 s5;exact ⟨_,w5,hr5,_,rfl,h3,_,le2.trans le3,s6,.inr ⟨rfl,own3,.ret,hm,rfl⟩⟩
   | exit id=>
    obtain ⟨w5,hr5,s6⟩:=fin (some (.exit id)) h3 own3 w4 s5;exact ⟨_,w5,hr5,_,rfl,h3,_,le2.trans le3,s6,.inr ⟨rfl,own3,.exit id,hm,rfl⟩⟩
   | goto t=>
    obtain ⟨w5,hr5,s6⟩:=fin (some (.goto t)) h3 own3 w4 s5;exact ⟨_,w5,hr5,_,rfl,h3,_,le2.trans le3,s6,.inr ⟨rfl,own3,.goto t,hm,rfl⟩⟩
   | panic ch=>exact hm.elim
   | outgrown=>exact hm.elim
theorem zqi {A:List α→Heap→List Value→α→Prop} {up:List Value→Env} {caps:List Value} {own:Own} (st:St h0 w0 h w own) (hg:ev σ g=.func (.func gf) #[] caps.toArray) (eg:∀ a w,(callFunc gf a).run P w=.ok (.enter gf a) w) (hput:∀ (a:Act) pre us h x,FitsD [] n a σ→A pre h us x→FitsD [] n ({ tmps:=(ps.zip us.toArray).foldl (fun tmps (x:Nat×Value)=>tmps.setIfInBounds x.1 x.2) a.tmps,defers:=[] }:Act) (up us)) (hsz:∀ pre us h x,A pre h us x→us.toArray.size=ps.size) (seq:zvy P gf caps A S h0 w0 h) (I:List α→Heap→Own→Prop) (Ix:Code→List α→Heap→Own→Prop) (hI:∀ xs h1 h2 o,I xs h1 o→Le h1 h2→I xs h2 o) (hIx:∀ c xs h1 h2 o,Ix c xs h1 o→Le h1 h2→Ix c xs h2 o) (h00:I [] h own) (hround:∀ (l:Nat) pre x h1 w1 own1 tail us,Le h h1→I pre h1 own1→St h0 w0 h1 w1 (own1++tail)→A pre h1 us x→
   V { Fence.wide with round:=some l } P n assign (zrw { Fence.wide with round:=some l } P n body I Ix h0 w0 h1 (pre++[x]) tail) ([],up us) w1) (hdone:∀ D xs h' w' own',Le h h'→S xs→I xs h' own'→St h0 w0 h' w' (own'++[[(D,.deferred (some []))]])→Q .normal ([{ target:=.collected D,args:=#[] }],σ) w') (hstop:∀ D c pre h' w' own',Le h h'→Ix c pre h' own'→St h0 w0 h' w' (own'++[[(D,.deferred (some []))]])→V Fence.wide P n c Q ([{ target:=.collected D,args:=#[] }],σ) w'):
  V Fence.wide P n (.rangeFunc g ps assign body) Q ([],σ) w:=
 zvt (X:=[]) st hg eg hput hsz seq I Ix hI hIx h00 hround hdone hstop
theorem zwH {A:Heap→Value→α→Prop} {caps:List Value} {own:Own} (st:St h0 w0 h w own) (hg:ev σ g=.func (.func gf) #[] caps.toArray) (eg:∀ a w,(callFunc gf a).run P w=.ok (.enter gf a) w) (hp:Nat.blt p n=true) (seq:zCl P gf caps A S h0 w0 h) (I:List α→Heap→Own→Prop) (Ix:Code→List α→Heap→Own→Prop) (hI:∀ xs h1 h2 o,I xs h1 o→Le h1 h2→I xs h2 o) (hIx:∀ c xs h1 h2 o,Ix c xs h1 o→Le h1 h2→Ix c xs h2 o) (h00:I [] h own) (hround:∀ (l:Nat) pre x h1 w1 own1 tail u,Le h h1→I pre h1 own1→St h0 w0 h1 w1 (own1++tail)→A h1 u x→
   V { Fence.wide with round:=some l } P n assign (zrw { Fence.wide with round:=some l } P n body I Ix h0 w0 h1 (pre++[x]) tail) ([],upd σ p u) w1) (hdone:∀ D xs h' w' own',Le h h'→S xs→I xs h' own'→St h0 w0 h' w' (own'++[[(D,.deferred (some []))]])→Q .normal ([{ target:=.collected D,args:=#[] }],σ) w') (hstop:∀ D c pre h' w' own',Le h h'→Ix c pre h' own'→St h0 w0 h' w' (own'++[[(D,.deferred (some []))]])→V Fence.wide P n c Q ([{ target:=.collected D,args:=#[] }],σ) w'):
  V Fence.wide P n (.rangeFunc g #[p] assign body) Q ([],σ) w:=by
 refine zqi (A:=fun _ h us x=>∃ u,us=[u]∧A h u x) (up:=fun us=>upd σ p (us.headD undef)) st hg eg ?_ (by rintro _ _ _ _ ⟨u,rfl,_⟩;rfl) ?_ I Ix hI hIx h00 ?_ hdone hstop
 ·rintro a pre us h x hf ⟨u,rfl,_⟩;have h2:=hf.bare.put (d:=some p) (by exact hp) u;have e1:(#[p].zip [u].toArray).foldl (fun tmps (x:Nat×Value)=>tmps.setIfInBounds x.1 x.2) a.tmps=a.tmps.setIfInBounds p u:=by simp
  show FitsD [] n ({ tmps:=(#[p].zip [u].toArray).foldl (fun tmps (x:Nat×Value)=>tmps.setIfInBounds x.1 x.2) a.tmps,defers:=[] }:Act) (upd σ p u);rw[e1];exact ⟨h2.size,rfl,h2.at_⟩
 ·intro l J Jx hm hxm hY;exact seq l J Jx hm hxm fun pre x h1 w1 B rest u a b c d=>hY pre x h1 w1 B rest [u] a b c ⟨u,rfl,d⟩
 ·rintro l pre x h1 w1 own1 tail us a b c ⟨u,rfl,d⟩;exact hround l pre x h1 w1 own1 tail u a b c d
theorem zvu {A:List α→Heap→Value→Value→α→Prop} {p2: Tmp} {caps:List Value} {own:Own} (st:St h0 w0 h w own) (hg:ev σ g=.func (.func gf) #[] caps.toArray) (eg:∀ a w,(callFunc gf a).run P w=.ok (.enter gf a) w) (hp:Nat.blt p n=true) (hp2:Nat.blt p2 n=true) (seq:zvy P gf caps (fun pre h us x=>∃ u v,us=[u,v]∧A pre h u v x) S h0 w0 h) (I:List α→Heap→Own→Prop) (Ix:Code→List α→Heap→Own→Prop) (hI:∀ xs h1 h2 o,I xs h1 o→Le h1 h2→I xs h2 o) (hIx:∀ c xs h1 h2 o,Ix c xs h1 o→Le h1 h2→Ix c xs h2 o) (h00:I [] h own) (hround:∀ (l:Nat) pre x h1 w1 own1 tail u v,Le h h1→I pre h1 own1→St h0 w0 h1 w1 (own1++tail)→A pre h1 u v x→
   V { Fence.wide with round:=some l } P n assign (zrw { Fence.wide with round:=some l } P n body I Ix h0 w0 h1 (pre++[x]) tail) ([],upd (upd σ p u) p2 v) w1) (hdone:∀ D xs h' w' own',Le h h'→S xs→I xs h' own'→St h0 w0 h' w' (own'++[[(D,.deferred (some []))]])→Q .normal ([{ target:=.collected D,args:=#[] }],σ) w') (hstop:∀ D c pre h' w' own',Le h h'→Ix c pre h' own'→St h0 w0 h' w' (own'++[[(D,.deferred (some []))]])→V Fence.wide P n c Q ([{ target:=.collected D,args:=#[] }],σ) w'):
  V Fence.wide P n (.rangeFunc g #[p,p2] assign body) Q ([],σ) w:=by
 refine zqi (up:=fun us=>upd (upd σ p (us.headD undef)) p2 ((us.drop 1).headD undef)) st hg eg ?_ (by rintro _ _ _ _ ⟨u,v,rfl,_⟩;rfl) seq I Ix hI hIx h00 ?_ hdone hstop
 ·rintro a pre us h x hf ⟨u,v,rfl,_⟩;have h2:=(hf.bare.put (d:=some p) (by exact hp) u).put (d:=some p2) (by exact hp2) v;have e1:(#[p,p2].zip [u,v].toArray).foldl (fun tmps (x:Nat×Value)=>tmps.setIfInBounds x.1 x.2) a.tmps=(a.tmps.setIfInBounds p u).setIfInBounds p2 v:=by simp
  show FitsD [] n ({ tmps:=(#[p,p2].zip [u,v].toArray).foldl (fun tmps (x:Nat×Value)=>tmps.setIfInBounds x.1 x.2) a.tmps,defers:=[] }:Act) (upd (upd σ p u) p2 v);rw[e1];exact ⟨h2.size,rfl,h2.at_⟩
 ·rintro l pre x h1 w1 own1 tail us a b c ⟨u,v,rfl,d⟩;exact hround l pre x h1 w1 own1 tail u v a b c d
def zAP (P:Program):List Deferred→World→(World→Prop)→Prop
 | [],w,K=>K w
 | d::ds,w,K=>∃ D,d.target=.collected D∧w.heap[D]?=some (.deferred (some []))∧zAP P ds (w.putObj D (.deferred none)) K
def znP (fn:Func) (P:Program) (R:Ending→World→Prop):Exit→VS→World→Prop
 | .normal,s,w|.ret,s,w=>zAP P s.1 w fun w'=>zY fn P R .ret s.2 w'
 | _,_,_=>False
theorem zyf {args:List Value} (hf:P.funcs[f]?=some fn) (hb:fn.body=some c) (hn:fn.ntmps=n) (hl:Nat.ble args.length n=true) (h:V Fence.wide P n c (znP fn P R) ([],start args) w):Calls P f args.toArray w R:=by
 have hl':args.length≤n:=by simpa using hl
 refine (callsIn_wide (n:=0)).1 (callsIn_of_wp_marks hf hb trivial ?_);have hfit:FitsD [] n { tmps:=args.toArray++Array.replicate (fn.ntmps-args.toArray.size) undef,defers:=[] } (start args):=by
  refine ⟨by simp[hn];omega,rfl,fun i=>?_⟩;rw[← zvJ];simp only[Array.getD_eq_getD_getElem?,List.getD_eq_getElem?_getD]
  by_cases hi:i<args.length
  ·rw[Array.getElem?_append_left (by simpa using hi)];simp
  ·rw[Array.getElem?_append_right (by simpa using hi),List.getElem?_eq_none zU]
   by_cases hj:i-args.toArray.size<fn.ntmps-args.toArray.size
   ·rw[Array.getElem?_replicate,if_pos hj];rfl
   ·rw[Array.getElem?_replicate,if_neg hj]
 have key:∀ (ds:List Deferred) (w:World) (tmps:Array Value) (σ:Env),(∀ i,tmps.getD i undef=σ i)→zAP P ds w (fun w'=>zY fn P R .ret σ w')→LeavesInM Fence.wide 0 P fn tmps R ds .returning w:=by
  intro ds
  induction ds with
  | nil=>
   intro w tmps σ ht h;exact h tmps ht
  | cons d ds ih=>
   intro w tmps σ ht h;obtain ⟨D,hd,hD,h⟩:=h;exact ⟨by simp,.inl ⟨D,_,hd,run_takeDeferred hD,ih _ _ _ ht h⟩⟩
 refine wpIn_mono (h 0 _ hfit) ?_;rintro e a' w' ⟨s',hf',hq⟩;cases e with
 | normal=>show LeavesInM _ _ _ _ _ _ a'.defers _ _;rw[hf'.defers];exact key _ _ _ _ hf'.at_ hq
 | ret=>show LeavesInM _ _ _ _ _ _ a'.defers _ _;rw[hf'.defers];exact key _ _ _ _ hf'.at_ hq
 | exit id=>exact hq.elim
 | goto l=>exact hq.elim
 | panic ch=>exact hq.elim
 | outgrown=>exact hq.elim
theorem zpp (h:zY fn P R .ret σ w):znP fn P R .ret ([],σ) w:=h
theorem zqP {own:Own} {D:Nat} (st:St h0 w0 h w (own++[[(D,.deferred (some []))]])) (hk:∀ w',St h0 w0 h w' own→zY fn P R .ret σ w'):znP fn P R .ret ([{ target:=.collected D,args:=#[] }],σ) w:=by
 have s2:St h0 w0 h w (own++[(D,.deferred (some []))]::[]):=st;refine ⟨D,rfl,s2.at,hk _ ?_⟩;have s3:=(s2.setAt (.deferred none)).take own.length;rwa [List.take_left'] at s3;rfl
section
variable {P:Program} {n:Nat} {l:List Oper} {h0:Heap} {w0:World} {own0:Own} {hr:Heap} {er:Er} {dsts:List Nat} {σ:Env} {Q:Exit→Env→World→Prop} {ks:List (Nat×Kd)} {cx:List (Nat×Oper)}
theorem zDb {own:Own} (st:St h0 w0 h w own) (sh:Shape n l ks cx er dsts) (hops:Hops P n l h0 w0 own h er dsts σ [] l ks) (hstart:zko P n l h0 w0 h dsts σ Q ks (cx.drop er.2.2.2.2) (cx.take er.2.2.2.2) (ziL er ks) (zmp er ks) own []) (a:Act) (ha:Fits n a σ):
  wpAnyIn Fence.wide 0 P .any l.toArray (fun e a' w'=>∃ σ',Fits n a' σ'∧Q e σ' w') l.toArray.size (Array.replicate l.toArray.size false) a { w with drawn:=w.drawn+1 }:=by
 refine drawn sh hops hstart _ _ a σ _ (by simp) ?_ ha ⟨⟨zmV _ _,fun _ _ _ _ _ _=>rfl,fun j o _ hl=>by simp[Array.getElem?_replicate] at hl⟩,h,Le.refl h,?_,.inl ⟨?_,?_,?_⟩⟩
 ·unfold unl;refine Nat.le_trans List.countP_le_length ?_;simp
 ·intro i d p hi _;simp[Array.getElem?_replicate] at hi
 ·intro q _ hi;simp[Array.getElem?_replicate] at hi
 ·have e:∀ az,zhO (Array.replicate l.toArray.size false) σ az=az.map fun _=>[]:=by
   intro az;unfold zhO;refine List.map_congr_left fun q _=>?_;rw[if_neg];intro hi;simp[Array.getElem?_replicate] at hi
  rw[e,e];have:∀ m m2:List (Nat×Nat×Obj),St h0 w0 h w.drew (own++(m.map fun _=>[])++(m2.map fun _=>[])):=by
   intro m m2;have e2:(own++(m.map fun _=>([]:List (Nat×Obj)))++(m2.map fun _=>([]:List (Nat×Obj)))).flatten=own.flatten:=by
    rw[List.flatten_append,List.flatten_append];simp
   refine ⟨st.drew.le,st.drew.new,st.drew.sub,st.drew.below,?_,?_⟩
   ·rw[e2];exact st.drew.mine
   ·rw[e2];exact st.drew.nodup
  exact this _ _
 ·intro q _ hi;simp[Array.getElem?_replicate] at hi
end
theorem zvc {q q':Exit→Act→World→Prop} (hn:∀ e a w,q e a w→e=.normal) {K K':Act→World→Prop} (ih:∀ (a1 a2:Act) (w:World),a2.tmps=a1.tmps→a2.defers=a1.defers++ds→K a1 w→K' a2 w) (hd:∀ o,ops[i]?=some o→(match o.op with|.defer _=>false|_=>true)=true) (a1 a2:Act) (w:World) (h1:a2.tmps=a1.tmps) (h2:a2.defers=a1.defers++ds) (h:wpOpIn Fence.wide 0 P ops q i K a1 w):wpOpIn { Fence.wide with round:=r } k P ops q' i K' a2 w:=by
 have hev:a2.eval=a1.eval:=by funext x;cases x <;> simp only[Act.eval,h1]
 unfold wpOpIn at h ⊢;cases ho:ops[i]? with
 | none=>rw[ho] at h;exact ih _ _ _ h1 h2 h
 | some o=>
  rw[ho] at h;simp only at h ⊢;have hd:=hd o ho;rw[h1];have hp1:∀ (d:Option Tmp) (v:Value),(a2.put d v).tmps=(a1.put d v).tmps:=by
   intro d v;cases d <;> simp[Act.put,h1]
  have hp2:∀ (d:Option Tmp) (v:Value),(a2.put d v).defers=(a1.put d v).defers++ds:=by
   intro d v;cases d <;> simp[Act.put,h2]
  split
  ·rename_i hw;rw[if_pos hw] at h;unfold Oper.wpIn at h ⊢;obtain ⟨_,h⟩:=h;refine ⟨fun _ _=>trivial,?_⟩;rw[Oper.semAt_eq _ _ _ (zri hd),hev];have h:o.uponIn Fence.wide 0 P a1 _ _ ((execOp a1.eval o).run P w):=h;cases hr:(execOp a1.eval o).run P w with
   | ok nx w'=>
    rw[hr] at h;cases nx with
    | value v=>exact ih _ _ _ (hp1 _ _) (hp2 _ _) h
    | skip=>exact ih _ _ _ (hp1 _ _) (hp2 _ _) h
    | defer d=>
     refine ih _ _ _ ?_ ?_ h
     ·cases o.dst <;> simp[Act.put,h1]
     ·cases o.dst <;> simp[Act.put,h2]
    | enter f args=>
     refine ⟨fun hh=>absurd hh (by simp[Fence.wide]),?_⟩;have h2':=(callsIn_wide (n:=k-1)).2 (callsIn_wide.1 h.2);have h3:CallsIn { Fence.wide with round:=r } (k-1) P f args w' _:=h2';refine CallsIn.mono h3 ?_;intro e w'' he;cases e with
     | returned v=>exact ih _ _ _ (hp1 _ _) (hp2 _ _) he
     | panicked c=>exact absurd (hn _ _ _ he) (by simp)
     | outgrown=>obtain ⟨_,_,he⟩:=he;exact absurd (hn _ _ _ he) (by simp)
    | round l f tmps assign body=>
     refine ⟨fun hh=>absurd hh (by simp[Fence.wide]),?_⟩;have h3:RoundIn { Fence.wide with round:=r } (k-1) P l f tmps assign body w' _:=⟨trivial,fun c cs _=>h.2.2 c cs (room_wide _)⟩;refine RoundIn.mono h3 ?_;intro e w'' he;cases e with
     | returned v=>exact ih _ _ _ (hp1 _ _) (hp2 _ _) he
     | panicked c=>exact absurd (hn _ _ _ he) (by simp)
     | outgrown=>obtain ⟨_,_,he⟩:=he;exact absurd (hn _ _ _ he) (by simp)
    | row rw_ args=>
     refine ⟨fun hh=>absurd hh (by simp[Fence.wide]),?_⟩;have h3:RowsIn { Fence.wide with round:=r } (k-1) P rw_ args w' _:=fun c cs _=>h.2 c cs (room_wide _);refine RowsIn.mono h3 ?_;intro v w'' he;exact ih _ _ _ (hp1 _ _) (hp2 _ _) he
    | _=>exact h.elim
   | halt x w'=>
    rw[hr] at h;cases x with
    | panic v=>exact absurd (hn _ _ _ h) (by simp)
    | _=>exact h.elim
  ·rename_i hw;rw[if_neg hw] at h;obtain ⟨_,h⟩:=h;exact ⟨fun _ _=>trivial,ih _ _ _ (hp1 _ _) (hp2 _ _) h⟩
theorem zwG {P:Program} {md:Region.Mode} {ops:Array Oper} {ds:List Deferred} {q q':Exit→Act→World→Prop} {r:Option Nat} (hq:∀ e a1 a2 w,a2.tmps=a1.tmps→a2.defers=a1.defers++ds→q e a1 w→q' e a2 w) (hn:∀ e a w,q e a w→e=.normal) (hd:∀ (i:Nat) o,ops[i]?=some o→(match o.op with|.defer _=>false|_=>true)=true) {k:Nat}:
  ∀ (fuel:Nat) (listed:Array Bool) (a1 a2:Act) (w:World),a2.tmps=a1.tmps→a2.defers=a1.defers++ds→wpAnyIn Fence.wide 0 P md ops q fuel listed a1 w→wpAnyIn { Fence.wide with round:=r } k P md ops q' fuel listed a2 w
 | 0,_,_,_,_,h1,h2,h=>⟨h.1,hq _ _ _ _ h1 h2 h.2⟩
 | fuel+1,listed,a1,a2,w,h1,h2,h=>⟨fun e=>hq _ _ _ _ h1 h2 (h.1 e),fun i hi=>zvc (k:=k) hn (fun b1 b2 w2 g1 g2 g=>zwG hq hn hd fuel _ b1 b2 w2 g1 g2 g) (hd i) a1 a2 w h1 h2 (h.2 i hi)⟩
theorem zrj:∀ {l:List Oper},zlF l=true→∀ (i:Nat) o,l[i]?=some o→(match o.op with|.defer _=>false|_=>true)=true
 | o::l,h,0,o',e=>by simp only[zlF,Bool.and_eq_true] at h;simp at e;subst e;exact h.1
 | o::l,h,i+1,o',e=>by simp only[zlF,Bool.and_eq_true] at h;exact zrj h.2 i o' (by simpa using e)
 | [],_,_,_,e=>by simp at e
def zrl:Nat→List Oper→Bool
 | _,[]=>true
 | i,o::l=>(bnd o).all (fun j=>Nat.blt j i) && (match o.guard with|some (g,_)=>Nat.blt g i|none=>true) && zrl (i+1) l
theorem zme:∀ {l:List Oper} {i j:Nat} {o:Oper},zrl i l=true→l[j]?=some o→(∀ k∈bnd o,k<i+j)∧∀ g b,o.guard=some (g,b)→g<i+j
 | o::l,i,0,o',h,e=>by
  simp at e;subst e;simp only[zrl,Bool.and_eq_true,List.all_eq_true] at h;refine ⟨fun k hk=>by simpa using h.1.1 k hk,fun g b hg=>?_⟩;have:=h.1.2;rw[hg] at this;simpa using this
 | o::l,i,j+1,o',h,e=>by
  simp only[zrl,Bool.and_eq_true] at h;have:=zme h.2 (show l[j]?=some o' by simpa using e);rw[show i+(j+1)=i+1+j by omega];exact this
 | [],_,_,_,_,e=>by simp at e
theorem zpA (hi:l[i]?=some o) (hs:listed[i]?=some false) (hb:∀ j∈bnd o,listed[j]?=some true):i∈Region.ready .any l.toArray listed:=by
 unfold Region.ready;have hil:=(List.getElem?_eq_some_iff.1 hi).1;rw[List.mem_filter];refine ⟨by simpa using hil,?_⟩;rw[Bool.and_eq_true];refine ⟨by simp[Array.getD_eq_getD_getElem?,hs],?_⟩;rw[List.getElem?_toArray,hi];simp only[Option.map_some,Option.getD_some];rw[← Array.all_toList,List.all_eq_true];intro e he;cases hbi:Region.binds .any e with
 | false=>simp
 | true=>
  have:=hb e.on (mem_bnd.2 ⟨e,he,hbi,rfl⟩);simp[Array.getD_eq_getD_getElem?,this]
theorem zsw (hlow:zrl 0 l=true) (hsz:listed.size=l.length) (h:Region.ready .any l.toArray listed=[]):∀ i,i<l.length→listed[i]?=some true:=by
 intro i
 induction i using Nat.strongRecOn with
 | _ i ih=>
  intro hi;cases e:listed[i]? with
  | none=>rw[Array.getElem?_eq_none_iff] at e;omega
  | some b=>
   cases b with
   | true=>rfl
   | false=>
    have ho:=List.getElem?_eq_getElem hi;have:=zpA ho e fun j hj=>by
     have:=(zme hlow ho).1 j hj;exact ih j zU zU
    rw[h] at this;cases this
theorem zvA {t:Array Value} {g:Nat} (hg:g<l1.length):yielded (l1++[o]).toArray t g=yielded l1.toArray t g:=by
 unfold yielded;simp only[List.getElem?_toArray];rw[List.getElem?_append_left hg]
theorem zAc {Q:Exit→Act→World→Prop} {K:Act→World→Prop} (hlow:zrl 0 l1=true) (hi:i<l1.length) (h:wpOpIn Fence.wide 0 P l1.toArray Q i K a w):wpOpIn Fence.wide 0 P (l1++[o]).toArray Q i K a w:=by
 have ho:=List.getElem?_eq_getElem hi;unfold wpOpIn at h ⊢;rw[List.getElem?_toArray,ho] at h;rw[List.getElem?_toArray,List.getElem?_append_left hi,ho];simp only at h ⊢;have e:Region.wanted l1[i] (yielded (l1++[o]).toArray a.tmps)=Region.wanted l1[i] (yielded l1.toArray a.tmps):=by
  unfold Region.wanted;cases hg:l1[i].guard with
  | none=>rfl
  | some q=>
   obtain ⟨g,b⟩:=q;have:=(zme hlow ho).2 g b hg;simp only;rw[zvA zU]
 rw[e];exact h
theorem zBL {Q:Exit→Act→World→Prop} (hlow:zrl 0 l1=true) (hlast:(List.range l1.length).all (inL (bnd o))=true) (hbo:∀ j∈bnd o,j<l1.length) (hd:∀ (i:Nat) p,(l1++[o]).toArray[i]?=some p→(match p.op with|.defer _=>false|_=>true)=true):
  ∀ (fuel:Nat) (s1 s:Array Bool) (a:Act) (w:World),s1.size=l1.length→s.size=l1.length+1→(∀ i,i<l1.length→s[i]?=s1[i]?)→s[l1.length]?=some false→
   wpAnyIn Fence.wide 0 P .any l1.toArray (fun e a w=>e=.normal∧wpOpIn Fence.wide 0 P (l1++[o]).toArray Q l1.length (fun a w=>Q .normal a w) a w) fuel s1 a w→wpAnyIn Fence.wide 0 P .any (l1++[o]).toArray Q (fuel+1) s a w:=by
 have hlen:(l1++[o]).length=l1.length+1:=by simp
 have hol:(l1++[o])[l1.length]?=some o:=by rw[List.getElem?_append_right (Nat.le_refl _)];simp
 have hall:∀ j,j<l1.length→j∈bnd o:=fun j hj=>zhJ.1 (List.all_eq_true.1 hlast j (List.mem_range.2 hj))
 -- the last one, when all are listed
 have last:∀ (fuel:Nat) (s:Array Bool) (a:Act) (w:World),s.size=l1.length+1→(∀ i,i<l1.length→s[i]?=some true)→s[l1.length]?=some false→wpOpIn Fence.wide 0 P (l1++[o]).toArray Q l1.length (fun a w=>Q .normal a w) a w→wpAnyIn Fence.wide 0 P .any (l1++[o]).toArray Q (fuel+1) s a w:=by
  intro fuel s a w hs h1 h2 h3;have hr:l1.length∈Region.ready .any (l1++[o]).toArray s:=zpA hol h2 fun j hj=>h1 j (hbo j hj);refine ⟨fun e=>(by rw[e] at hr;cases hr),fun i hi=>?_⟩;obtain ⟨p,hp,hnl,_⟩:=zkQ hi;have hil:=(List.getElem?_eq_some_iff.1 hp).1;have hie:i=l1.length:=by
   rcases Nat.lt_or_ge i l1.length with q|q
   ·exact absurd (h1 i q) hnl
   ·omega
  subst hie;refine wpOpIn_mono (fun a w q=>?_) h3;have hnone:∀ s',(∀ i,i<l1.length+1→s'[i]?=some true)→Region.ready .any (l1++[o]).toArray s'=[]:=by
   intro s' hs';rw[List.eq_nil_iff_forall_not_mem];intro i hi;obtain ⟨p,hp,hnl,_⟩:=zkQ hi;have:=(List.getElem?_eq_some_iff.1 hp).1;exact hnl (hs' i zU)
  have hn:Region.ready .any (l1++[o]).toArray (s.setIfInBounds l1.length true)=[]:=by
   refine hnone _ fun i hi=>?_
   by_cases e:i=l1.length
   ·subst e;simp[hs]
   ·rw[Array.getElem?_setIfInBounds_ne (fun z=>e z.symm)];exact h1 i zU
  cases fuel with
  | zero=>exact ⟨hn,q⟩
  | succ fuel=>exact ⟨fun _=>q,fun i hi=>by rw[hn] at hi;cases hi⟩
 intro fuel
 induction fuel with
 | zero=>
  intro s1 s a w z1 z2 hr hf h;have ha:=zsw hlow z1 h.1;exact last 0 s a w z2 (fun i hi=>by rw[hr i hi];exact ha i hi) hf h.2.2
 | succ fuel ih=>
  intro s1 s a w z1 z2 hr hf h
  by_cases hn:Region.ready .any l1.toArray s1=[]
  ·have ha:=zsw hlow z1 hn;exact last _ s a w z2 (fun i hi=>by rw[hr i hi];exact ha i hi) hf (h.1 hn).2
  ·obtain ⟨k,hk⟩:=List.exists_mem_of_ne_nil _ hn;have up:∀ i,i∈Region.ready .any l1.toArray s1→i∈Region.ready .any (l1++[o]).toArray s:=by
    intro i hi;obtain ⟨p,hp,hnl,hb⟩:=zkQ hi;have hil:=(List.getElem?_eq_some_iff.1 hp).1;have e1:s1[i]?=some false:=by
     cases e:s1[i]? with
     | none=>rw[Array.getElem?_eq_none_iff] at e;omega
     | some b=>cases b with
      | false=>rfl
      | true=>exact absurd e hnl
    refine zpA (o:=p) (by rw[List.getElem?_append_left hil];exact hp) (by rw[hr i hil];exact e1) fun j hj=>?_;have:=(zme hlow hp).1 j hj;rw[hr j zU];exact hb j hj
   refine ⟨fun e=>(by have:=up k hk;rw[e] at this;cases this),fun i hi=>?_⟩;obtain ⟨p,hp,hnl,hb⟩:=zkQ hi;have hil:=(List.getElem?_eq_some_iff.1 hp).1
   rcases Nat.lt_or_ge i l1.length with q|q
   ·have hp1:l1[i]?=some p:=by rw[List.getElem?_append_left q] at hp;exact hp
    have hi1:i∈Region.ready .any l1.toArray s1:=by
     have e1:s1[i]?=some false:=by
      cases e:s1[i]? with
      | none=>rw[Array.getElem?_eq_none_iff] at e;omega
      | some b=>cases b with
       | false=>rfl
       | true=>exact absurd ((hr i q).trans e) hnl
     refine zpA hp1 e1 fun j hj=>?_;have:=(zme hlow hp1).1 j hj;rw[← hr j zU];exact hb j hj
    have h2:=zAc (o:=o) hlow q (h.2 i hi1);have h3:=zvc (r:=none) (ds:=[]) (k:=0) (q':=Q) (K':=wpAnyIn Fence.wide 0 P .any (l1++[o]).toArray Q (fuel+1) (s.setIfInBounds i true)) (fun e a w z=>z.1) (fun a1 a2 w g1 g2 g=>by
     have e:a2=a1:=by cases a1;cases a2;simp at g1 g2;subst g1;subst g2;rfl
     subst e;refine ih _ _ _ _ (by simpa using z1) (by simpa using z2) (fun j hj=>?_) ?_ g
     ·by_cases e:j=i
      ·subst e;rw[Array.getElem?_setIfInBounds_self_of_lt zU,Array.getElem?_setIfInBounds_self_of_lt zU]
      ·rw[Array.getElem?_setIfInBounds_ne (fun z=>e z.symm),Array.getElem?_setIfInBounds_ne (fun z=>e z.symm)];exact hr j hj
     ·rw[Array.getElem?_setIfInBounds_ne zU];exact hf) (hd i) a a w rfl (by simp) h2
    exact h3
   ·have hie:i=l1.length:=by omega
    subst hie;have:p=o:=by rw[hol] at hp;exact (Option.some.inj hp).symm
    subst this;exfalso;obtain ⟨p2,hp2,hnl2,_⟩:=zkQ hk;have hkl:=(List.getElem?_eq_some_iff.1 hp2).1;exact hnl2 (by rw[← hr k hkl];exact hb k (hall k hkl))
theorem zvr {own0:Own} {er:Er} {dsts:List Nat} {Q:Exit→Env→World→Prop} {id:Nat} (m:Nat) (o:Oper) (hl:l=l.take m++[o]) (hnd:zlF l=true) (hlow:zrl 0 (l.take m)=true) (hlast:(List.range (l.take m).length).all (inL (bnd o))=true) (hbo:(bnd o).all (fun j=>Nat.blt j (l.take m).length)=true) (st:St h0 w0 h w own0) (hm:P.follows .mixedOrders=true) (hd:Drw P n (l.take m) h0 w0 own0 h er dsts σ (fun e σ' w'=>e=.normal∧E P n l.toArray [o] (fun σ w=>Q .normal σ w) σ' w') [] [] (l.take m)):W P n (.region id l.toArray true) Q σ w:=by
 obtain ⟨ks,cx,h1,h2,h3⟩:=hd (by simp);simp only[List.reverse_nil,List.nil_append] at h1 h2 h3;have hget:=zrj hnd;generalize hl1:l.take m=l1 at *;subst hl;intro a ha;refine (wpIn_wide (n:=0)).1 (wpIn_region_any hm ?_);have hol:(l1++[o])[l1.length]?=some o:=by rw[List.getElem?_append_right (Nat.le_refl _)];simp
 have e1:(l1++[o]).toArray.size=l1.length+1:=by simp
 rw[e1];refine zBL hlow hlast (fun j hj=>by simpa using List.all_eq_true.1 hbo j hj) (fun i p hp=>hget i p (by simpa using hp)) l1.length (Array.replicate l1.length false) (Array.replicate (l1.length+1) false) a _ (by simp) (by simp) (fun i hi=>?_) (by simp) ?_
 ·simp[Array.getElem?_replicate,hi,show i<l1.length+1 by omega]
 have h4:=zDb st h2 h1 h3 a ha;have e2:l1.toArray.size=l1.length:=by simp
 rw[e2] at h4;refine zwG (r:=none) (ds:=[]) (k:=0) ?_ ?_ (fun i p hp=>hget i p (by
  have hp':l1[i]?=some p:=by simpa using hp
  rw[List.getElem?_append_left (List.getElem?_eq_some_iff.1 hp').1];exact hp')) _ _ a a _ rfl (by simp) h4
 ·rintro e b1 b2 u g1 g2 ⟨σ',hf,rfl,q⟩;have eb:b2=b1:=by cases b1;cases b2;simp at g1 g2;subst g1;subst g2;rfl
  subst eb;refine ⟨rfl,?_⟩;have q2:=q b2 hf;have q3:wpOpIn Fence.wide 0 P (l1++[o]).toArray (fun e a' w'=>e=.normal∧∃ σ',Fits n a' σ'∧Q .normal σ' w') l1.length (fun a' w'=>(.normal:Exit)=.normal∧∃ σ',Fits n a' σ'∧Q .normal σ' w') b2 u:=by
   unfold wpOpIn;rw[List.getElem?_toArray,hol];exact q2
  exact zvc (r:=none) (ds:=[]) (k:=0) (fun e a w z=>z.1) (fun a1 a2 w g1 g2 g=>by
   have e:a2=a1:=by cases a1;cases a2;simp at g1 g2;subst g1;subst g2;rfl
   subst e;exact g.2) (fun p hp=>hget l1.length p (by simpa using hp)) b2 b2 u rfl (by simp) q3
 ·rintro e b u ⟨_,_,rfl,_⟩;rfl
section
variable {P:Program} {σ:Env} {w:World} {ty:TypeId} {pos:String} {aft:Array Edge} {g:Option (Nat×Bool)} {dst:Option Tmp}
theorem zzP {s:TypeId} {fs:Array Field} {f:Field} {v:Value} (hx:ev σ x=.agg vs.toArray) (hu:P.underlying s=some (.struct fs)) (hf:fs[k]?=some f) (ha:∀ w,(isAgg f.type).run P w=.ok false w) (hv:vs[f.offset]?=some v):
  Run P σ w ⟨dst,.field s x k,ty,pos,aft,g⟩ v w:=by
 simp[Run,execOp,hx,Instr.field,run_underlying hu,hf,asAgg,part,ha,hv]
end
end Go.Pk
