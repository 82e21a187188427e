/- Walks and plain laws that lead to the given statement, part 8 of 9. -/
import Derived.Test.YthilckbkffjliaaQG
import Derived.Laws.BytesString
import Derived.Test.YthilckbkffjliaaProg
set_option maxRecDepth 100000
set_option maxHeartbeats 60000000
set_option linter.all false
open Nat renaming reduceAdd->rA,reduceMul->rM,reduceSub->rS,beq_refl->nbr
namespace Go.Azalai
def mI:Nat->List Letter->List Nat
 | _,[]=>[]
 | k,x :: l=>if x.mouth=true then k :: mI (k+1) l else mI (k+1) l
def mN (l:List Letter):Nat:=(l.filter (·.mouth)).length
theorem V7:∀ {l:List Letter} {k:Nat},(mI k l).length=mN l
 | [],_=>rfl
 | x :: l,k=>by
  simp only [mI,mN,List.filter_cons]
  split
  . simp [V7 (l:=l),mN]
  . exact V7
theorem Zky:∀ {a b:List Letter} {k:Nat},mI k (a ++ b)=mI k a ++ mI (k+a.length) b
 | [],b,k=>by simp [mI]
 | x :: a,b,k=>by
  simp only [List.cons_append,mI,List.length_cons]
  rw [Zky (a:=a),show k+1+a.length=k+(a.length+1) from by omega]
  split
  . rfl
  . rfl
theorem Zoy:∀ {l:List Letter} {k y:Nat},y ∈ mI k l->k<=y/\y < k+l.length
 | x :: l,k,y,h=>by
  simp only [mI] at h
  simp only [List.length_cons]
  split at h
  . rcases List.mem_cons.1 h with rfl | h
    . omega
    . have:=Zoy h;omega
  . have:=Zoy h;omega
theorem Ze7 {α : Type} {g:α->Bool}:∀ {a b:List α} {k:Nat},(∀ x ∈ a,g x=false)->Wd g (a ++ b) k=Wd g b (k+a.length)
 | [],b,k,_=>by simp
 | x :: a,b,k,h=>by
  simp only [List.cons_append,Wd,h x (by simp),List.length_cons,Bool.false_eq_true,if_false]
  rw [Ze7 fun y hy=>h y (by simp [hy]),show k+1+a.length=k+(a.length+1) from by omega]
theorem ZdA {α : Type} {g:α->Bool}:∀ {a:List α} {k:Nat},(∀ x ∈ a,g x=false)->Wd g a k = -1
 | [],_,_=>rfl
 | x :: a,k,h=>by
  simp only [Wd,h x (by simp),Bool.false_eq_true,if_false]
  exact ZdA fun y hy=>h y (by simp [hy])
theorem Zys {X:List Letter} {i:Nat} (hi:i < X.length):Wd (fun y:Nat=>decide (y=i)) (mI 0 X) 0=if X[i].mouth=true then (mN (X.take i):Int) else -1:=by
 have e:X=X.take i ++ X[i] :: X.drop (i+1):=by rw [<- List.drop_eq_getElem_cons hi,List.take_append_drop]
 have hl:(X.take i).length=i:=by simp;omega
 have e2:mI 0 X=mI 0 (X.take i) ++ mI i (X[i] :: X.drop (i+1)):=by
  conv=>lhs;rw [e]
  rw [Zky,hl,Nat.zero_add]
 have h1:∀ y ∈ mI 0 (X.take i),decide (y=i)=false:=fun y hy=>by
  have:=Zoy hy
  rw [hl] at this
  simp;omega
 rw [e2,Ze7 h1,V7,Nat.zero_add]
 simp only [mI]
 by_cases hm:X[i].mouth=true
 . rw [if_pos hm,if_pos hm,Wd,decide_eq_true rfl,if_pos rfl]
 . rw [if_neg hm,if_neg hm]
   exact ZdA fun y hy=>by have:=Zoy hy;simp;omega
theorem Ur {set:Nat} {x:Letter}:∀ {a:List Letter} {k:Nat},ZT set k (a ++ [x])=ZT set k a ++ (if x.mouth=true then (if set.testBit (k+mN a)=true then [x] else []) else [x])
 | [],k=>by
  simp only [List.nil_append,ZT,mN,List.filter_nil,List.length_nil,Nat.add_zero]
  rfl
 | y :: a,k=>by
  simp only [List.cons_append,ZT,mN,List.filter_cons]
  by_cases hy:y.mouth=true
  . have:=Ur (set:=set) (x:=x) (a:=a) (k:=k+1)
    simp only [if_pos hy,List.length_cons]
    rw [this,show k+1+mN a=k+((a.filter (·.mouth)).length+1) from by simp only [mN];omega]
    split<;>rfl
  . have:=Ur (set:=set) (x:=x) (a:=a) (k:=k)
    simp only [if_neg hy]
    rw [this];rfl
theorem Zdt {set:Nat} {X:List Letter} {i:Nat} (hi:i < X.length):ZT set 0 (X.take (i+1))=ZT set 0 (X.take i) ++ (if X[i].mouth=true then (if set.testBit (mN (X.take i))=true then [X[i]] else []) else [X[i]]):=by
 rw [List.take_succ_eq_append_getElem hi,Ur,Nat.zero_add]
theorem Zhr {X:List Letter} {i:Nat} (hi:i < X.length):mI 0 (X.take (i+1))=mI 0 (X.take i) ++ (if X[i].mouth=true then [i] else []):=by
 rw [List.take_succ_eq_append_getElem hi,Zky]
 have hl:(X.take i).length=i:=by simp;omega
 simp only [mI,hl,Nat.zero_add]
def alR (p:Pact) (X:List Letter):Nat->Nat->Int × Int
 | 0,_=>(0,0)
 | s+1,i=>(Zbn (Zq p X i) s,ZbP (Zq p X i) s)
def alL (p:Pact) (X:List Letter) (set k:Nat):List (Int × Int):=(List.range p.partners.length).map fun i=>if i < k then alR p X (set+1) i else alR p X set i
theorem W2 {p:Pact} {X:List Letter} {set k:Nat}:(alL p X set k).length=p.partners.length:=by simp [alL]
theorem Zel {p:Pact} {X:List Letter} {set k i:Nat} (hi:i < (alL p X set k).length):(alL p X set k)[i]=if i < k then alR p X (set+1) i else alR p X set i:=by simp [alL]
theorem Zj0 {p:Pact} {X:List Letter} {set k:Nat} (hk:k < p.partners.length):(alL p X set k).set k (alR p X (set+1) k)=alL p X set (k+1):=by
 apply List.ext_getElem
 . simp [alL]
 intro i h1 h2
 rw [List.getElem_set,Zel,Zel]
 by_cases e:k=i
 . rw [if_pos e,if_pos (by omega),e]
 . rw [if_neg e]
   by_cases q:i < k
   . rw [if_pos q,if_pos (by omega)]
   . rw [if_neg q,if_neg (by omega)]
theorem ZmL {p:Pact} {X:List Letter} {set:Nat}:alL p X set p.partners.length=alL p X (set+1) 0:=by
 apply List.map_congr_left
 intro i hi
 rw [if_pos (List.mem_range.1 hi),if_neg (by omega)]
theorem ZpO {p:Pact} {X:List Letter}:alL p X (2 ^ mN X) 0=XM p X:=by
 have:∃ s,2 ^ mN X=s+1:=⟨2 ^ mN X - 1,by have:=Nat.two_pow_pos (mN X);omega⟩
 obtain ⟨s,hs⟩:=this
 have h2:2 ^ (X.filter (·.mouth)).length - 1=s:=by have:2 ^ (X.filter (·.mouth)).length=s+1:=hs;omega
 simp only [alL,XM,hs,h2]
 apply List.map_congr_left
 intro i _
 rw [if_neg (by omega)];rfl
theorem alL_0 {p:Pact} {X:List Letter}:alL p X 0 0=List.replicate p.partners.length (0,0):=by
 rw [List.eq_replicate_iff]
 refine ⟨W2,fun b hb=>?_⟩
 obtain ⟨i,_,rfl⟩:=List.mem_map.1 hb
 rw [if_neg (by omega)];rfl
def Xj (p:Pact) (l:List Letter):Int:=if YB p l=0 then (if mN (YD p l) > 6 then 83 else 0) else YB p l
def Ww (p:Pact) (l:List Letter):List (Int × Int):=if Xj p l=0 then XM p (YD p l) else []
end Go.Azalai
namespace Go.Proofs.Ythilckbkffjliaa
open Go Go.Sx Go.Azalai
def Zj (x:Int × Int):List SV:=[I x.1,I x.2]
theorem Zil {m:Nat} (h:m<=6) (w:World):(binOp .shl 3 (.int .i64 1) (.int .i64 m)).run Try.prog w = .ok (.int .i64 ((2 ^ m:Nat):Int)) w:=by
 have:m=0\/m=1\/m=2\/m=3\/m=4\/m=5\/m=6:=by omega
 rcases this with rfl | rfl | rfl | rfl | rfl | rfl | rfl<;>rfl
theorem Zh5 {s k:Nat} (h:k<=6) (w:World):(binOp .shr 3 (.int .i64 s) (.int .i64 k)).run Try.prog w = .ok (.int .i64 ((s / 2 ^ k:Nat):Int)) w:=by
 simp only [binOp,Op.shift]
 rw [if_neg (by omega)]
 have h1:(s:Int).fdiv (2 ^ k)=((s / 2 ^ k:Nat):Int):=by
  rw [Int.fdiv_eq_ediv_of_nonneg _ (Int.le_of_lt (Int.pow_pos (by decide)))]
  simp
 show Result.ok (Value.int .i64 ((s:Int).fdiv (2 ^ (min ((k:Nat):Int).toNat IntKind.i64.bits)))) w=_
 rw [show min ((k:Nat):Int).toNat IntKind.i64.bits=k from by show min ((k:Nat):Int).toNat 64=k;omega,h1]
theorem Ziq {s:Nat} (h:s < 1000000) (w:World):(binOp .and 3 (.int .i64 s) (.int .i64 1)).run Try.prog w = .ok (.int .i64 ((s % 2:Nat):Int)) w:=by
 have e:(BitVec.ofInt 64 (s:Int) &&& BitVec.ofInt 64 1).toNat=s % 2:=by
  rw [BitVec.toNat_and,show (BitVec.ofInt 64 1).toNat=2 ^ 1 - 1 from by decide,Nat.and_two_pow_sub_one_eq_mod,BitVec.ofInt_natCast,BitVec.toNat_ofNat]
  omega
 show Result.ok (Value.int .i64 (IntKind.i64.wrap (((BitVec.ofInt 64 (s:Int) &&& BitVec.ofInt 64 1).toNat:Nat):Int))) w=_
 rw [e]
 exact congrArg (fun z=>Result.ok (Value.int .i64 z) w) (Zk (by omega) (by omega))
theorem idx58 (v:Nat) (l:List Nat) (hl:l.length < 1000000) {c:Bool}:Ct Try.prog 58 [.sl c 1 (l.map Z5),I (v:Int)] (I (Wd (fun y=>decide (y=v)) l 0)):=by
 refine t58.1 (by simp [Z5,Zc,KFL,KF]) (by simp [KFL,KF]) ?_
 dsimp only [c58,r58,go_sem,rA,rM,rS]
 simp only [List.length_map]
 refine YM (fun k:Nat=>[(8,I (k:Nat))]) (fun _=>[]) (fun k=>k<=l.length/\Wd (fun y=>decide (y=v)) (l.drop k) k=Wd (fun y=>decide (y=v)) l 0) (fun k=>l.length - k) 0 ⟨Nat.zero_le _,rfl⟩ ?_ ?_
 . (refine Zh ?_ ?_ ?_ rfl rfl<;>dsimp only [Z5,id,go_sem,rA,rM,rS]<;>simp [Z5,Zc,Zf,KFR,KFL,KF,Zd,mtO,nbr])
 intro k ⟨hk,hi⟩
 dsimp only [go_sem,rA,rM,rS]
 by_cases hlt:k < l.length
 . refine ZU (by simpa using hlt) ?_
   dsimp only [go_sem,rA,rM,rS]
   refine ZQ k hlt rfl ?_
   dsimp only [Z5,go_sem,rA,rM,rS]
   rw [<- hi,List.drop_eq_getElem_cons hlt]
   by_cases hv:l[k]=v
   . refine ZU (by simp [hv]) ?_
     dsimp only [go_sem,rA,rM,rS]
     simp [Wd,hv]
   . refine ZH (by simp;omega) ?_
     dsimp only [go_sem,rA,rM,rS]
     rw [Zk (n:=(k:Int)+1) (by omega) (by omega)]
     have e1:Wd (fun y=>decide (y=v)) (l[k] :: l.drop (k+1)) k=Wd (fun y=>decide (y=v)) (l.drop (k+1)) (k+1):=by simp [Wd,hv]
     refine ⟨k+1,⟨hlt,by rw [<- e1]⟩,by omega,?_⟩
     (refine Zh ?_ ?_ ?_ rfl rfl<;>dsimp only [Z5,id,go_sem,rA,rM,rS]<;>simp [Z5,Zc,Zf,KFR,KFL,KF,Zd,mtO,nbr])
 refine ZH (by simpa using hlt) ?_
 dsimp only [go_sem,rA,rM,rS]
 rw [<- hi,List.drop_eq_nil_of_le (by omega)]
 simp [Wd]
theorem u31 {args:List SV} {res:SV} (ka:KFL args) (kr:KF res) (h:sx Try.prog Y0 0 c31 (st0 args 117) (ZvA r31 res)) (hA:Nat.ble args.length 117=true:=by rfl):Ct Try.prog 31 args res:=Uc Try.func31 rfl b31 Zzi ZyG n31 (Nat.le_of_ble_eq_true hA) ka kr h
theorem ZcK (p:Pact) (l:List Letter) (hs:YY p) (hl:l.length<=1000) (c:Bool):Ct Try.prog 31 [.agg (Zg p),.sl c 8 (l.map Zb)] (.tup [.sl false 2 ((Ww p l).map Zj),I (Xj p l)]):=by
 refine u31 (by simp [Zg,Za,Zb,Zc,KFL,KF]) (by simp [Zc,Zj,KFL,KF]) ?_
 have herr:∀ e,Xj p l=e->e≠0->ZbX (.tup [.v (.slice none 0 0),I e]) (.tup [.sl false 2 ((Ww p l).map Zj),I (Xj p l)]):=fun e h1 h2=>by
  rw [Ww,h1,if_neg h2]
  exact Zac (Wk Ue fun _ _ _ _ _ h=>h)
 dsimp only [c31,r31,Zg,go_sem,rA,rM,rS]
 refine call (ZdV p l hs hl c) ?_
 dsimp only [go_sem,rA,rM,rS]
 by_cases h0:YB p l=0
 case neg =>
  refine ZU (by simpa using h0) ?_
  dsimp only [go_sem,rA,rM,rS]
  refine ⟨_,rfl,herr _ (by rw [Xj,if_neg h0]) h0⟩
 refine ZH (by simpa using h0) ?_
 dsimp only [go_sem,rA,rM,rS]
 obtain ⟨hp,h100,-,-⟩:=VD h0
 have h8:=(Y7 hp).2.2.2.2.2.2
 have hlen:=W1 (p:=p) (l:=l)
 have hr:VR p l=YD p l:=by rw [VR,if_pos h0]
 have hsE:Xj p l=if mN (YD p l) > 6 then 83 else 0:=by rw [Xj,if_pos h0]
 have hsR:mN (YD p l)<=6->Ww p l=XM p (YD p l):=fun h=>by
  have hz:Xj p l=0:=by rw [hsE];exact if_neg (by omega)
  rw [Ww,if_pos hz]
 rw [hr]
 have hX:=U4 h0
 generalize YD p l=X at *
 simp only [List.length_map]
 refine Zb1 (Yh 8 1 3 rfl rfl) (fun s:Nat=>[(30,I (s:Nat)),(8,.mr 1 (mN (X.take s)))]) (fun s=>[(1,.row (mN (X.take s)) 1 ((mI 0 (X.take s)).map Z5) 3)]) (fun s=>s<=X.length) (fun s=>X.length - s) 0 (Nat.zero_le _) ?_ ?_
 . (refine Zh ?_ ?_ ?_ rfl rfl<;>dsimp only [Zg,Za,Zb,mI,mN,id,go_sem,rA,rM,rS]<;>simp [Zg,Za,Zb,mI,mN,Zc,Zf,KFR,KFL,KF,Zd,mtO,nbr])
 intro k hk
 dsimp only [go_sem,rA,rM,rS]
 by_cases hlt:k < X.length
 . refine ZU (by simpa using hlt) ?_
   dsimp only [go_sem,rA,rM,rS]
   refine ZQ k hlt rfl ?_
   dsimp only [Zb,go_sem,rA,rM,rS]
   have hmI:=Zhr hlt
   have hml:=V7 (l:=X.take (k+1)) (k:=0)
   have hml0:=V7 (l:=X.take k) (k:=0)
   by_cases hm:X[k].mouth=true
   . refine ZU hm ?_
     (repeat first | dsimp only [go_sem,rA,rM,rS] | simp only [nbr])
     have hbd:(mI 0 (X.take k)).length<=X.length:=by
      rw [hml0];exact Nat.le_trans (List.length_filter_le _ _) (by simp;omega)
     refine ⟨by simp [Z9,WQ,U9],by simp;omega,?_⟩
     (repeat first | dsimp only [go_sem,rA,rM,rS] | simp only [nbr])
     rw [if_pos hm] at hmI
     have e1:(mI 0 (X.take k)).map Z5 ++ [[I (k:Int)]]=(mI 0 (X.take (k+1))).map Z5:=by rw [hmI,List.map_append];rfl
     have e2:mN (X.take k)+1=mN (X.take (k+1)):=by rw [<- hml,<- hml0,hmI];simp
     rw [e1,e2,Zk (n:=(k:Int)+1) (by omega) (by omega)]
     refine ⟨k+1,hlt,by omega,?_⟩
     (refine Zh ?_ ?_ ?_ rfl rfl<;>dsimp only [Zg,Za,Zb,Z5,id,go_sem,rA,rM,rS]<;>simp [Zg,Za,Zb,Z5,Zc,Zf,KFR,KFL,KF,Zd,mtO,nbr])
   . refine ZH (by simpa using hm) ?_
     (repeat first | dsimp only [go_sem,rA,rM,rS] | simp only [nbr])
     rw [if_neg hm,List.append_nil] at hmI
     have e2:mN (X.take k)=mN (X.take (k+1)):=by rw [<- hml,<- hml0,hmI]
     rw [<- hmI,e2,Zk (n:=(k:Int)+1) (by omega) (by omega)]
     refine ⟨k+1,hlt,by omega,?_⟩
     (refine Zh ?_ ?_ ?_ rfl rfl<;>dsimp only [Zg,Za,Zb,Z5,id,go_sem,rA,rM,rS]<;>simp [Zg,Za,Zb,Z5,Zc,Zf,KFR,KFL,KF,Zd,mtO,nbr])
 refine ZH (by simpa using hlt) ?_
 dsimp only [go_sem,rA,rM,rS]
 have hkl:k=X.length:=by omega
 subst hkl
 rw [List.take_length]
 have hmN:=V7 (l:=X) (k:=0)
 refine gh (X7 8 1 (mN X) rfl rfl rfl rfl) ?_
 dsimp only [go_sem,rA,rM,rS]
 simp only [List.length_map,hmN]
 by_cases h6:mN X > 6
 . refine ZU (by simp;omega) ?_
   dsimp only [go_sem,rA,rM,rS]
   refine ⟨_,rfl,herr 83 (by rw [hsE,if_pos h6]) (by omega)⟩
 refine ZH (by simp;omega) ?_
 dsimp only [go_sem,rA,rM,rS]
 simp only [List.length_map]
 have hR:=hsR (by omega)
 have hE0:Xj p l=0:=by rw [hsE];exact if_neg h6
 rw [hR,hE0]
 have hal:∀ set k:Nat,KFR ((alL p X set k).map Zj):=fun set k=>Zc.2 fun x _=>by simp [Zj,KFL,KF]
 refine ⟨p.partners.length,rfl,by omega,?_⟩
 dsimp only [go_sem,rA,rM,rS]
 have e0:List.replicate p.partners.length [SV.v (Value.int IntKind.i64 0),SV.v (Value.int IntKind.i64 0)]=(alL p X 0 0).map Zj:=by rw [alL_0,List.map_replicate];rfl
 rw [e0]
 simp only [List.length_map,hmN]
 refine Vg rfl rfl (.inr (.inr rfl)) (Zil (by omega)) ?_
 dsimp only [go_sem,rA,rM,rS]
 have hpow:2 ^ mN X<=64:=by
  have:2 ^ mN X<=2 ^ 6:=Nat.pow_le_pow_right (by omega) (by omega)
  omega
 have hdone:=ZpO (p:=p) (X:=X)
 have h2k:∀ k,k<=mN X->2 ^ k<=2 ^ mN X:=fun k hk=>Nat.pow_le_pow_right (by omega) hk
 generalize hNN:2 ^ mN X=N at *
 refine YM (fun s:Nat=>[(52,I (s:Nat))]) (fun s=>[(2,.row 0 2 ((alL p X s 0).map Zj) 70)]) (fun s=>s<=N) (fun s=>N - s) 0 (Nat.zero_le _) ?_ ?_
 . (refine Zh ?_ ?_ ?_ rfl rfl<;>dsimp only [Zg,Za,Zb,Z5,hal,id,go_sem,rA,rM,rS]<;>simp [Zg,Za,Zb,Z5,hal,Zc,Zf,KFR,KFL,KF,Zd,mtO,nbr])
 intro set hset
 dsimp only [go_sem,rA,rM,rS]
 by_cases hlt2:set < N
 case neg =>
  refine ZH (by simpa using hlt2) ?_
  dsimp only [go_sem,rA,rM,rS]
  have hse:set=N:=by omega
  rw [hse,hdone]
  refine gh (X7 11 2 0 rfl rfl rfl rfl) ?_
  dsimp only [go_sem,rA,rM,rS]
  refine ⟨_,rfl,ZbX.rfl⟩
 refine ZU (by simpa using hlt2) ?_
 dsimp only [go_sem,rA,rM,rS]
 simp only [List.length_map]
 refine Zb1 (Yh 13 8 50 rfl rfl) (fun s:Nat=>[(57,I (s:Nat)),(13,.mr 3 (ZT set 0 (X.take s)).length)]) (fun s=>[(3,.row (ZT set 0 (X.take s)).length 8 ((ZT set 0 (X.take s)).map Zb) 50)]) (fun s=>s<=X.length) (fun s=>X.length - s) 0 (Nat.zero_le _) ?_ ?_
 . (refine Zh ?_ ?_ ?_ rfl rfl<;>dsimp only [Zg,Za,Zb,Z5,hal,ZT,id,go_sem,rA,rM,rS]<;>simp [Zg,Za,Zb,Z5,hal,ZT,Zc,Zf,KFR,KFL,KF,Zd,mtO,nbr])
 intro i hi
 dsimp only [go_sem,rA,rM,rS]
 by_cases hlt3:i < X.length
 . refine ZU (by simpa using hlt3) ?_
   dsimp only [go_sem,rA,rM,rS]
   refine ZQ i hlt3 rfl ?_
   dsimp only [Zb,go_sem,rA,rM,rS]
   have hix:=Zys (X:=X) hlt3
   have hst:=Zdt (set:=set) (X:=X) hlt3
   have hsl:(ZT set 0 (X.take i)).length<=X.length:=Nat.le_trans Xi.length_le (by simp;omega)
   have hml:mN (X.take i)<=mN X:=by
    unfold mN;exact ((List.take_sublist i X).filter _).length_le
   refine call (idx58 i (mI 0 X) (by omega)) ?_
   (repeat first | dsimp only [go_sem,rA,rM,rS] | simp only [nbr])
   by_cases hm:X[i].mouth=true
   . rw [if_pos hm] at hix hst
     rw [hix]
     have g:decide (((mN (X.take i):Nat):Int) < 0)=false:=by simp
     simp only [g]
     refine Zx rfl ?_
     (repeat first | dsimp only [go_sem,rA,rM,rS] | simp only [nbr])
     refine Zx rfl ?_
     (repeat first | dsimp only [go_sem,rA,rM,rS] | simp only [nbr])
     refine Zx rfl ?_
     (repeat first | dsimp only [go_sem,rA,rM,rS] | simp only [nbr])
     refine Vg rfl rfl (.inr (.inl rfl)) (Zh5 (by omega)) ?_
     (repeat first | dsimp only [go_sem,rA,rM,rS] | simp only [nbr])
     refine Zx rfl ?_
     (repeat first | dsimp only [go_sem,rA,rM,rS] | simp only [nbr])
     refine Vg rfl rfl (.inl rfl) (Ziq (Nat.lt_of_le_of_lt (Nat.div_le_self _ _) (by omega))) ?_
     (repeat first | dsimp only [go_sem,rA,rM,rS] | simp only [nbr])
     refine Zx rfl ?_
     (repeat first | dsimp only [go_sem,rA,rM,rS] | simp only [nbr])
     have htb:set.testBit (mN (X.take i))=decide (set / 2 ^ mN (X.take i) % 2=1):=Nat.testBit_eq_decide_div_mod_eq
     generalize hbit:set / 2 ^ mN (X.take i) % 2=bit at *
     by_cases hb1:bit=1
     . refine ZU (by simp [hb1]) ?_
       (repeat first | dsimp only [go_sem,rA,rM,rS] | simp only [nbr])
       rw [htb,hb1,decide_eq_true rfl,if_pos rfl] at hst
       refine ⟨by simp [Z9,WQ,U9],by simp;omega,?_⟩
       (repeat first | dsimp only [go_sem,rA,rM,rS] | simp only [nbr])
       have e1:(ZT set 0 (X.take i)).map Zb ++ [Zb X[i]]=(ZT set 0 (X.take (i+1))).map Zb:=by rw [hst,List.map_append];rfl
       have e2:(ZT set 0 (X.take i)).length+1=(ZT set 0 (X.take (i+1))).length:=by rw [hst];simp
       simp only [Zb] at e1
       rw [e1,e2,Zk (n:=(i:Int)+1) (by omega) (by omega)]
       refine ⟨i+1,hlt3,by omega,?_⟩
       (refine Zh ?_ ?_ ?_ rfl rfl<;>dsimp only [Zg,Za,Zb,Z5,hal,id,go_sem,rA,rM,rS]<;>simp [Zg,Za,Zb,Z5,hal,Zc,Zf,KFR,KFL,KF,Zd,mtO,nbr])
     . refine ZH (by simp;omega) ?_
       (repeat first | dsimp only [go_sem,rA,rM,rS] | simp only [nbr])
       rw [htb,if_neg (by simp [hb1]),List.append_nil] at hst
       rw [<- hst,Zk (n:=(i:Int)+1) (by omega) (by omega)]
       refine ⟨i+1,hlt3,by omega,?_⟩
       (refine Zh ?_ ?_ ?_ rfl rfl<;>dsimp only [Zg,Za,Zb,Z5,hal,id,go_sem,rA,rM,rS]<;>simp [Zg,Za,Zb,Z5,hal,Zc,Zf,KFR,KFL,KF,Zd,mtO,nbr])
   . rw [if_neg hm] at hix hst
     rw [hix]
     have g:decide ((-1:Int) < 0)=true:=by decide
     simp only [g]
     refine Zu (by decide) ?_
     (repeat first | dsimp only [go_sem,rA,rM,rS] | simp only [nbr])
     refine Zu (by decide) ?_
     (repeat first | dsimp only [go_sem,rA,rM,rS] | simp only [nbr])
     refine Zu (by decide) ?_
     (repeat first | dsimp only [go_sem,rA,rM,rS] | simp only [nbr])
     refine Zu (by decide) ?_
     (repeat first | dsimp only [go_sem,rA,rM,rS] | simp only [nbr])
     refine Zu (by decide) ?_
     (repeat first | dsimp only [go_sem,rA,rM,rS] | simp only [nbr])
     refine ZU rfl ?_
     (repeat first | dsimp only [go_sem,rA,rM,rS] | simp only [nbr])
     refine ⟨by simp [Z9,WQ,U9],by simp;omega,?_⟩
     (repeat first | dsimp only [go_sem,rA,rM,rS] | simp only [nbr])
     have e1:(ZT set 0 (X.take i)).map Zb ++ [Zb X[i]]=(ZT set 0 (X.take (i+1))).map Zb:=by rw [hst,List.map_append];rfl
     have e2:(ZT set 0 (X.take i)).length+1=(ZT set 0 (X.take (i+1))).length:=by rw [hst];simp
     simp only [Zb] at e1
     rw [e1,e2,Zk (n:=(i:Int)+1) (by omega) (by omega)]
     refine ⟨i+1,hlt3,by omega,?_⟩
     (refine Zh ?_ ?_ ?_ rfl rfl<;>dsimp only [Zg,Za,Zb,Z5,hal,id,go_sem,rA,rM,rS]<;>simp [Zg,Za,Zb,Z5,hal,Zc,Zf,KFR,KFL,KF,Zd,mtO,nbr])
 refine ZH (by simpa using hlt3) ?_
 dsimp only [go_sem,rA,rM,rS]
 have hie:i=X.length:=by omega
 subst hie
 rw [List.take_length]
 refine gh (X7 13 3 (ZT set 0 X).length rfl rfl rfl rfl) ?_
 dsimp only [go_sem,rA,rM,rS]
 have hsX:∀ x ∈ ZT set 0 X,Zn p x=true:=fun x hx=>hX x (Xi.subset hx)
 have hsl:(ZT set 0 X).length<=X.length:=Xi.length_le
 refine call (Zbw p hp (ZT set 0 X) hsX (by omega) false) ?_
 dsimp only [go_sem,rA,rM,rS]
 simp only [List.length_map]
 have hsh:(Yl p (ZT set 0 X)).length=p.partners.length:=X1
 rw [hsh]
 refine YM (fun s:Nat=>[(83,I (s:Nat))]) (fun s=>[(2,.row 0 2 ((alL p X set s).map Zj) 70)]) (fun s=>s<=p.partners.length) (fun s=>p.partners.length - s) 0 (Nat.zero_le _) ?_ ?_
 . (refine Zh ?_ ?_ ?_ rfl rfl<;>dsimp only [Zg,Za,Zb,Z5,hal,Zm,id,go_sem,rA,rM,rS]<;>simp [Zg,Za,Zb,Z5,hal,Zm,Zc,Zf,KFR,KFL,KF,Zd,mtO,nbr])
 intro k hk
 dsimp only [go_sem,rA,rM,rS]
 by_cases hlt4:k < p.partners.length
 . refine ZU (by simpa using hlt4) ?_
   dsimp only [go_sem,rA,rM,rS]
   refine ZQ k (by rw [hsh];exact hlt4) rfl ?_
   dsimp only [Zm,go_sem,rA,rM,rS]
   have hn:(Yl p (ZT set 0 X))[k]'(by rw [hsh];exact hlt4)=Zq p X k set:=by
    rw [Zq,List.getD_eq_getElem?_getD,List.getElem?_eq_getElem (by rw [hsh];exact hlt4)];rfl
   rw [hn]
   cases set with
   | zero =>
    refine ZU (by simp) ?_
    (repeat first | dsimp only [go_sem,rA,rM,rS] | simp only [nbr])
    refine XU k rfl (by simp [W2];omega) ?_
    (repeat first | dsimp only [go_sem,rA,rM,rS] | simp only [nbr])
    refine ZdG (Zq p X k 0,Zq p X k 0) (by rw [W2];exact hlt4) (by simp [Zj]) (by simp [Zj,Zw]) ?_
    (repeat first | dsimp only [go_sem,rA,rM,rS] | simp only [nbr])
    have hgl:k < ((alL p X 0 k).set k (Zq p X k 0,Zq p X k 0)).length:=by simp [W2];omega
    have hgg:((alL p X 0 k).set k (Zq p X k 0,Zq p X k 0))[k]'hgl=(Zq p X k 0,Zq p X k 0):=by simp
    refine XU k rfl (by simp [W2];omega) ?_
    (repeat first | dsimp only [go_sem,rA,rM,rS] | simp only [nbr])
    refine V8 hgl ?_
    rw [hgg]
    (repeat first | dsimp only [Zj,go_sem,rA,rM,rS] | simp only [nbr])
    refine XU k rfl (by simp [W2];omega) ?_
    (repeat first | dsimp only [go_sem,rA,rM,rS] | simp only [nbr])
    refine V8 hgl ?_
    rw [hgg]
    (repeat first | dsimp only [Zj,go_sem,rA,rM,rS] | simp only [nbr])
    refine XU k rfl (by simp [W2];omega) ?_
    (repeat first | dsimp only [go_sem,rA,rM,rS] | simp only [nbr])
    rw [Int.min_self,Int.max_self]
    refine ZdG (Zq p X k 0,Zq p X k 0) hgl (by simp [Zj]) (by simp [Zj,Zw]) ?_
    (repeat first | dsimp only [go_sem,rA,rM,rS] | simp only [nbr])
    have e3:((alL p X 0 k).set k (Zq p X k 0,Zq p X k 0)).set k (Zq p X k 0,Zq p X k 0)=alL p X 0 (k+1):=by
     rw [List.set_set,<- Zj0 hlt4];rfl
    rw [e3,Zk (n:=(k:Int)+1) (by omega) (by omega)]
    refine ⟨k+1,hlt4,by omega,?_⟩
    (refine Zh ?_ ?_ ?_ rfl rfl<;>dsimp only [Zg,Za,Zb,Z5,hal,Zm,id,go_sem,rA,rM,rS]<;>simp [Zg,Za,Zb,Z5,hal,Zm,Zc,Zf,KFR,KFL,KF,Zd,mtO,nbr])
   | succ t =>
    refine ZH (by simp;omega) ?_
    (repeat first | dsimp only [go_sem,rA,rM,rS] | simp only [nbr])
    have hgl:k < (alL p X (t+1) k).length:=by rw [W2];exact hlt4
    have hgg:(alL p X (t+1) k)[k]=(Zbn (Zq p X k) t,ZbP (Zq p X k) t):=by rw [Zel,if_neg (by omega)];rfl
    refine XU k rfl (by simpa using hgl) ?_
    (repeat first | dsimp only [go_sem,rA,rM,rS] | simp only [nbr])
    refine V8 hgl ?_
    rw [hgg]
    (repeat first | dsimp only [Zj,go_sem,rA,rM,rS] | simp only [nbr])
    refine XU k rfl (by simpa using hgl) ?_
    (repeat first | dsimp only [go_sem,rA,rM,rS] | simp only [nbr])
    refine V8 hgl ?_
    rw [hgg]
    (repeat first | dsimp only [Zj,go_sem,rA,rM,rS] | simp only [nbr])
    refine XU k rfl (by simpa using hgl) ?_
    (repeat first | dsimp only [go_sem,rA,rM,rS] | simp only [nbr])
    refine ZdG (alR p X (t+2) k) hgl (by simp [Zj]) (by simp [Zj,Zw,alR,Zbn,ZbP]) ?_
    (repeat first | dsimp only [go_sem,rA,rM,rS] | simp only [nbr])
    rw [Zj0 hlt4,Zk (n:=(k:Int)+1) (by omega) (by omega)]
    refine ⟨k+1,hlt4,by omega,?_⟩
    (refine Zh ?_ ?_ ?_ rfl rfl<;>dsimp only [Zg,Za,Zb,Z5,hal,Zm,id,go_sem,rA,rM,rS]<;>simp [Zg,Za,Zb,Z5,hal,Zm,Zc,Zf,KFR,KFL,KF,Zd,mtO,nbr])
 refine ZH (by simpa using hlt4) ?_
 dsimp only [go_sem,rA,rM,rS]
 have hke:k=p.partners.length:=by omega
 subst hke
 rw [ZmL]
 refine gh Yk ?_
 (repeat first | dsimp only [go_sem,rA,rM,rS] | simp only [nbr])
 rw [Zk (n:=(set:Int)+1) (by omega) (by omega)]
 refine ⟨set+1,hlt2,by omega,?_⟩
 (refine Zh ?_ ?_ ?_ rfl rfl<;>dsimp only [Zg,Za,Zb,Z5,hal,Zm,id,go_sem,rA,rM,rS]<;>simp [Zg,Za,Zb,Z5,hal,Zm,Zc,Zf,KFR,KFL,KF,Zd,mtO,nbr])
end Go.Proofs.Ythilckbkffjliaa
namespace Go.Sx
open Go
def byS (ns:List Int):ByteArray:=ns.foldl (fun r n=>r.push (UInt8.ofNat n.toNat)) ByteArray.empty
theorem ZjF {w:World} {E:Env} {n ok:Nat->Prop}:∀ {l ys:List Value},RL w E n ok (l.map SV.v) ys->ys=l
 | [],ys,h=>by simpa [RL] using h
 | x :: l,ys,h=>by
  simp only [List.map_cons,RL] at h
  obtain ⟨y,r,rfl,h1,h2⟩:=h
  simp only [R] at h1
  rw [h1,ZjF h2]
theorem ZyL {α β : Type} (f:α->β):∀ l:List α,(l.map fun n=>[f n]).flatten=l.map f
 | []=>rfl
 | x :: l=>by simp only [List.map_cons,List.flatten_cons,ZyL f l];rfl
theorem Zsz {P:Program} {d:Option Nat} {u src dst ty e:Nat} {ns:List Int} {s:SV} {σ : St} {r:KT} {K:RK} (hl:lk u σ.fr=s) (hng:∀ j b u,s≠.gd j b u) (hs:ZeU 1 s=some (ns.map fun n=>[SV.v (.int .u8 n)]))
 (hsrc:P.underlying src=some (.slice e)) (hdst:P.underlying dst=some .string) (he:P.underlying e=some (.int .u8)) (hk:Yr d (.v (.string (byS ns))) none σ r K):RAW P d (.convert src dst (.tmp u)) ty σ r K:=by
 intro o C E a w next Q h1 h2 h3 hS hn hq
 have hR:=Ztn (hS.fr u) (fun j b u' e=>hng j b u' (hl ▸ e))
 rw [hl] at hR
 obtain ⟨cs,⟨ad,cap,y0,y1,y2,y3⟩,hcs,_⟩:=Va hR hs
 have hflat:(ns.map fun n=>[SV.v (.int .u8 n)]).flatten=(ns.map (Value.int .u8)).map SV.v:=by rw [ZyL (fun n=>SV.v (.int .u8 n)),List.map_map];rfl
 rw [hflat] at hcs
 have hcs:=ZjF hcs
 subst hcs
 have hrun:(convert src dst (a.tmps.getD u undef)).run P w = .ok (.string (byS ns)) w:=by
  rw [y0,run_convert_bytes_string w src dst e ad _ cap hsrc he hdst]
  cases ad with
  | none =>
   have:ns=[]:=by
    rcases y3 with h | ⟨b,off,h,_⟩
    . simpa using h
    . cases h
   subst this
   simp [Conv.bytesToString,Sem.run_pure,byS]
  | some ad =>
   refine run_bytesToString w ad _ cap ns ?_
   rcases y3 with h | ⟨b,off,h,hc⟩
   . have:ns=[]:=by simpa using h
     subst this
     simp [loadCells,loadCellsFrom,Sem.run_pure]
   . cases h
     have hlen:(ns.map fun n=>[SV.v (.int .u8 n)]).length=(ns.map (Value.int .u8)).length:=by simp
     rw [hlen]
     exact run_loadCells_list w _ _ (fun j v hv=>by rw [Y2];exact hc j v hv)
 have hx:(execOp a.eval o).run P w = .ok (.value (.string (byS ns))) w:=by
  obtain ⟨dst',op',ty',pos,after,guard⟩:=o
  simp only at h2;subst h2
  simp only [Array.getD_eq_getD_getElem?] at hrun
  simp only [execOp,Act.eval]
  simp [Sem.run_bind,hrun]
 refine Zz hx (by simp) ?_
 show next (a.put o.dst _) w
 rcases WX hk with ⟨g1,g2⟩ | ⟨t,g1,g2,g3,g4,g5⟩
 . rw [h1,g1];exact hn _ E _ _ g2 hS
 . rw [h1,g1]
   exact hn _ E _ _ g5 (Xd hS (fun b hb _=>⟨hb,rfl⟩) (fun _ _=>Ele.rfl) (Nat.le_refl _) hS.hs g2 g3 (fun j b u e=>by rw [e] at g4;cases g4) (by simp only [R]))
theorem Znh {P:Program} {d:Option Nat} {u t t' ty:Nat} {op:BinOp} {q:Bool} {x y:ByteArray} {σ : St} {r:KT} {K:RK} (hu:lk u σ.fr = .v (.string x)) (hq0:(op = .eql/\q=(x.toList == y.toList))\/(op = .neq/\q = !(x.toList == y.toList)))
 (hk:Yr d (.v (.bool q)) none σ r K):RAW P d (.binOp op t (.tmp u) (.const (.string y)) t') ty σ r K:=by
 intro o C E a w next Q h1 h2 h3 hS hn hq
 have hx:a.eval (.tmp u) = .string x:=by
  have:=hS.fr u
  rw [hu] at this
  simp only [FR,R] at this
  exact this
 have hrun:(execOp a.eval o).run P w =   .ok (.value (.bool q)) w:=by
  obtain ⟨dst',op',ty',pos,after,guard⟩:=o
  simp only at h2;subst h2
  have hc:a.eval (.const (.string y)) = .string y:=rfl
  simp only [execOp,hx,hc]
  rcases hq0 with ⟨rfl,rfl⟩ | ⟨rfl,rfl⟩<;>simp [Sem.run_bind,eqGuard,binOp,Op.stringOp,Sem.run_pure]
 refine Zz hrun (by simp) ?_
 show next (a.put o.dst _) w
 rcases WX hk with ⟨g1,g2⟩ | ⟨t,g1,g2,g3,g4,g5⟩
 . rw [h1,g1];exact hn _ E _ _ g2 hS
 . rw [h1,g1]
   exact hn _ E _ _ g5 (Xd hS (fun b hb _=>⟨hb,rfl⟩) (fun _ _=>Ele.rfl) (Nat.le_refl _) hS.hs g2 g3 (fun j b u e=>by rw [e] at g4;cases g4) (by simp only [R]))
end Go.Sx
namespace Go.Proofs.Ythilckbkffjliaa
open Go Go.Sx Go.Azalai
theorem VL (a b:List Int) (ha:a.length<=1000000) (hb:b.length<=1000000) (c c':Bool):Ct Try.prog 22 [.sl c 1 (a.map Zm),.sl c' 1 (b.map Zm)] (B (decide (a=b))):=by
 refine t22.1 (by simp [Zc,Zm,KFL,KF]) (by simp [KFL,KF]) ?_
 dsimp only [c22,r22,go_sem,rA,rM,rS]
 simp only [List.length_map]
 by_cases hl:a.length=b.length
 case neg =>
  refine ZU (by simp;omega) ?_
  dsimp only [go_sem,rA,rM,rS]
  have:a≠b:=fun e=>hl (by rw [e])
  simp [this]
 refine ZH (by simp;omega) ?_
 dsimp only [go_sem,rA,rM,rS]
 refine YM (fun j:Nat=>[(5,I j)]) (fun _=>[]) (fun j=>j<=a.length/\a.take j=b.take j) (fun j=>a.length - j) 0 ⟨Nat.zero_le _,rfl⟩ ?_ ?_
 . (refine Zh ?_ ?_ ?_ rfl rfl<;>dsimp only [Zm,id,go_sem,rA,rM,rS]<;>simp [Zm,Zc,Zf,KFR,KFL,KF,Zd,mtO,nbr])
 rintro j ⟨hj,ht⟩
 dsimp only [go_sem,rA,rM,rS]
 simp only [List.length_map]
 by_cases hlt:j < a.length
 . refine ZU (by simpa using hlt) ?_
   dsimp only [go_sem,rA,rM,rS]
   have hltb:j < b.length:=by omega
   refine ZQ j hlt rfl ?_
   dsimp only [go_sem,rA,rM,rS]
   refine ZQ j hltb rfl ?_
   dsimp only [Zm,go_sem,rA,rM,rS]
   by_cases he:a[j]=b[j]
   . refine ZH (by rw [he];simp [ngB]) ?_
     dsimp only [go_sem,rA,rM,rS]
     rw [Zk (n:=(j:Int)+1) (by omega) (by omega)]
     refine ⟨j+1,⟨hlt,?_⟩,by omega,?_⟩
     . rw [List.take_succ_eq_append_getElem hlt,List.take_succ_eq_append_getElem hltb,ht,he]
     (refine Zh ?_ ?_ ?_ rfl rfl<;>dsimp only [Zm,id,go_sem,rA,rM,rS]<;>simp [Zm,Zc,Zf,KFR,KFL,KF,Zd,mtO,nbr])
   . refine ZU ?_ ?_
     . simpa using he
     dsimp only [go_sem,rA,rM,rS]
     have:a≠b:=fun e=>he (by subst e;rfl)
     simp [this]
 refine ZH (by simp;omega) ?_
 dsimp only [go_sem,rA,rM,rS]
 have:a=b:=by
  rw [List.take_of_length_le (by omega),List.take_of_length_le (by omega)] at ht
  exact ht
 simp [this]
theorem Zk6 (a b:List (Int × Int)) (ha:a.length<=1000000) (hb:b.length<=1000000) (c c':Bool):Ct Try.prog 33 [.sl c 2 (a.map Zj),.sl c' 2 (b.map Zj)] (B (decide (a=b))):=by
 refine t33.1 (by simp [Zc,Zj,KFL,KF]) (by simp [KFL,KF]) ?_
 dsimp only [c33,r33,go_sem,rA,rM,rS]
 simp only [List.length_map]
 by_cases hl:a.length=b.length
 case neg =>
  refine ZU (by simp;omega) ?_
  dsimp only [go_sem,rA,rM,rS]
  have:a≠b:=fun e=>hl (by rw [e])
  simp [this]
 refine ZH (by simp;omega) ?_
 dsimp only [go_sem,rA,rM,rS]
 refine YM (fun j:Nat=>[(5,I j)]) (fun _=>[]) (fun j=>j<=a.length/\a.take j=b.take j) (fun j=>a.length - j) 0 ⟨Nat.zero_le _,rfl⟩ ?_ ?_
 . (refine Zh ?_ ?_ ?_ rfl rfl<;>dsimp only [Zj,id,go_sem,rA,rM,rS]<;>simp [Zj,Zc,Zf,KFR,KFL,KF,Zd,mtO,nbr])
 rintro j ⟨hj,ht⟩
 dsimp only [go_sem,rA,rM,rS]
 simp only [List.length_map]
 by_cases hlt:j < a.length
 . refine ZU (by simpa using hlt) ?_
   dsimp only [go_sem,rA,rM,rS]
   have hltb:j < b.length:=by omega
   refine ZQ j hlt rfl ?_
   dsimp only [go_sem,rA,rM,rS]
   refine ZQ j hltb rfl ?_
   dsimp only [Zj,go_sem,rA,rM,rS]
   by_cases he:a[j]=b[j]
   . refine ZH (by rw [he];simp [ngB]) ?_
     dsimp only [go_sem,rA,rM,rS]
     rw [Zk (n:=(j:Int)+1) (by omega) (by omega)]
     refine ⟨j+1,⟨hlt,?_⟩,by omega,?_⟩
     . rw [List.take_succ_eq_append_getElem hlt,List.take_succ_eq_append_getElem hltb,ht,he]
     (refine Zh ?_ ?_ ?_ rfl rfl<;>dsimp only [Zj,id,go_sem,rA,rM,rS]<;>simp [Zj,Zc,Zf,KFR,KFL,KF,Zd,mtO,nbr])
   . refine ZU ?_ ?_
     . apply Decidable.byContradiction;intro hq;simp at hq;exact he (Prod.ext hq.1 hq.2)
     dsimp only [go_sem,rA,rM,rS]
     have:a≠b:=fun e=>he (by subst e;rfl)
     simp [this]
 refine ZH (by simp;omega) ?_
 dsimp only [go_sem,rA,rM,rS]
 have:a=b:=by
  rw [List.take_of_length_le (by omega),List.take_of_length_le (by omega)] at ht
  exact ht
 simp [this]
def UN (p:Pact) (l:List Letter):Bool:=decide (p.partners.length > 12) || decide (l.length > 150)
theorem Zfd (p:Pact) (l:List Letter) (c:Bool):Ct Try.prog 16 [.agg (Zg p),.sl c 8 (l.map Zb)] (B (UN p l)):=by
 refine t16.1 (by simp [Zg,Za,Zb,Zc,KFL,KF]) (by simp [KFL,KF]) ?_
 dsimp only [c16,r16,Zg,go_sem,rA,rM,rS]
 repeat (refine gb ?_;dsimp only [go_sem,rA,rM,rS])
 simp only [List.length_map]
 simp only [UN,Option.some.injEq,SV.v.injEq,Value.bool.injEq]
 rw [Bool.eq_iff_iff]
 simp
 omega
theorem Zze (a b:Int):Ct Try.prog 60 [I a,I b] (.agg (Zj (a,b))):=by
 refine t60.1 (by simp [KFL,KF]) (by simp [Zj,KFL,KF]) ?_
 dsimp only [c60,r60,Zj,go_sem,rA,rM,rS]
theorem Zdg (p:Pact) (r:Int) (hs:YY p):Ct Try.prog 18 [.agg (Zg p),I r] (.tup [if ZK p=true/\inR (-10000000000) 10000000000 r=true then .sl false 1 ((Z1 p r).map Zm) else .v (.slice none 0 0),I (if ZK p=true then (if inR (-10000000000) 10000000000 r=true then 0 else 2) else 80)]):=by
 refine t18.1 (by simp [Zg,Za,Zb,Zc,KFL,KF]) ⟨by split<;>simp [KF,Zc,Zm,KFL],by simp [KF],trivial⟩ ?_
 dsimp only [c18,r18,Zg,go_sem,rA,rM,rS]
 refine call (Ze0 p hs) ?_
 dsimp only [go_sem,rA,rM,rS]
 by_cases hp:ZK p=true
 case neg =>
  refine ZU (by simp [Zc6,hp]) ?_
  dsimp only [go_sem,rA,rM,rS]
  simp [Zc6,hp]
 refine ZH (by simp [Zc6,hp]) ?_
 dsimp only [go_sem,rA,rM,rS]
 refine call (in1 (-10000000000) 10000000000 _ _) ?_
 dsimp only [go_sem,rA,rM,rS]
 by_cases hr:inR (-10000000000) 10000000000 r=true
 case neg =>
  refine ZU (by simpa using hr) ?_
  dsimp only [go_sem,rA,rM,rS]
  simp [hp,hr]
 refine ZH (by simpa using hr) ?_
 dsimp only [go_sem,rA,rM,rS]
 have hb:=hr
 simp only [inR,decide_eq_true_eq] at hb
 refine call (Zdy p hp (by omega) (by omega)) ?_
 dsimp only [go_sem,rA,rM,rS]
 simp [hp,hr]
theorem ZgV (p:Pact) (x:Letter) (hs:YY p):Ct Try.prog 36 [.agg (Zg p),.agg (Zb x)] (B (Zn p x)):=by
 refine t36.1 (by simp [Zg,Za,Zb,Zc,KFL,KF]) (by simp [KFL,KF]) ?_
 dsimp only [c36,r36,Zg,Zb,go_sem,rA,rM,rS]
 refine call (Z4 _ _ _) ?_
 dsimp only [go_sem,rA,rM,rS]
 repeat (first | (refine gb ?_;dsimp only [go_sem,rA,rM,rS]) | (refine call (Z4 _ _ _) ?_;dsimp only [go_sem,rA,rM,rS]))
 by_cases h1:(inR 0 9999 x.id && inR 0 100000 x.day)=true
 case neg =>
  refine ZU (by grind) ?_
  dsimp only [go_sem,rA,rM,rS]
  rw [Bool.not_eq_true] at h1
  simp only [Zn,h1,Bool.false_and]
 refine ZH (by grind) ?_
 dsimp only [go_sem,rA,rM,rS]
 refine call (VO p x.who hs) ?_
 dsimp only [go_sem,rA,rM,rS]
 refine call (Z4 _ _ _) ?_
 dsimp only [go_sem,rA,rM,rS]
 refine call (Z4 _ _ _) ?_
 dsimp only [go_sem,rA,rM,rS]
 rw [WO p x.who]
 by_cases k1:x.kind=1
 . simp only [k1]
   repeat (first | (refine ZU rfl ?_;dsimp only [go_sem,rA,rM,rS]) | (refine ZH rfl ?_;dsimp only [go_sem,rA,rM,rS]))
   repeat (first | (refine gb ?_;dsimp only [go_sem,rA,rM,rS]) | (refine call (Z4 _ _ _) ?_;dsimp only [go_sem,rA,rM,rS]) | (refine call (VO p x.other hs) ?_;dsimp only [go_sem,rA,rM,rS]))
   have g2:=WO p x.other
   simp only [Option.some.injEq,SV.v.injEq,Value.bool.injEq]
   rw [Bool.eq_iff_iff]
   obtain ⟨id',day,kind,who,other,animal,rials,mouth⟩:=x
   simp only at k1
   subst k1
   simp only [Zn] at h1 ⊢
   simp only [h1]
   try rw [g2]
   simp
   try grind
 by_cases k2:x.kind=2
 . simp only [k2]
   repeat (first | (refine ZU rfl ?_;dsimp only [go_sem,rA,rM,rS]) | (refine ZH rfl ?_;dsimp only [go_sem,rA,rM,rS]))
   repeat (first | (refine gb ?_;dsimp only [go_sem,rA,rM,rS]) | (refine call (Z4 _ _ _) ?_;dsimp only [go_sem,rA,rM,rS]) | (refine call (VO p x.other hs) ?_;dsimp only [go_sem,rA,rM,rS]))
   have g2:=WO p x.other
   simp only [Option.some.injEq,SV.v.injEq,Value.bool.injEq]
   rw [Bool.eq_iff_iff]
   obtain ⟨id',day,kind,who,other,animal,rials,mouth⟩:=x
   simp only at k2
   subst k2
   simp only [Zn] at h1 ⊢
   simp only [h1]
   try rw [g2]
   simp
   try grind
 by_cases k3:x.kind=3
 . simp only [k3]
   repeat (first | (refine ZU rfl ?_;dsimp only [go_sem,rA,rM,rS]) | (refine ZH rfl ?_;dsimp only [go_sem,rA,rM,rS]))
   repeat (first | (refine gb ?_;dsimp only [go_sem,rA,rM,rS]) | (refine call (Z4 _ _ _) ?_;dsimp only [go_sem,rA,rM,rS]) | (refine call (VO p x.other hs) ?_;dsimp only [go_sem,rA,rM,rS]))
   have g2:=WO p x.other
   simp only [Option.some.injEq,SV.v.injEq,Value.bool.injEq]
   rw [Bool.eq_iff_iff]
   obtain ⟨id',day,kind,who,other,animal,rials,mouth⟩:=x
   simp only at k3
   subst k3
   simp only [Zn] at h1 ⊢
   simp only [h1]
   try rw [g2]
   simp
   try grind
 by_cases k4:x.kind=4
 . simp only [k4]
   repeat (first | (refine ZU rfl ?_;dsimp only [go_sem,rA,rM,rS]) | (refine ZH rfl ?_;dsimp only [go_sem,rA,rM,rS]))
   repeat (first | (refine gb ?_;dsimp only [go_sem,rA,rM,rS]) | (refine call (Z4 _ _ _) ?_;dsimp only [go_sem,rA,rM,rS]) | (refine call (VO p x.other hs) ?_;dsimp only [go_sem,rA,rM,rS]))
   have g2:=WO p x.other
   simp only [Option.some.injEq,SV.v.injEq,Value.bool.injEq]
   rw [Bool.eq_iff_iff]
   obtain ⟨id',day,kind,who,other,animal,rials,mouth⟩:=x
   simp only at k4
   subst k4
   simp only [Zn] at h1 ⊢
   simp only [h1]
   try rw [g2]
   simp
   try grind
 by_cases k5:x.kind=5
 . simp only [k5]
   repeat (first | (refine ZU rfl ?_;dsimp only [go_sem,rA,rM,rS]) | (refine ZH rfl ?_;dsimp only [go_sem,rA,rM,rS]))
   repeat (first | (refine gb ?_;dsimp only [go_sem,rA,rM,rS]) | (refine call (Z4 _ _ _) ?_;dsimp only [go_sem,rA,rM,rS]) | (refine call (VO p x.other hs) ?_;dsimp only [go_sem,rA,rM,rS]))
   have g2:=WO p x.other
   simp only [Option.some.injEq,SV.v.injEq,Value.bool.injEq]
   rw [Bool.eq_iff_iff]
   obtain ⟨id',day,kind,who,other,animal,rials,mouth⟩:=x
   simp only at k5
   subst k5
   simp only [Zn] at h1 ⊢
   simp only [h1]
   try rw [g2]
   simp
   try grind
 by_cases k6:x.kind=6
 . simp only [k6]
   repeat (first | (refine ZU rfl ?_;dsimp only [go_sem,rA,rM,rS]) | (refine ZH rfl ?_;dsimp only [go_sem,rA,rM,rS]))
   repeat (first | (refine gb ?_;dsimp only [go_sem,rA,rM,rS]) | (refine call (Z4 _ _ _) ?_;dsimp only [go_sem,rA,rM,rS]) | (refine call (VO p x.other hs) ?_;dsimp only [go_sem,rA,rM,rS]))
   have g2:=WO p x.other
   simp only [Option.some.injEq,SV.v.injEq,Value.bool.injEq]
   rw [Bool.eq_iff_iff]
   obtain ⟨id',day,kind,who,other,animal,rials,mouth⟩:=x
   simp only at k6
   subst k6
   simp only [Zn] at h1 ⊢
   simp only [h1]
   try rw [g2]
   simp
   try grind
 by_cases k7:x.kind=7
 . simp only [k7]
   repeat (first | (refine ZU rfl ?_;dsimp only [go_sem,rA,rM,rS]) | (refine ZH rfl ?_;dsimp only [go_sem,rA,rM,rS]))
   repeat (first | (refine gb ?_;dsimp only [go_sem,rA,rM,rS]) | (refine call (Z4 _ _ _) ?_;dsimp only [go_sem,rA,rM,rS]) | (refine call (VO p x.other hs) ?_;dsimp only [go_sem,rA,rM,rS]))
   have g2:=WO p x.other
   simp only [Option.some.injEq,SV.v.injEq,Value.bool.injEq]
   rw [Bool.eq_iff_iff]
   obtain ⟨id',day,kind,who,other,animal,rials,mouth⟩:=x
   simp only at k7
   subst k7
   simp only [Zn] at h1 ⊢
   simp only [h1]
   try rw [g2]
   simp
   try grind
 by_cases k8:x.kind=8
 . simp only [k8]
   repeat (first | (refine ZU rfl ?_;dsimp only [go_sem,rA,rM,rS]) | (refine ZH rfl ?_;dsimp only [go_sem,rA,rM,rS]))
   repeat (first | (refine gb ?_;dsimp only [go_sem,rA,rM,rS]) | (refine call (Z4 _ _ _) ?_;dsimp only [go_sem,rA,rM,rS]) | (refine call (VO p x.other hs) ?_;dsimp only [go_sem,rA,rM,rS]))
   have g2:=WO p x.other
   simp only [Option.some.injEq,SV.v.injEq,Value.bool.injEq]
   rw [Bool.eq_iff_iff]
   obtain ⟨id',day,kind,who,other,animal,rials,mouth⟩:=x
   simp only at k8
   subst k8
   simp only [Zn] at h1 ⊢
   simp only [h1]
   try rw [g2]
   simp
   try grind
 repeat (refine ZH (by simp [k1,k2,k3,k4,k5,k6,k7,k8]) ?_;dsimp only [go_sem,rA,rM,rS])
 repeat (refine gb ?_;dsimp only [go_sem,rA,rM,rS])
 simp [Zn,k1,k2,k3,k4,k5,k6,k7,k8]
def c34:SC:=(sr1 [
 o1 0 (.mv (.c (.bool false)))]
 (sr1 [
 o1 15 (.call 38 []),
 o1 16 (.call 18 [.t 15,.c (.int .i64 1001)]),
 m1 14 16,
 o1 17 (.ext (.t 14) 0),
 o1 18 (.ext (.t 14) 1),
 m1 1 17,
 m1 2 18]
 (sr1 [
 o1 20 (.call 38 []),
 o1 21 (.call 18 [.t 20,.c (.int .i64 (-100))]),
 m1 19 21,
 o1 22 (.ext (.t 19) 0),
 o1 23 (.ext (.t 19) 1),
 m1 3 22,
 m1 4 23]
 (sr1 [
 o1 25 (.call 38 []),
 o1 26 (.call 39 []),
 o1 27 (.call 29 [.t 25,.t 26]),
 m1 24 27,
 o1 28 (.ext (.t 24) 0),
 o1 29 (.ext (.t 24) 1),
 m1 5 28,
 m1 6 29]
 (sr1 [
 o1 31 (.call 38 []),
 o1 32 (.call 39 []),
 o1 33 (.call 41 []),
 o1 34 (.app 8 64 50 (.t 32) (.t 33)),
 o1 35 (.call 29 [.t 31,.t 34]),
 m1 30 35,
 o1 36 (.ext (.t 30) 0),
 o1 37 (.ext (.t 30) 1),
 m1 7 36,
 m1 8 37]
 (sr1 [
 o1 39 (.call 38 []),
 o1 40 (.call 39 []),
 o1 41 (.call 40 []),
 o1 42 (.bsl 8 50 [.t 41]),
 o1 43 (.app 8 64 50 (.t 40) (.t 42)),
 o1 44 (.call 24 [.t 39,.t 43]),
 m1 38 44,
 o1 45 (.ext (.t 38) 0),
 o1 46 (.ext (.t 38) 1),
 o1 47 (.ext (.t 38) 2),
 m1 9 45,
 m1 10 46,
 m1 11 47]
 (sr1 [
 o1 49 (.call 38 []),
 o1 50 (.call 59 []),
 o1 51 (.call 31 [.t 49,.t 50]),
 m1 48 51,
 o1 52 (.ext (.t 48) 0),
 o1 53 (.ext (.t 48) 1),
 m1 12 52,
 m1 13 53]
 (sr1 [
 m1 54 2,
 o1 55 (.bin .eql (.t 54) (.c (.int .i64 0))),
 m1 56 55,
 ⟨some 57,.mv (.t 1),some (56,true),[]⟩,
 ⟨some 58,.bsl 1 3 [.c (.int .i64 501),.c (.int .i64 200),.c (.int .i64 300)],some (56,true),[]⟩,
 ⟨some 59,.call 22 [.t 57,.t 58],some (56,true),[]⟩,
 o1 60 (.pick (.t 56) (.t 59) (.c (.bool false))),
 m1 61 60,
 ⟨some 62,.mv (.t 4),some (61,true),[]⟩,
 ⟨some 63,.bin .eql (.t 62) (.c (.int .i64 0)),some (61,true),[]⟩,
 o1 64 (.pick (.t 61) (.t 63) (.c (.bool false))),
 m1 65 64,
 ⟨some 66,.mv (.t 3),some (65,true),[]⟩,
 ⟨some 67,.bsl 1 3 [.c (.int .i64 (-67)),.c (.int .i64 (-33)),.c (.int .i64 0)],some (65,true),[]⟩,
 ⟨some 68,.call 22 [.t 66,.t 67],some (65,true),[]⟩,
 o1 69 (.pick (.t 65) (.t 68) (.c (.bool false))),
 m1 70 69,
 ⟨some 71,.mv (.t 6),some (70,true),[]⟩,
 ⟨some 72,.bin .eql (.t 71) (.c (.int .i64 0)),some (70,true),[]⟩,
 o1 73 (.pick (.t 70) (.t 72) (.c (.bool false))),
 m1 74 73,
 ⟨some 75,.mv (.t 5),some (74,true),[]⟩,
 ⟨some 76,.bsl 1 3 [.c (.int .i64 951),.c (.int .i64 440),.c (.int .i64 310)],some (74,true),[]⟩,
 ⟨some 77,.call 22 [.t 75,.t 76],some (74,true),[]⟩,
 o1 78 (.pick (.t 74) (.t 77) (.c (.bool false))),
 m1 79 78,
 ⟨some 80,.mv (.t 8),some (79,true),[]⟩,
 ⟨some 81,.bin .eql (.t 80) (.c (.int .i64 0)),some (79,true),[]⟩,
 o1 82 (.pick (.t 79) (.t 81) (.c (.bool false))),
 m1 83 82,
 ⟨some 84,.mv (.t 7),some (83,true),[]⟩,
 ⟨some 85,.bsl 1 3 [.c (.int .i64 941),.c (.int .i64 450),.c (.int .i64 310)],some (83,true),[]⟩,
 ⟨some 86,.call 22 [.t 84,.t 85],some (83,true),[]⟩,
 o1 87 (.pick (.t 83) (.t 86) (.c (.bool false))),
 m1 88 87,
 ⟨some 89,.mv (.t 11),some (88,true),[]⟩,
 ⟨some 90,.bin .eql (.t 89) (.c (.int .i64 0)),some (88,true),[]⟩,
 o1 91 (.pick (.t 88) (.t 90) (.c (.bool false))),
 m1 92 91,
 ⟨some 93,.mv (.t 10),some (92,true),[]⟩,
 ⟨some 94,.raw (Go.Op.convert 39 9 (Go.Operand.tmp 93)) 9,some (92,true),[]⟩,
 ⟨some 95,.raw (Go.Op.binOp Go.BinOp.eql 9 (Go.Operand.tmp 94) (Go.Operand.const (Go.Value.string { data:=#[0,0,4,0,0,0] })) 9) 4,some (92,true),[]⟩,
 o1 96 (.pick (.t 92) (.t 95) (.c (.bool false))),
 m1 97 96,
 ⟨some 98,.mv (.t 13),some (97,true),[]⟩,
 ⟨some 99,.bin .eql (.t 98) (.c (.int .i64 0)),some (97,true),[]⟩,
 o1 100 (.pick (.t 97) (.t 99) (.c (.bool false))),
 m1 101 100,
 ⟨some 102,.mv (.t 12),some (101,true),[]⟩,
 ⟨some 103,.call 60 [.c (.int .i64 881),.c (.int .i64 951)],some (101,true),[]⟩,
 ⟨some 104,.call 60 [.c (.int .i64 412),.c (.int .i64 440)],some (101,true),[]⟩,
 ⟨some 105,.call 60 [.c (.int .i64 310),.c (.int .i64 408)],some (101,true),[]⟩,
 ⟨some 106,.bsl 2 70 [.t 103,.t 104,.t 105],some (101,true),[]⟩,
 ⟨some 107,.call 33 [.t 102,.t 106],some (101,true),[]⟩,
 o1 108 (.pick (.t 101) (.t 107) (.c (.bool false))),
 m1 0 108]
 .ret))))))))
def r34:List RV:=[.tmp 0]
theorem t34:Qt1 Try.prog 34 c34 r34 109:=XC Try.func34 rfl (by kernel_rfl) (by kernel_rfl) (by kernel_rfl) (by kernel_rfl)
def c35:SC:=(sr1 [
 o1 2 (.box (.t 0) 0 24),
 o1 4 (.mv (.c (.bool false)))]
 (sr1 [
 o1 5 (.ld (.t 2) 4 true),
 m1 6 1,
 o1 7 (.call 16 [.t 5,.t 6]),
 o1 8 (.un .not (.t 7)),
 m1 9 8,
 ⟨some 10,.ld (.t 2) 4 true,some (9,true),[]⟩,
 ⟨some 11,.call 21 [.t 10],some (9,true),[]⟩,
 ⟨some 12,.bin .eql (.t 11) (.c (.int .i64 0)),some (9,true),[]⟩,
 o1 13 (.pick (.t 9) (.t 12) (.c (.bool false))),
 m1 14 13,
 ⟨some 15,.ld (.t 2) 4 true,some (14,true),[]⟩,
 ⟨some 16,.mv (.t 1),some (14,true),[]⟩,
 ⟨some 17,.call 51 [.t 15,.t 16],some (14,true),[]⟩,
 ⟨some 18,.bin .eql (.t 17) (.c (.int .i64 0)),some (14,true),[]⟩,
 o1 19 (.pick (.t 14) (.t 18) (.c (.bool false))),
 m1 4 19]
 .ret))
def r35:List RV:=[.tmp 4]
theorem t35:Qt1 Try.prog 35 c35 r35 20:=XC Try.func35 rfl (by kernel_rfl) (by kernel_rfl) (by kernel_rfl) (by kernel_rfl)
def c8:SC:=(sr1 [
 o1 2 (.box (.t 0) 0 24),
 o1 4 (.mv (.c (.bool false)))]
 (sr1 [
 o1 18 (.call 34 []),
 m1 5 18]
 (.seq (sr1 [
 o1 19 (.ld (.t 2) 4 true),
 m1 20 1,
 o1 21 (.call 35 [.t 19,.t 20]),
 o1 22 (.un .not (.t 21)),
 m1 23 22,
 ⟨some 24,.mv (.t 5),some (23,false),[]⟩,
 ⟨some 25,.un .not (.t 24),some (23,false),[]⟩,
 o1 26 (.pick (.t 23) (.c (.bool true)) (.t 25))]
 (.cond (.t 26)
 (sr1 [
  m1 27 5,
  m1 4 27]
  .ret)
 .skip))
 (sr1 [
 o1 29 (.ld (.t 2) 4 true),
 m1 30 1,
 o1 31 (.call 24 [.t 29,.t 30]),
 m1 28 31,
 o1 32 (.ext (.t 28) 0),
 o1 33 (.ext (.t 28) 1),
 o1 34 (.ext (.t 28) 2),
 m1 6 32,
 m1 7 33,
 m1 8 34]
 (sr1 [
 o1 36 (.ld (.t 2) 4 true),
 m1 37 1,
 o1 38 (.call 29 [.t 36,.t 37]),
 m1 35 38,
 o1 39 (.ext (.t 35) 0),
 o1 40 (.ext (.t 35) 1),
 m1 9 39,
 m1 10 40]
 (.seq (sr1 [
 m1 41 8,
 o1 42 (.bin .neq (.t 41) (.c (.int .i64 0))),
 m1 43 42,
 ⟨some 44,.mv (.t 10),some (43,false),[]⟩,
 ⟨some 45,.bin .neq (.t 44) (.c (.int .i64 0)),some (43,false),[]⟩,
 o1 46 (.pick (.t 43) (.c (.bool true)) (.t 45)),
 m1 47 46,
 ⟨some 48,.mv (.t 7),some (47,false),[]⟩,
 ⟨some 49,.len (.t 48),some (47,false),[]⟩,
 ⟨some 50,.mv (.t 6),some (47,false),[]⟩,
 ⟨some 51,.len (.t 50),some (47,false),[]⟩,
 ⟨some 52,.bin .neq (.t 49) (.t 51),some (47,false),[]⟩,
 o1 53 (.pick (.t 47) (.c (.bool true)) (.t 52)),
 m1 54 53,
 ⟨some 55,.mv (.t 9),some (54,false),[]⟩,
 ⟨some 56,.len (.t 55),some (54,false),[]⟩,
 ⟨some 57,.addo (.t 2) 0,some (54,false),[]⟩,
 ⟨some 58,.ld (.t 57) 1 false,some (54,false),[]⟩,
 ⟨some 59,.len (.t 58),some (54,false),[]⟩,
 ⟨some 60,.bin .neq (.t 56) (.t 59),some (54,false),[]⟩,
 o1 61 (.pick (.t 54) (.c (.bool true)) (.t 60))]
 (.cond (.t 61)
 (sr1 [
  o1 4 (.mv (.c (.bool false)))]
  .ret)
 .skip))
 (sr1 [
 o1 11 (.mv (.c (.int .i64 0)))]
 (.seq (sr1 [
 o1 62 (.addo (.t 2) 0),
 o1 63 (.ld (.t 62) 1 false),
 o1 64 (.len (.t 63)),
 o1 65 (.mv (.c (.int .i64 0)))]
 (.block 0 (.loop (sr1 [
  o1 66 (.bin .lss (.t 65) (.t 64))]
  (.seq (.cond (.t 66)
  .skip
  (.exit 0))
  (.seq (.block 1 (sr1 [
   o1 67 (.ixs (.t 63) (.t 65) 3),
   o1 68 (.ld (.t 67) 3 true),
   o1 13 (.alloc [.int .i64 0,.int .i64 0,.int .i64 0] 64),
   ⟨none,.st (.t 13) (.t 68) 3,none,[]⟩]
   (.reg [
   m1 69 11,
   o1 70 (.addo (.t 13) 1),
   o1 71 (.ld (.t 70) 1 false),
   o1 72 (.bin .add (.t 69) (.t 71)),
   m1 11 72])))
  (.reg [
  o1 73 (.bin .add (.t 65) (.c (.int .i64 1))),
  m1 65 73])))))))
 (.seq (sr1 [
 m1 74 6,
 o1 75 (.len (.t 74)),
 o1 76 (.mv (.c (.int .i64 0)))]
 (.block 2 (.loop (sr1 [
  o1 77 (.bin .lss (.t 76) (.t 75))]
  (.seq (.cond (.t 77)
  .skip
  (.exit 2))
  (.seq (.block 3 (sr1 [
   m1 78 76,
   o1 79 (.ixs (.t 74) (.t 76) 8),
   o1 80 (.ld (.t 79) 8 true),
   o1 15 (.alloc zv0 50),
   m1 14 78,
   ⟨none,.st (.t 15) (.t 80) 8,none,[]⟩]
   (.seq (sr1 [
   m1 81 7,
   m1 82 14,
   o1 83 (.ixs (.t 81) (.t 82) 1),
   o1 84 (.ld (.t 83) 1 false),
   o1 85 (.bin .neq (.t 84) (.c (.int .u8 0)))]
   (.cond (.t 85)
   (.exit 3)
   .skip))
   (sr1 [
   o1 86 (.addo (.t 15) 2),
   o1 87 (.ld (.t 86) 1 false)]
   (.block 4 (.seq (sr1 [
    o1 89 (.bin .eql (.t 87) (.c (.int .u8 1))),
    m1 88 89]
    (.cond (.t 88)
    .skip
    (.reg [
     o1 90 (.bin .eql (.t 87) (.c (.int .u8 6))),
     m1 88 90])))
    (.cond (.t 88)
    (.reg [
     m1 91 11,
     o1 92 (.addo (.t 15) 6),
     o1 93 (.ld (.t 92) 1 false),
     o1 94 (.bin .add (.t 91) (.t 93)),
     m1 11 94])
    (sr1 [
     o1 96 (.bin .eql (.t 87) (.c (.int .u8 2))),
     m1 95 96]
     (.cond (.t 95)
     (.reg [
      m1 97 11,
      o1 98 (.addo (.t 15) 6),
      o1 99 (.ld (.t 98) 1 false),
      o1 100 (.bin .sub (.t 97) (.t 99)),
      m1 11 100])
     .skip)))))))))
  (.reg [
  o1 101 (.bin .add (.t 76) (.c (.int .i64 1))),
  m1 76 101])))))))
 (.seq (sr1 [
 m1 102 9,
 o1 103 (.len (.t 102)),
 o1 104 (.mv (.c (.int .i64 0)))]
 (.block 5 (.loop (sr1 [
  o1 105 (.bin .lss (.t 104) (.t 103))]
  (.seq (.cond (.t 105)
  .skip
  (.exit 5))
  (.seq (.block 6 (sr1 [
   o1 106 (.ixs (.t 102) (.t 104) 1),
   o1 107 (.ld (.t 106) 1 false),
   m1 17 107]
   (.reg [
   m1 108 11,
   m1 109 17,
   o1 110 (.bin .sub (.t 108) (.t 109)),
   m1 11 110])))
  (.reg [
  o1 111 (.bin .add (.t 104) (.c (.int .i64 1))),
  m1 104 111])))))))
 (sr1 [
 m1 112 5,
 m1 113 112,
 ⟨some 114,.mv (.t 11),some (113,true),[]⟩,
 ⟨some 115,.bin .eql (.t 114) (.c (.int .i64 0)),some (113,true),[]⟩,
 o1 116 (.pick (.t 113) (.t 115) (.c (.bool false))),
 m1 4 116]
 .ret)))))))))))
end Go.Proofs.Ythilckbkffjliaa
namespace Go.Sx
open Go Go.RowKit
theorem Ct.res {P:Program} {f:FuncId} {args:List SV} {res res0:SV} (h:Ct P f args res) (kr:KF res0) (hw:ZbX res res0):Ct P f args res0 :=
 ⟨h.1,h.2,kr,fun w ok vs hR=>Calls.mono (h.4 w ok vs hR) fun e w' q=>by
  obtain ⟨y,h1,h2,h3⟩:=q
  exact ⟨y,h1,hw _ _ _ _ _ h2,h3⟩⟩
theorem Zz2 {l:List SV}:∀ (w:World) (E:Env) (n ok:Nat->Prop) (ys:List Value),RL w E n ok l ys->RL w E n ok l ys:=fun _ _ _ _ _ h=>h
def UZ (fr:List (Nat × SV)):List Nat->List (Nat × SV)
 | []=>[]
 | t :: ts=>(t,lk t fr) :: UZ fr ts
theorem ZjN (fr:List (Nat × SV)):UZ fr []=[]:=rfl
theorem Zgq (fr:List (Nat × SV)) (t:Nat) (ts:List Nat):UZ fr (t :: ts)=(t,lk t fr) :: UZ fr ts:=rfl
attribute [go_sem] ZjN Zgq
theorem ZcO (fr:List (Nat × SV)):∀ ts,Zw2 (UZ fr ts) fr
 | []=>trivial
 | _ :: ts=>⟨rfl,ZcO fr ts⟩
theorem Zpv {m:Nat} {σ : St} (ts:List Nat) (hg:Zw7 (UZ σ.fr ts)=true):Ent m σ ⟨UZ σ.fr ts,σ.hp,σ.n,σ.N,[]⟩:=by
 intro C E a w _ h
 refine ⟨E,fun t=>?_,h.sz,h.df,fun t j b s ht=>absurd ht (ZdO hg t j b s),h.hs⟩
 have hfr:=h.fr t
 rcases Zi4 (ZcO σ.fr ts) t with h1 | h1
 . rw [h1];exact trivial
 . rw [h1]
   have:=ZdO hg t
   rw [h1] at this
   cases hq:lk t σ.fr<;>rw [hq] at hfr this<;>first | exact hfr | exact absurd rfl (this _ _ _)
theorem Zy0 {m:Nat} {f:CT} {σ : St} {K:Ex->St->Prop} {S:Type} (ts:List Nat) (hg:Zw7 (UZ σ.fr ts)=true) (ov:S->List (Nat × SV)) (hv:S->List (Nat × HB)) (rel:S->Prop) (μ : S->Nat) (s0:S) (h0:rel s0)
 (he:Ent m ⟨UZ σ.fr ts,σ.hp,σ.n,σ.N,[]⟩ (stO ⟨UZ σ.fr ts,σ.hp,σ.n,σ.N,[]⟩ ov hv s0))
 (hb:∀ s,rel s->f (stO ⟨UZ σ.fr ts,σ.hp,σ.n,σ.N,[]⟩ ov hv s) (Zmc m (stO ⟨UZ σ.fr ts,σ.hp,σ.n,σ.N,[]⟩ ov hv) rel μ s K)):Zsc m f σ K :=
 Zb1 (Zpv ts hg) ov hv rel μ s0 h0 he hb
end Go.Sx
namespace Go.Azalai
def XF (p:Pact) (l:List Letter):Int:=if l.length > 100 then 4 else if l.all (Zn p)=false then 81 else if ZbY l=true then 82 else 0
theorem Zet {p:Pact} {l:List Letter} (h:ZK p=true):YB p l=XF p l:=by simp [YB,XF,h]
end Go.Azalai
namespace Go.Proofs.Ythilckbkffjliaa
open Go Go.Sx Go.Azalai
theorem Zf9 (p:Pact) (l:List Letter) (hs:YY p) (hl:l.length<=1000) (c:Bool):Ct Try.prog 51 [.agg (Zg p),.sl c 8 (l.map Zb)] (I (XF p l)):=by
 refine t51.1 (by simp [Zg,Za,Zb,Zc,KFL,KF]) (by simp [KFL,KF]) ?_
 dsimp only [c51,r51,Zg,go_sem,rA,rM,rS]
 simp only [List.length_map]
 by_cases h100:l.length > 100
 . refine ZU (by simp;omega) ?_
   dsimp only [go_sem,rA,rM,rS]
   simp [XF,h100]
 refine ZH (by simp;omega) ?_
 dsimp only [go_sem,rA,rM,rS]
 refine YM (fun s:Nat=>[(5,I (s:Nat))]) (fun _=>[]) (fun s=>s<=l.length/\∀ i (hi:i < l.length),i < s->Zn p l[i]=true) (fun s=>l.length - s) 0 ⟨Nat.zero_le _,fun i _ h=>by omega⟩ ?_ ?_
 . (refine Zh ?_ ?_ ?_ rfl rfl<;>dsimp only [Zg,Za,Zb,id,go_sem,rA,rM,rS]<;>simp [Zg,Za,Zb,Zc,Zf,KFR,KFL,KF,Zd,mtO,nbr])
 intro k ⟨hk,hok⟩
 dsimp only [go_sem,rA,rM,rS]
 simp only [List.length_map]
 by_cases hlt:k < l.length
 . refine ZU (by simpa using hlt) ?_
   dsimp only [go_sem,rA,rM,rS]
   refine ZQ k hlt rfl ?_
   dsimp only [Zb,go_sem,rA,rM,rS]
   refine call (ZgV p l[k] hs) ?_
   dsimp only [go_sem,rA,rM,rS]
   by_cases hb:Zn p l[k]=true
   case neg =>
    refine ZU (by simpa using hb) ?_
    dsimp only [go_sem,rA,rM,rS]
    have:l.all (Zn p)=false:=by
     rw [<- Bool.not_eq_true,List.all_eq_true]
     exact fun h=>hb (h _ (List.getElem_mem _))
    simp [XF,h100,this]
   refine ZH (by simpa using hb) ?_
   dsimp only [go_sem,rA,rM,rS]
   rw [Zk (n:=(k:Int)+1) (by omega) (by omega)]
   refine ⟨k+1,⟨hlt,fun i hi h=>?_⟩,by omega,?_⟩
   . by_cases e:i=k
     . subst e;exact hb
     . exact hok i hi (by omega)
   (refine Zh ?_ ?_ ?_ rfl rfl<;>dsimp only [Zg,Za,Zb,id,go_sem,rA,rM,rS]<;>simp [Zg,Za,Zb,Zc,Zf,KFR,KFL,KF,Zd,mtO,nbr])
 refine ZH (by simpa using hlt) ?_
 dsimp only [go_sem,rA,rM,rS]
 have hall:l.all (Zn p)=true:=by
  rw [List.all_eq_true]
  intro x hx
  obtain ⟨i,hi,rfl⟩:=List.getElem_of_mem hx
  exact hok i hi (by omega)
 refine YM (fun s:Nat=>[(6,I (s:Nat))]) (fun _=>[]) (fun s=>s<=l.length/\∀ i j (hi:i < l.length) (hj:j < l.length),i < s->j < i->l[i].id=l[j].id->l[i]=l[j]) (fun s=>l.length - s) 0 ⟨Nat.zero_le _,fun i j _ _ h=>by omega⟩ ?_ ?_
 . (refine Zh ?_ ?_ ?_ rfl rfl<;>dsimp only [Zg,Za,Zb,id,go_sem,rA,rM,rS]<;>simp [Zg,Za,Zb,Zc,Zf,KFR,KFL,KF,Zd,mtO,nbr])
 intro a ⟨ha,hI⟩
 dsimp only [go_sem,rA,rM,rS]
 simp only [List.length_map]
 by_cases hlta:a < l.length
 . refine ZU (by simpa using hlta) ?_
   dsimp only [go_sem,rA,rM,rS]
   refine YM (fun s:Nat=>[(7,I (s:Nat))]) (fun _=>[]) (fun s=>s<=a/\∀ j (hj:j < l.length),j < s->l[a].id=l[j].id->l[a]=l[j]) (fun s=>a - s) 0 ⟨Nat.zero_le _,fun j _ h=>by omega⟩ ?_ ?_
   . (refine Zh ?_ ?_ ?_ rfl rfl<;>dsimp only [Zg,Za,Zb,id,go_sem,rA,rM,rS]<;>simp [Zg,Za,Zb,Zc,Zf,KFR,KFL,KF,Zd,mtO,nbr])
   intro b ⟨hb,hJ⟩
   dsimp only [go_sem,rA,rM,rS]
   by_cases hltb:b < a
   . refine ZU (by simpa using hltb) ?_
     dsimp only [go_sem,rA,rM,rS]
     have hbl:b < l.length:=by omega
     refine ZQ a hlta rfl ?_
     dsimp only [Zb,go_sem,rA,rM,rS]
     refine ZQ b hbl rfl ?_
     dsimp only [Zb,go_sem,rA,rM,rS]
     by_cases hid:l[a].id=l[b].id
     . have g:(l[a].id == l[b].id)=true:=by simp [hid]
       simp only [g]
       repeat (first | (refine Zx rfl ?_;dsimp only [go_sem,rA,rM,rS]) | (refine ZQ a hlta rfl ?_;dsimp only [Zb,go_sem,rA,rM,rS]) | (refine ZQ b hbl rfl ?_;dsimp only [Zb,go_sem,rA,rM,rS]))
       by_cases he:l[a]=l[b]
       . refine ZH ?_ ?_
         . rw [eqLt];simp [ngB,he]
         dsimp only [go_sem,rA,rM,rS]
         rw [Zk (n:=(b:Int)+1) (by omega) (by omega)]
         refine ⟨b+1,⟨hltb,fun j hj h q=>?_⟩,by omega,?_⟩
         . by_cases e:j=b
           . subst e;exact he
           . exact hJ j hj (by omega) q
         (refine Zh ?_ ?_ ?_ rfl rfl<;>dsimp only [Zg,Za,Zb,id,go_sem,rA,rM,rS]<;>simp [Zg,Za,Zb,Zc,Zf,KFR,KFL,KF,Zd,mtO,nbr])
       . refine ZU ?_ ?_
         . rw [eqLt];simp [ngB,he]
         dsimp only [go_sem,rA,rM,rS]
         have:ZbY l=true:=by
          rw [<- Bool.not_eq_false]
          exact fun h=>he (We h _ (List.getElem_mem _) _ (List.getElem_mem _) hid)
         simp [XF,h100,hall,this]
     . have g:(l[a].id == l[b].id)=false:=by simp [hid]
       simp only [g]
       repeat (refine Zu (by decide) ?_;dsimp only [go_sem,rA,rM,rS])
       refine ZH rfl ?_
       dsimp only [go_sem,rA,rM,rS]
       rw [Zk (n:=(b:Int)+1) (by omega) (by omega)]
       refine ⟨b+1,⟨hltb,fun j hj h q=>?_⟩,by omega,?_⟩
       . by_cases e:j=b
         . subst e;exact absurd q hid
         . exact hJ j hj (by omega) q
       (refine Zh ?_ ?_ ?_ rfl rfl<;>dsimp only [Zg,Za,Zb,id,go_sem,rA,rM,rS]<;>simp [Zg,Za,Zb,Zc,Zf,KFR,KFL,KF,Zd,mtO,nbr])
   refine ZH (by simpa using hltb) ?_
   dsimp only [go_sem,rA,rM,rS]
   rw [Zk (n:=(a:Int)+1) (by omega) (by omega)]
   refine ⟨a+1,⟨hlta,fun i j hi hj h1 h2 q=>?_⟩,by omega,?_⟩
   . by_cases e:i=a
     . subst e;exact hJ j hj (by omega) q
     . exact hI i j hi hj (by omega) h2 q
   (refine Zh ?_ ?_ ?_ rfl rfl<;>dsimp only [Zg,Za,Zb,id,go_sem,rA,rM,rS]<;>simp [Zg,Za,Zb,Zc,Zf,KFR,KFL,KF,Zd,mtO,nbr])
 refine ZH (by simpa using hlta) ?_
 dsimp only [go_sem,rA,rM,rS]
 have h2:ZbY l=false:=ZbU fun x hx y hy q=>by
  obtain ⟨i,hi,rfl⟩:=List.getElem_of_mem hx
  obtain ⟨j,hj,rfl⟩:=List.getElem_of_mem hy
  rcases Nat.lt_trichotomy i j with h | h | h
  . exact (hI j i hj hi (by omega) h q.symm).symm
  . subst h;rfl
  . exact hI i j hi hj (by omega) h q
 simp [XF,h100,hall,h2]
theorem Zo4 (p:Pact) (l:List Letter) (hs:YY p) (hl:l.length<=1000) (c:Bool):Ct Try.prog 35 [.agg (Zg p),.sl c 8 (l.map Zb)] (B (decide (YB p l=0))):=by
 refine t35.1 (by simp [Zg,Za,Zb,Zc,KFL,KF]) (by simp [KFL,KF]) ?_
 dsimp only [c35,r35,Zg,go_sem,rA,rM,rS]
 refine call (Zfd p l c) ?_
 dsimp only [go_sem,rA,rM,rS]
 repeat (first | (refine gb ?_;dsimp only [go_sem,rA,rM,rS]) | (refine call (ZjA p hs) ?_;dsimp only [go_sem,rA,rM,rS]) | (refine call (Zf9 p l hs hl c) ?_;dsimp only [go_sem,rA,rM,rS]))
 simp only [Option.some.injEq,SV.v.injEq,Value.bool.injEq]
 by_cases hp:ZK p=true
 . rw [Zet hp]
   have h8:=(Y7 hp).2.2.2.2.2.2
   simp only [Zc6,hp,if_true]
   by_cases h100:l.length > 100
   . simp [XF,h100]
   . have hg:UN p l=false:=by simp [UN];omega
     simp only [hg]
     rw [Bool.eq_iff_iff]
     simp
 . have:YB p l=80:=by simp [YB,hp]
   simp [Zc6,hp,this]
def YT:Pact:=⟨[⟨1,600,500⟩,⟨2,300,200⟩,⟨3,0,300⟩],500,2,100⟩
def Yd:List Letter:=[⟨10,5,3,3,0,7,0,false⟩,⟨11,20,6,0,8,7,101,false⟩,⟨12,30,5,0,0,7,0,false⟩,⟨13,50,1,0,0,0,1000,false⟩,⟨14,60,2,0,0,0,300,false⟩]
def UI:Letter:=⟨15,25,6,0,8,7,90,false⟩
def Za5:List Letter:=[⟨16,21,7,1,2,0,40,false⟩,⟨17,22,8,1,2,0,50,false⟩,⟨18,23,8,1,2,0,30,false⟩]
def Y1:List Letter:=[⟨10,5,3,3,0,7,0,false⟩,⟨11,20,6,0,8,7,101,false⟩,⟨12,30,5,0,0,7,0,true⟩,⟨13,50,1,0,0,0,1000,false⟩,⟨14,60,2,0,0,0,300,false⟩]
theorem ZoZ {l l':List SV} (h:∀ (w:World) (E:Env) (n ok:Nat->Prop) (ys:List Value),RL w E n ok l ys->RL w E n ok l' ys):ZbX (.agg l) (.agg l'):=fun w E n ok y hy=>by
 simp only [R] at hy ⊢
 obtain ⟨cs,h1,h2⟩:=hy
 exact ⟨cs,h1,h _ _ _ _ _ h2⟩
theorem Vd:Ct Try.prog 38 [] (.agg (Zg YT)):=by
 refine Ct.res (res:=.agg [.sl true 3 (YT.partners.map Za),I YT.calf,I YT.hire,I YT.ends]) ?_ (by simp [Zg,YT,Za,KFR,KFL,KF]) (ZoZ (Wk ZzV Zz2))
 refine t38.1 (by simp [KFL,KF]) (by simp [Zg,YT,Za,KFR,KFL,KF]) ?_
 dsimp only [c38,r38,go_sem,rA,rM,rS]
 simp [YT,Za]
theorem VJ:Ct Try.prog 39 [] (.sl true 8 (Yd.map Zb)):=by
 refine t39.1 (by simp [KFL,KF]) (by simp [Yd,Zb,KFR,KFL,KF]) ?_
 dsimp only [c39,r39,go_sem,rA,rM,rS]
 simp [Yd,Zb]
theorem Zlj:Ct Try.prog 40 [] (.agg (Zb UI)):=by
 refine t40.1 (by simp [KFL,KF]) (by simp [UI,Zb,KFR,KFL,KF]) ?_
 dsimp only [c40,r40,go_sem,rA,rM,rS]
 simp [UI,Zb]
theorem Zlc:Ct Try.prog 41 [] (.sl true 8 (Za5.map Zb)):=by
 refine t41.1 (by simp [KFL,KF]) (by simp [Za5,Zb,KFR,KFL,KF]) ?_
 dsimp only [c41,r41,go_sem,rA,rM,rS]
 simp [Za5,Zb]
end Go.Proofs.Ythilckbkffjliaa
namespace Go.Sx
open Go Go.RowKit
section
variable {P:Program} {C:Cx} {E:Env} {σ : St} {a:Act} {w:World} {n:Nat->Prop} {hp:List (Nat × HB)} {r:KT} {K:RK}
theorem ZnL {t T m len:Nat} {parts:Array (Nat × Operand)} {ps:List X} {rows:List (List SV)} {ρ : X->SV} (hρ : ∀ x ∈ ps,R w E n (okS C E hp) (ρ x) (evX a x))
 (hu:P.underlying t=some (.slice T)) (hm:XD P T=some m) (hl:len * m<=2 ^ 24) (hpl:ps.length=len) (hm0:m≠0) (hz:∃ z,Z8 P T=some z/\z.cells.size=m)
 (hx:Wx ps (parts.toList.map (·.2))=true) (hi:parts.toList.map (·.1)=List.range len) (hrows:Zfe ρ m ps=some rows) :
 ∃ cs:List Value,(Instr.buildSlice t len (parts.map fun (i,x)=>(i,a.eval x))).run P w = .ok (.slice (some ⟨w.heap.size,0,none⟩) len len) (w.alloc (.cells cs.toArray T))/\cs.length=len * m/\rows.length=len /\
  (∀ r ∈ rows,r.length=m)/\RL w E n (okS C E hp) rows.flatten cs:=by
 obtain ⟨z,hz1,hz2⟩:=hz
 obtain ⟨hr1,hr2⟩:=Zb0 (a:=a) hρ hrows
 let vs:=ps.map (evX a)
 have hvs:∀ v ∈ vs,v.cells.size=m:=by
  intro v hv
  obtain ⟨i,hi',rfl⟩:=List.getElem_of_mem hv
  simp only [vs,List.length_map] at hi'
  obtain ⟨row,k1,k2,k3⟩:=hr2 i hi'
  have:=ZD k3
  simp only [vs,List.getElem_map]
  rw [<- Array.length_toList,this,k2]
 have hparts:(parts.map fun (i,x)=>(i,a.eval x)).toList=(List.range len).zip vs:=by
  rw [<- hi]
  have h2:=YF hx a
  apply List.ext_getElem?
  intro j
  simp only [vs,<- h2,Array.toList_map,List.zip,List.getElem?_zipWith,List.getElem?_map]
  cases parts.toList[j]?<;>simp
 let Z:=(Array.range (len * m)).map (fun i=>z.cells[i % z.cells.size]!)
 have hZ:Z.toList.length=(0+vs.length) * m:=by simp [Z,vs,hpl]
 have hf:=Zcz (fun i=>some (i * m,m)) ((List.range len).zip vs) (UV m 0 vs) Z (by simp [Xz,vs,hpl]) (fun i h h'=>by
  have hlt:i < vs.length:=by rw [Xz] at h';exact h'
  refine ⟨m,?_,?_,?_,?_⟩
  . have:=XN m vs 0 i
    rw [List.getElem?_eq_getElem hlt,List.getElem?_eq_getElem h'] at this
    simp at this
    simp [this]
  . have:=XN m vs 0 i
    rw [List.getElem?_eq_getElem hlt,List.getElem?_eq_getElem h'] at this
    simp at this
    simp [this]
  . simp;exact hvs _ (List.getElem_mem _)
  . have:=XN m vs 0 i
    rw [List.getElem?_eq_getElem hlt,List.getElem?_eq_getElem h'] at this
    simp at this
    rw [this];simp only [Z,Array.size_map,Array.size_range]
    have:i+1<=len:=by simp [vs,hpl] at hlt;omega
    calc i * m+m=(i+1) * m:=by rw [Nat.add_mul];omega
     _<=len * m:=Nat.mul_le_mul_right m this)
 rw [Uv m vs 0 _ hZ hvs] at hf
 simp only [Nat.zero_mul,List.take_zero,List.nil_append] at hf
 let cs:=vs.flatMap (·.cells.toList)
 have hflat:∀ (qs:List X) (rs:List (List SV)),rs.length=qs.length->(∀ i (h:i < qs.length),∃ row,rs[i]? = some row/\row.length=m/\RL w E n (okS C E hp) row (evX a qs[i]).cells.toList) ->
  RL w E n (okS C E hp) rs.flatten ((qs.map (evX a)).flatMap (·.cells.toList))/\((qs.map (evX a)).flatMap (·.cells.toList)).length=qs.length * m/\∀ r ∈ rs,r.length=m:=by
  intro qs
  induction qs with
  | nil=>intro rs h _;have:=List.eq_nil_of_length_eq_zero h;subst this;exact ⟨by simp [RL],by simp,by simp⟩
  | cons x qs ih =>
   intro rs h hq
   cases rs with
   | nil=>simp at h
   | cons y rs =>
    obtain ⟨q1,q2,q3⟩:=ih rs (by simpa using h) (fun i hi'=>by have:=hq (i+1) (by simp;omega);simpa using this)
    obtain ⟨row,k1,k2,k3⟩:=hq 0 (by simp)
    simp only [List.getElem?_cons_zero,Option.some.injEq] at k1
    subst k1
    simp only [List.getElem_cons_zero] at k3
    refine ⟨?_,?_,fun r hr=>?_⟩
    . simp only [List.flatten_cons,List.map_cons,List.flatMap_cons]
      exact Yj k3 q1
    . simp only [List.map_cons,List.flatMap_cons,List.length_append,q2,List.length_cons]
      have:=ZD k3
      rw [this,k2,Nat.add_mul];omega
    . rcases List.mem_cons.1 hr with rfl | hr
      . exact k2
      . exact q3 r hr
 obtain ⟨f1,f2,f3⟩:=hflat ps rows hr1 hr2
 refine ⟨cs,?_,by rw [show cs=(ps.map (evX a)).flatMap (·.cells.toList) from rfl,f2,hpl],by rw [hr1,hpl],f3,f1⟩
 have hlm:¬ len * m > 2 ^ 24:=by omega
 simp only [Instr.buildSlice,Sem.run_bind,run_underlying hu,Result.andThen_ok,Z7 hm,if_neg hlm]
 by_cases h0:len * m=0
 . have hlen0:len=0:=by rcases Nat.mul_eq_zero.1 h0 with h | h<;>first | exact h | exact absurd h hm0
   have hps:ps=[]:=by cases ps<;>simp_all
   subst hps;subst hlen0
   have hpn:parts = #[]:=by
    apply Array.toList_inj.1;cases hq:parts.toList<;>simp_all
   subst hpn
   have e0:(Array.map (fun _=>(default:Value)) (Array.range 0)) = #[]:=by apply Array.toList_inj.1;simp
   simp [Instr.fill,newRow,cs,vs,e0]
 . simp only [if_neg h0,Sem.run_bind,Y8 hz1,Result.andThen_ok,Sem.run_pure]
   rw [show ((Array.range (len * m)).map fun i=>z.cells[i % z.cells.size]!)=Z from rfl,hparts,hf]
   simp [newRow];rfl
theorem ZqR {u t T m len ty:Nat} {parts:Array (Nat × Operand)} {rows:List (List SV)} (ps:List X) (h1:Xr u σ.gs=false) (h2:Nat.blt u σ.N=true)
 (hu:P.underlying t=some (.slice T)) (hm:XD P T=some m) (hl:len * m<=2 ^ 24) (hpl:ps.length=len) (hm0:m≠0) (hl0:len≠0) (hz:∃ z,Z8 P T=some z/\z.cells.size=m)
 (hx:Wx ps (parts.toList.map (·.2))=true) (hi:parts.toList.map (·.1)=List.range len) (hrows:Zfe (rdG none σ.fr) m ps=some rows)
 (h:r ⟨(u,.mr σ.n 0) :: σ.fr,(σ.n,.row 0 m rows T) :: σ.hp,σ.n+1,σ.N,σ.gs⟩ K):RAW P (some u) (.buildSlice t len parts) ty σ r K:=by
 intro o C E a w next Q e1 e2 e3 hS hn hq
 obtain ⟨cs,g1,g2,g3,g4,g5⟩:=ZnL (P:=P) (a:=a) (w:=w) (E:=E) (n:=ltn σ.n) (C:=C) (hp:=σ.hp) (fun x _=>YJ hS.fr (g:=none) trivial x) hu hm hl hpl hm0 hz hx hi hrows
 have hbel:Below w.heap.size w (w.alloc (.cells cs.toArray T)):=(Below.refl _ _).alloc (Nat.le_refl _) _
 have hle:len<=len * m:=Nat.le_mul_of_pos_right _ (by omega)
 obtain ⟨E',k1,k2,k3,k4,k5⟩:=XP (q:=σ.n) (m:=m) (xs:=rows) (T:=T) (v:=.slice (some ⟨w.heap.size,0,none⟩) len len) hS.hs (by simp [ltn]) hbel
  (.inr ⟨len,cs.toArray,by rw [g3],heap_alloc_new _ _,by simp [g2],⟨by omega,hl0⟩,by omega,g4,by rw [g3,<- g2];simpa using g5⟩)
 have hV:(fun k=>ltn σ.n k\/k = σ.n)=ltn (σ.n+1):=by funext k;simp only [ltn,eq_iff_iff];omega
 rw [hV] at k4
 have hrun:(execOp a.eval o).run P w = .ok (.value (.slice (some ⟨w.heap.size,0,none⟩) len len)) (w.alloc (.cells cs.toArray T)):=by
  obtain ⟨dst',op',ty',pos,after,guard⟩:=o
  simp only at e2;subst e2
  simp [execOp,Sem.run_bind,g1,Sem.run_pure]
 refine Zz hrun (by simp) ?_
 show next (a.put o.dst _) _
 rw [e1]
 refine hn _ E' _ _ h (Xd hS k5 k1 (by omega) k4 (fun hh=>?_) (by simpa [Nat.blt_eq] using h2) (fun _ _ _ e=>by cases e) ?_)
 . rw [Z0.2 hh] at h1;cases h1
 . simp only [R];exact ⟨by simp [ltn],by omega,by rw [k2];exact ⟨rfl,rfl⟩⟩
end
end Go.Sx
namespace Go.Proofs.Ythilckbkffjliaa
open Go Go.Sx
def cx39:SC:=(sr1 [
 o1 0 (.mv (.c (.slice none 0 0)))]
 (sr1 [
 o1 1 (.build zv0 [(0,1,.c (.int .i64 10)),(1,1,.c (.int .i64 5)),(2,1,.c (.int .u8 3)),(3,1,.c (.int .i64 3)),(5,1,.c (.int .i64 7))]),
 o1 2 (.build zv0 [(0,1,.c (.int .i64 11)),(1,1,.c (.int .i64 20)),(2,1,.c (.int .u8 6)),(5,1,.c (.int .i64 7)),(4,1,.c (.int .i64 8)),(6,1,.c (.int .i64 101))]),
 o1 3 (.build zv0 [(0,1,.c (.int .i64 12)),(1,1,.c (.int .i64 30)),(2,1,.c (.int .u8 5)),(5,1,.c (.int .i64 7))]),
 o1 4 (.build zv0 [(0,1,.c (.int .i64 13)),(1,1,.c (.int .i64 50)),(2,1,.c (.int .u8 1)),(6,1,.c (.int .i64 1000))]),
 o1 5 (.build zv0 [(0,1,.c (.int .i64 14)),(1,1,.c (.int .i64 60)),(2,1,.c (.int .u8 2)),(6,1,.c (.int .i64 300))]),
 o1 6 (.raw (Go.Op.buildSlice 38 5 #[(0,(Go.Operand.tmp 1)),(1,(Go.Operand.tmp 2)),(2,(Go.Operand.tmp 3)),(3,(Go.Operand.tmp 4)),(4,(Go.Operand.tmp 5))]) 38),
 m1 0 6]
 .ret))
def rx39:List RV:=[.tmp 0]
theorem nx39:Try.f39.ntmps=7:=by kernel_rfl
theorem bx39:Yc Try.prog 39=true:=by kernel_rfl
theorem Zwu:YQ Try.prog cx39 ((Try.f39.body).getD .skip)=true:=by kernel_rfl
theorem ZuO:Xb Try.prog rx39 Try.f39.results.toList=true:=by kernel_rfl
theorem mx39 {n0:Nat} {hp0:List (Nat × HB)} {args:List SV} {ZA:Ot->Prop} (hh:hpb n0 hp0) (hx:∀ o,ZA o->KX o.res/\KXP o.hp) (h:sx Try.prog Y0 n0 cx39 ⟨Y3 0 args,hp0,n0,7,[]⟩ (Wt rx39 fun o=>∃ o',ZA o'/\WR n0 o o')) (hA:Nat.ble args.length 7=true:=by rfl):CtM Try.prog 39 hp0 n0 args ZA:=Zy Try.func39 rfl bx39 Zwu ZuO nx39 (Nat.le_of_ble_eq_true hA) hh hx h
def cx59:SC:=(sr1 [
 o1 0 (.mv (.c (.slice none 0 0)))]
 (sr1 [
 o1 2 (.callm 39 []),
 m1 1 2]
 (sr1 [
 m1 3 1,
 o1 4 (.ixs (.t 3) (.c (.int .i64 2)) 8),
 o1 5 (.addo (.t 4) 7),
 ⟨none,.st (.t 5) (.c (.bool true)) 1,none,[]⟩]
 (sr1 [
 m1 6 1,
 m1 0 6]
 .ret))))
def rx59:List RV:=[.tmp 0]
theorem tx59:Qt1 Try.prog 59 cx59 rx59 7:=XC Try.func59 rfl (by kernel_rfl) (by kernel_rfl) (by kernel_rfl) (by kernel_rfl)
open Go.Azalai
theorem u38:Try.prog.underlying 38=some (.slice 50):=by kernel_rfl
theorem s50:XD Try.prog 50=some 8:=by kernel_rfl
def ltO:Ot:=⟨false,.mr 0 0,[(0,.row 0 8 (Yd.map Zb) 50)],1⟩
theorem Zem:CtM Try.prog 39 [] 0 [] (fun o=>o=ltO):=by
 refine mx39 (by simp [hpb]) (fun o ho=>by subst ho;simp [ltO,KX,KXL,KXP,KXH,Zc,KFL,KF,Zb]) ?_
 dsimp only [cx39,rx39,go_sem,rA,rM,rS]
 refine ZqR [.t 1,.t 2,.t 3,.t 4,.t 5] rfl rfl u38 s50 (by decide) rfl (by decide) (by decide) ⟨_,rfl,by kernel_rfl⟩ rfl rfl rfl ?_
 dsimp only [go_sem,rA,rM,rS]
 refine ⟨_,rfl,?_⟩
 simp only [ltO,Yd,List.map]
 (refine Zr ?_ ?_ ?_ rfl<;>dsimp only [Zb,id,go_sem,rA,rM,rS]<;>simp [Zb,Zc,Zf,KFR,KFL,KF,Zd,mtO,nbr])
theorem Zgw:Ct Try.prog 59 [] (.sl false 8 (Y1.map Zb)):=by
 refine tx59.1 (by simp [KFL,KF]) (by simp [Y1,Zb,KFR,KFL,KF]) ?_
 dsimp only [cx59,rx59,go_sem,rA,rM,rS]
 refine Zv [] Zem rfl rfl rfl ?_ ?_ ?_
 . (repeat first | dsimp only [go_sem,rA,rM,rS] | simp only [nbr])
   try simp [mtL,mtB,mtS]
 . trivial
 rintro _ rfl
 (repeat first | dsimp only [ltO,go_sem,rA,rM,rS] | simp only [nbr])
 refine XU 2 rfl (by decide) ?_
 (repeat first | dsimp only [go_sem,rA,rM,rS] | simp only [nbr])
 refine ZdG ⟨12,30,5,0,0,7,0,true⟩ (by decide) (by simp [Zb]) (by simp [Zb,Zw,Yd]) ?_
 (repeat first | dsimp only [go_sem,rA,rM,rS] | simp only [nbr])
 rfl
end Go.Proofs.Ythilckbkffjliaa
namespace Go.Azalai
theorem Zmr {p:Pact} {c d:Co} (h:c.debts=d.debts) (id:Int):Wi p c id=Wi p d id:=by simp only [Wi,h]
theorem Zsk {p:Pact} {c d:Co} (h1:U0 p c=U0 p d) (h2:∀ w,Zbg p c w=Zbg p d w) (h3:c.debts=d.debts):UX p c=UX p d:=by
 simp only [UX,h1,h2,Zmr h3]
def ZyW (p:Pact) (c:Co) (a:Int):Co:=match c.loans a with
 | none=>c
 | some l=>Yb p c a p.ends l
theorem Zix {p:Pact} {c:Co} {a:Int} (h0:0<=a) (h1:a<=9999):UX p (ZyW p c a)=UX p c:=by
 unfold ZyW
 split
 . rfl
 . rename_i l hl
   exact Zsk (ZcH hl h0 h1) (ZcM hl h0 h1) rfl
def hasN (p:Pact) (c:Co):List Int :=
 (List.range p.partners.length).map fun i=>ZrG (fun x=>x.put+(Z1 p c.result).getD i 0+c.extra x.id+Wi p c x.id) p.partners[i]?
theorem ZkJ {p:Pact} {c:Co} (h:∀ a,c.loans a=none):UX p c=hasN p c:=by
 simp only [UX,hasN,Zdj h,ZdB h]
theorem Zda {p:Pact} {a:Int}:∀ {l:List Letter} {c:Co},(∀ b,b≠a->c.loans b=none)->(∀ x ∈ l,x.kind=3->x.animal=a)->∀ b,b≠a->(WT p c l).loans b=none
 | [],c,h,_,b,hb=>h b hb
 | x :: l,c,h,hl,b,hb=>by
  refine Zda (l:=l) (c:=(ZG p c x).1) (fun b hb=>?_) (fun y hy=>hl y (by simp [hy])) b hb
  have h0:=h b hb
  have h3:=hl x (by simp)
  unfold ZG
  repeat' split
  all_goals first | exact h0 | (simp only [upd,Yb];split<;>first | rfl | exact h0 | (rename_i q;exact absurd (q.trans (h3 (by assumption))) hb))
theorem Vj {p:Pact} {l:List Letter} {a:Int} (h0:0<=a) (h1:a<=9999) (hl:∀ x ∈ l,x.kind=3->x.animal=a):Yl p l=hasN p (ZyW p (WT p co0 l) a):=by
 rw [Yl,<- Zix h0 h1]
 refine ZkJ fun b=>?_
 have ho:=Zda (p:=p) (c:=co0) (fun _ _=>rfl) hl
 by_cases e:b=a
 . subst e
   unfold ZyW
   split
   . assumption
   . simp [Yb,upd]
 . have:=ho b e
   unfold ZyW
   split
   . exact this
   . simp only [Yb,upd,if_neg e];exact this
end Go.Azalai
namespace Go.Proofs.Ythilckbkffjliaa
open Go Go.Sx Go.Azalai
theorem v1:Z1 YT 1001=[501,200,300]:=by decide +kernel
theorem v2:Z1 YT (-100)=[-67,-33,0]:=by decide +kernel
theorem e3:YB YT Yd=0:=by decide +kernel
theorem e4:YB YT (Yd ++ Za5)=0:=by decide +kernel
theorem e5:YB YT (Yd ++ [UI])=0:=by decide +kernel
theorem e6:YB YT Y1=0:=by decide +kernel
theorem v3:Wv YT Yd=[951,440,310]:=by
 rw [Wv,if_pos e3,Vj (a:=7) (by decide) (by decide) (by decide +kernel)];decide +kernel
theorem v4:Wv YT (Yd ++ Za5)=[941,450,310]:=by
 rw [Wv,if_pos e4,Vj (a:=7) (by decide) (by decide) (by decide +kernel)];decide +kernel
theorem v5:ZfX YT (Yd ++ [UI])=[0,0,4,0,0,0]:=by
 rw [ZfX,if_pos e5];decide +kernel
theorem v60:Yl YT (ZT 0 0 Y1)=[881,412,408]:=by
 rw [Vj (a:=7) (by decide) (by decide) (by decide +kernel)];decide +kernel
theorem v61:Yl YT (ZT 1 0 Y1)=[951,440,310]:=by
 rw [Vj (a:=7) (by decide) (by decide) (by decide +kernel)];decide +kernel
theorem rd6:YD YT Y1=Y1:=by decide +kernel
theorem v6:Xj YT Y1=0/\Ww YT Y1=[(881,951),(412,440),(310,408)]:=by
 have h0:Xj YT Y1=0:=by rw [Xj,if_pos e6,rd6];decide +kernel
 refine ⟨h0,?_⟩
 rw [Ww,if_pos h0,rd6]
 have hm:(Y1.filter (·.mouth)).length=1:=by decide +kernel
 simp only [XM,hm]
 rw [show List.range YT.partners.length=[0,1,2] from by decide]
 simp only [List.map_cons,List.map_nil,show 2 ^ 1 - 1=1 from rfl,Zbn,ZbP,Zq,v60,v61]
 decide
theorem UF:YY YT:=by show YT.partners.length<=1000;decide
theorem Zov:Ct Try.prog 34 [] (B true):=by
 refine t34.1 (by simp [KFL,KF]) (by simp [KFL,KF]) ?_
 dsimp only [c34,r34,go_sem,rA,rM,rS]
 refine call Vd ?_
 dsimp only [go_sem,rA,rM,rS]
 have hd1:=Zdg YT 1001 UF
 have hd2:=Zdg YT (-100) UF
 have hp:ZK YT=true:=by decide +kernel
 simp only [hp,show inR (-10000000000) 10000000000 1001=true from by decide,show inR (-10000000000) 10000000000 (-100)=true from by decide,and_self,if_true,v1,v2] at hd1 hd2
 refine call hd1 ?_
 dsimp only [go_sem,rA,rM,rS]
 refine call Vd ?_
 dsimp only [go_sem,rA,rM,rS]
 refine call hd2 ?_
 dsimp only [go_sem,rA,rM,rS]
 refine call Vd ?_
 dsimp only [go_sem,rA,rM,rS]
 refine call VJ ?_
 dsimp only [go_sem,rA,rM,rS]
 refine call (ZaS YT Yd UF (by decide) true) ?_
 dsimp only [go_sem,rA,rM,rS]
 rw [v3,e3]
 refine call Vd ?_
 dsimp only [go_sem,rA,rM,rS]
 refine call VJ ?_
 dsimp only [go_sem,rA,rM,rS]
 refine call Zlc ?_
 dsimp only [go_sem,rA,rM,rS]
 refine app0 (by simp [Yd,Za5]) ?_
 dsimp only [go_sem,rA,rM,rS]
 rw [<- List.map_append]
 refine call (ZaS YT (Yd ++ Za5) UF (by decide) false) ?_
 dsimp only [go_sem,rA,rM,rS]
 rw [v4,e4]
 refine call Vd ?_
 dsimp only [go_sem,rA,rM,rS]
 refine call VJ ?_
 dsimp only [go_sem,rA,rM,rS]
 refine call Zlj ?_
 dsimp only [Zb,go_sem,rA,rM,rS]
 refine app0 (by simp [Yd]) ?_
 dsimp only [go_sem,rA,rM,rS]
 have ea:Yd.map Zb ++ [Zb UI]=(Yd ++ [UI]).map Zb:=by rw [List.map_append];rfl
 simp only [Zb] at ea
 rw [ea]
 refine call (Zhx YT (Yd ++ [UI]) UF (by decide) false) ?_
 dsimp only [go_sem,rA,rM,rS]
 rw [v5,e5]
 refine call Vd ?_
 dsimp only [go_sem,rA,rM,rS]
 refine call Zgw ?_
 dsimp only [go_sem,rA,rM,rS]
 refine call (ZcK YT Y1 UF (by decide) false) ?_
 dsimp only [go_sem,rA,rM,rS]
 rw [v6.1,v6.2]
 have q1:=VL [501,200,300] [501,200,300] (by decide) (by decide) false true
 have q2:=VL [-67,-33,0] [-67,-33,0] (by decide) (by decide) false true
 have q3:=VL [951,440,310] [951,440,310] (by decide) (by decide) false true
 have q4:=VL [941,450,310] [941,450,310] (by decide) (by decide) false true
 have q5:=Zk6 [(881,951),(412,440),(310,408)] [(881,951),(412,440),(310,408)] (by decide) (by decide) false true
 simp only [decide_true] at q1 q2 q3 q4 q5
 repeat (first | (refine call q1 ?_;dsimp only [go_sem,rA,rM,rS]) | (refine call q2 ?_;dsimp only [go_sem,rA,rM,rS]) | (refine call q3 ?_;dsimp only [go_sem,rA,rM,rS]) | (refine call q4 ?_;dsimp only [go_sem,rA,rM,rS]) | (refine Zx rfl ?_;dsimp only [go_sem,rA,rM,rS]))
 refine Zsz (e:=5) (ns:=[0,0,4,0,0,0]) rfl (fun _ _ _ e=>by cases e) rfl (by kernel_rfl) (by kernel_rfl) (by kernel_rfl) ?_
 dsimp only [go_sem,rA,rM,rS]
 refine Zx rfl ?_
 dsimp only [go_sem,rA,rM,rS]
 refine Znh (q:=true) rfl (.inl ⟨rfl,by decide +kernel⟩) ?_
 dsimp only [go_sem,rA,rM,rS]
 repeat (first | (refine call q5 ?_;dsimp only [go_sem,rA,rM,rS]) | (refine call (Zze _ _) ?_;dsimp only [Zj,go_sem,rA,rM,rS]) | (refine Zx rfl ?_;dsimp only [go_sem,rA,rM,rS]))
 rfl
def UH (p:Pact) (l:List Letter):Bool:=!UN p l && decide (YB p l=0)
theorem Zol {p:Pact} {l:List Letter} (h:UH p l=true):YY p/\l.length<=100/\YB p l=0:=by
 simp only [UH,UN,Bool.and_eq_true,Bool.not_eq_true',Bool.or_eq_false_iff,decide_eq_false_iff_not,decide_eq_true_eq] at h
 have:=(VD h.2).2.1
 exact ⟨by show p.partners.length<=1000;omega,this,h.2⟩
theorem Zj4 (p:Pact) (l:List Letter) (c:Bool):Ct Try.prog 35 [.agg (Zg p),.sl c 8 (l.map Zb)] (B (UH p l)):=by
 by_cases hg:UN p l=true
 . have hr:UH p l=false:=by simp [UH,hg]
   rw [hr]
   refine t35.1 (by simp [Zg,Za,Zb,Zc,KFL,KF]) (by simp [KFL,KF]) ?_
   dsimp only [c35,r35,Zg,go_sem,rA,rM,rS]
   refine call (Zfd p l c) ?_
   rw [hg]
   dsimp only [go_sem,rA,rM,rS]
   repeat (refine Zu (by decide) ?_;dsimp only [go_sem,rA,rM,rS])
   try rfl
 . rw [Bool.not_eq_true] at hg
   have hr:UH p l=decide (YB p l=0):=by simp [UH,hg]
   rw [hr]
   simp only [UN,Bool.or_eq_false_iff,decide_eq_false_iff_not] at hg
   exact Zo4 p l (by show p.partners.length<=1000;omega) (by omega) c
end Go.Proofs.Ythilckbkffjliaa
namespace Go.Azalai
structure Bd (n:Nat) (c:Co):Prop where
 rb:-(n * 100000000:Int)<=c.result/\c.result<=n * 100000000
 eb:∀ i,-(n * 100000000:Int)<=c.extra i/\c.extra i<=n * 100000000
 bb:∀ x y,-(n * 100000000:Int)<=c.debts x y/\c.debts x y<=n * 100000000
 sb:∀ a l,c.loans a=some l->0<=l.2/\l.2<=100000
theorem Bd.co0:Bd 0 co0:=⟨by simp [Go.Azalai.co0],fun i=>by simp [Go.Azalai.co0],fun x y=>by simp [Go.Azalai.co0],fun a l h=>by simp [Go.Azalai.co0] at h⟩
theorem Bd.next {n:Nat} {c:Co} (h:Bd n c):Bd (n+1) c:=⟨by have:=h.rb;omega,fun i=>by have:=h.eb i;omega,fun x y=>by have:=h.bb x y;omega,h.sb⟩
theorem Bd.home {p:Pact} {n:Nat} {c:Co} (h:Bd n c) (hp:0<=p.hire/\p.hire<=1000) {a d:Int} {l:Int × Int} (hl:c.loans a=some l) (hd:0<=d/\d<=100000):Bd (n+1) (Yb p c a d l):=by
 have hs:=h.sb a l hl
 have hb:=Zd0 (h:=p.hire) (t:=d - l.2) hp.1 hp.2 (by omega) (by omega)
 refine ⟨?_,fun i=>?_,fun x y=>?_,fun i m hi=>?_⟩
 . have:=h.rb
   simp only [Yb];omega
 . have h1:=h.eb i
   have h2:=h.eb l.1
   simp only [Yb,upd]
   split<;>omega
 . have:=h.bb x y
   simp only [Yb];omega
 . simp only [Yb,upd] at hi
   split at hi
   . cases hi
   . exact h.sb i m hi
theorem Bd.deb {n:Nat} {c:Co} (h:Bd n c) {who other v:Int} (hv:-100000000<=v - c.debts who other/\v - c.debts who other<=100000000):Bd (n+1) { c with debts:=upd c.debts who (upd (c.debts who) other v) }:=by
 refine ⟨by have:=h.rb;simp only;omega,fun i=>by have:=h.eb i;simp only;omega,fun x y=>?_,h.sb⟩
 have h1:=h.bb x y
 have h2:=h.bb who other
 simp only [upd]
 by_cases hx:x=who
 . subst hx
   rw [if_pos rfl]
   simp only [upd]
   split
   . rename_i q;subst q;omega
   . omega
 . rw [if_neg hx];omega
theorem Bd.step {p:Pact} {n:Nat} {c:Co} (h:Bd n c) (hp:ZK p=true) {x:Letter} (hx:Zn p x=true):Bd (n+1) (ZG p c x).1:=by
 have hpp:(0<=p.hire/\p.hire<=1000)/\(0<=p.calf/\p.calf<=1000):=by
  simp only [ZK,Bool.and_eq_true,inR,decide_eq_true_eq] at hp
  omega
 have hday:0<=x.day/\x.day<=100000:=by
  simp only [Zn,Bool.and_eq_true,inR,decide_eq_true_eq] at hx
  exact hx.1.2
 have hrb:=h.rb
 unfold ZG
 split
 . rename_i k
   have hr:0<=x.rials/\x.rials<=10000000:=by simp only [Zn,k,Bool.and_eq_true] at hx;simp [inR] at hx;omega
   exact ⟨by simp only;omega,h.next.eb,h.next.bb,h.sb⟩
 split
 . rename_i k
   have hr:0<=x.rials/\x.rials<=10000000:=by simp only [Zn,k,Bool.and_eq_true] at hx;simp [inR] at hx;omega
   exact ⟨by simp only;omega,h.next.eb,h.next.bb,h.sb⟩
 split
 . split
   . exact h.next
   split
   . exact h.next
   . refine ⟨h.next.rb,h.next.eb,h.next.bb,fun a l hl=>?_⟩
     simp only [upd] at hl
     split at hl
     . cases hl;exact hday
     . exact h.sb a l hl
 split
 . split
   . exact h.next
   . rename_i l hl;exact h.home hpp.1 hl hday
 split
 . split
   . exact h.next
   split
   . exact h.next
   . rename_i l hl
     have:=h.home hpp.1 hl hday
     exact ⟨this.rb,this.eb,this.bb,this.sb⟩
 split
 . rename_i k
   have hr:0<=x.rials/\x.rials<=10000000:=by simp only [Zn,k,Bool.and_eq_true] at hx;simp [inR] at hx;omega
   split
   . exact h.next
   split
   . exact h.next
   . rename_i l hl
     have hb:=Go.Proofs.Ythilckbkffjliaa.part_bd hr.1 hr.2 hpp.2.1 hpp.2.2
     refine ⟨by simp only;omega,fun i=>?_,h.next.bb,h.sb⟩
     have h1:=h.eb i
     have h2:=h.eb l.1
     simp only [upd]
     split<;>omega
 split
 . rename_i k
   have hr:0<=x.rials/\x.rials<=10000000:=by simp only [Zn,k,Bool.and_eq_true] at hx;simp [inR] at hx;omega
   exact h.deb (by omega)
 split
 . rename_i k
   have hr:0<=x.rials/\x.rials<=10000000:=by simp only [Zn,k,Bool.and_eq_true] at hx;simp [inR] at hx;omega
   split
   . exact h.next
   . exact h.deb (by omega)
 . exact h.next
theorem Bd.run {p:Pact} (hp:ZK p=true):∀ {l:List Letter} {n:Nat} {c:Co},Bd n c->(∀ x ∈ l,Zn p x=true)->Bd (n+l.length) (WT p c l)
 | [],_,_,h,_=>h
 | x :: l,n,c,h,hl=>by
  have:=Bd.run (l:=l) hp (h.step hp (hl x (by simp))) fun y hy=>hl y (by simp [hy])
  rw [List.length_cons,show n+(l.length+1)=n+1+l.length from by omega]
  exact this
theorem Zmy {p:Pact} {l few:List Letter} (h0:YB p l=0) (hs:few.Sublist (YD p l)):YB p few=0/\YD p few=few:=by
 obtain ⟨hp,h100,hok,h2⟩:=VD h0
 have hlen:=hs.length_le
 have hlr:=W1 (p:=p) (l:=l)
 refine ⟨?_,ZgP h2 hs⟩
 have h3:=ZbR (ZbE h2) fun _ hx=>hs.subset hx
 have ha:few.all (Zn p)=true:=List.all_eq_true.2 fun x hx=>U4 h0 x (hs.subset hx)
 rw [Zet hp]
 simp only [XF,ha,h3]
 simp;omega
theorem Zfy {p:Pact} {O:List Letter} (h:YB p O=0/\YD p O=O):Wv p O=Yl p O:=by rw [Wv,if_pos h.1,h.2]
end Go.Azalai
namespace Go.Proofs.Ythilckbkffjliaa
open Go Go.Sx
def dm0:Ins:=m1 157 21
def dm1:Ins:=m1 158 26
def dm2:Ins:=m1 159 22
def dm3:Ins:=m1 160 26
def dm4:Ins:=m1 161 21
def dm5:Ins:=m1 162 26
def dm6:Ins:=⟨some 163,.raw (Go.Op.lookup 71 (Go.Operand.tmp 161) (Go.Operand.tmp 162) Bool.false) 4,none,[4,5]⟩
def dm7:Ins:=⟨some 164,.mv (.t 163),none,[6]⟩
def dm8:Ins:=⟨some 165,.mv (.t 27),some (164,false),[7]⟩
def dm9:Ins:=⟨some 166,.mv (.t 11),some (164,false),[7]⟩
def Xm:Ins:=⟨some 167,.mv (.t 26),some (164,false),[7]⟩
def Zlq:Ins:=⟨some 168,.ixs (.t 166) (.t 167) 2,some (164,false),[7,9,10]⟩
def Zlt:Ins:=⟨some 169,.addo (.t 168) 0,some (164,false),[7,11]⟩
def Zls:Ins:=⟨some 170,.ld (.t 169) 1 false,some (164,false),[7,12]⟩
def Zly:Ins:=⟨some 171,.bin .eql (.t 165) (.t 170),some (164,false),[7,8,13]⟩
def U1:Ins:=⟨some 172,.pick (.t 164) (.c (.bool true)) (.t 171),none,[7,14]⟩
def Yw:Ins:=m1 173 22
def Yu:Ins:=m1 174 26
def Zrn:Ins:=⟨some 175,.raw (Go.Op.lookup 71 (Go.Operand.tmp 173) (Go.Operand.tmp 174) Bool.false) 4,none,[16,17]⟩
def YK:Ins:=⟨some 176,.mv (.t 175),none,[7,18]⟩
def VK:Ins:=⟨some 177,.mv (.t 27),some (176,false),[19]⟩
def YL:Ins:=⟨some 178,.mv (.t 11),some (176,false),[19]⟩
def YH:Ins:=⟨some 179,.mv (.t 26),some (176,false),[19]⟩
def ZsD:Ins:=⟨some 180,.ixs (.t 178) (.t 179) 2,some (176,false),[19,21,22]⟩
def ZtS:Ins:=⟨some 181,.addo (.t 180) 1,some (176,false),[19,23]⟩
def Zsi:Ins:=⟨some 182,.ld (.t 181) 1 false,some (176,false),[19,24]⟩
def Ze9:Ins:=⟨some 183,.bin .eql (.t 177) (.t 182),some (176,false),[19,20,25]⟩
def ZcE:Ins:=⟨some 184,.pick (.t 176) (.c (.bool true)) (.t 183),none,[19,26]⟩
def Zha:Ins:=⟨some 185,.raw (Go.Op.mapEntry 71 (Go.Operand.tmp 157) (Go.Operand.tmp 158)) 0,none,[0,1,18,19,25]⟩
def Ui:Ins:=⟨some 186,.ext (.t 185) 1,none,[28]⟩
def ZAs:Ins:=⟨none,.raw (Go.Op.entryStore 71 (Go.Operand.tmp 157) (Go.Operand.tmp 186) (Go.Operand.tmp 172)) 0,none,[0,1,4,5,6,7,8,9,10,11,12,13,14,15,18,25,28,29]⟩
def ZAt:Ins:=⟨some 187,.raw (Go.Op.mapEntry 71 (Go.Operand.tmp 159) (Go.Operand.tmp 160)) 0,none,[0,1,2,3,4,5,6,7,8,9,10,11,12,13,14,15,18,25,28,29,30]⟩
def ZrJ:Ins:=⟨some 188,.ext (.t 187) 1,none,[31]⟩
def dm33:Ins:=⟨none,.raw (Go.Op.entryStore 71 (Go.Operand.tmp 159) (Go.Operand.tmp 188) (Go.Operand.tmp 184)) 0,none,[0,1,2,3,4,5,6,7,8,9,10,11,12,13,14,15,16,17,18,19,20,21,22,23,24,25,26,27,28,29,30,31,32]⟩
attribute [go_sem] dm0 dm1 dm2 dm3 dm4 dm5 dm6 dm7 dm8 dm9 Xm Zlq Zlt Zls Zly U1 Yw Yu Zrn YK VK YL YH ZsD ZtS Zsi Ze9 ZcE Zha Ui ZAs ZAt ZrJ dm33
def l12:List Ins:=[dm0,dm1,dm2,dm3,dm4,dm5,dm6,dm7,dm8,dm9,Xm,Zlq,Zlt,Zls,Zly,U1,Yw,Yu,Zrn,YK,VK,YL,YH,ZsD,ZtS,Zsi,Ze9,ZcE,Zha,Ui,ZAs,ZAt,ZrJ,dm33]
def c12:SC:=(sr1 [
 o1 3 (.box (.t 0) 0 24),
 o1 6 (.mv (.c (.bool false)))]
 (sr1 [
 o1 29 (.call 34 []),
 m1 7 29]
 (.seq (sr1 [
 o1 30 (.ld (.t 3) 4 true),
 m1 31 1,
 o1 32 (.call 35 [.t 30,.t 31]),
 o1 33 (.un .not (.t 32)),
 m1 34 33,
 ⟨some 35,.mv (.t 7),some (34,false),[]⟩,
 ⟨some 36,.un .not (.t 35),some (34,false),[]⟩,
 o1 37 (.pick (.t 34) (.c (.bool true)) (.t 36))]
 (.cond (.t 37)
 (sr1 [
  m1 38 7,
  m1 6 38]
  .ret)
 .skip))
 (sr1 [
 o1 40 (.ld (.t 3) 4 true),
 m1 41 1,
 o1 42 (.call 24 [.t 40,.t 41]),
 m1 39 42,
 o1 43 (.ext (.t 39) 0),
 o1 44 (.ext (.t 39) 1),
 o1 45 (.ext (.t 39) 2),
 o1 8 (.alloc [.slice none 0 0] 38),
 ⟨none,.st (.t 8) (.t 43) 1,none,[]⟩,
 m1 9 44,
 m1 10 45]
 (sr1 [
 o1 47 (.ld (.t 3) 4 true),
 m1 48 1,
 o1 49 (.call 31 [.t 47,.t 48]),
 m1 46 49,
 o1 50 (.ext (.t 46) 0),
 o1 51 (.ext (.t 46) 1),
 m1 11 50,
 m1 12 51]
 (.seq (sr1 [
 m1 52 10,
 o1 53 (.bin .neq (.t 52) (.c (.int .i64 0)))]
 (.cond (.t 53)
 (sr1 [
  o1 6 (.mv (.c (.bool false)))]
  .ret)
 .skip))
 (sr1 [
 o1 13 (.mv (.c (.slice none 0 0)))]
 (.seq (sr1 [
 o1 54 (.ld (.t 8) 1 false),
 o1 55 (.len (.t 54)),
 o1 56 (.mv (.c (.int .i64 0)))]
 (.block 0 (.loop (sr1 [
  o1 57 (.bin .lss (.t 56) (.t 55))]
  (.seq (.cond (.t 57)
  .skip
  (.exit 0))
  (.seq (.block 1 (sr1 [
   m1 58 56,
   o1 59 (.ixs (.t 54) (.t 56) 8),
   o1 60 (.ld (.t 59) 8 true),
   o1 15 (.alloc zv0 50),
   m1 14 58,
   ⟨none,.st (.t 15) (.t 60) 8,none,[]⟩]
   (sr1 [
   o1 61 (.addo (.t 15) 7),
   o1 62 (.ld (.t 61) 1 false)]
   (.cond (.t 62)
   (.reg [
    m1 63 13,
    m1 64 14,
    o1 65 (.bsl 1 3 [.t 64]),
    o1 66 (.appm 1 8 3 (.t 63) (.t 65)),
    m1 13 66])
   .skip))))
  (.reg [
  o1 67 (.bin .add (.t 56) (.c (.int .i64 1))),
  m1 56 67])))))))
 (.gh (.seq (sr1 [
 m1 68 12,
 o1 69 (.bin .neq (.t 68) (.c (.int .i64 0)))]
 (.cond (.t 69)
 (sr1 [
  m1 70 7,
  m1 71 70,
  ⟨some 72,.mv (.t 12),some (71,true),[]⟩,
  ⟨some 73,.bin .eql (.t 72) (.c (.int .i64 83)),some (71,true),[]⟩,
  o1 74 (.pick (.t 71) (.t 73) (.c (.bool false))),
  m1 75 74,
  ⟨some 76,.mv (.t 13),some (75,true),[]⟩,
  ⟨some 77,.len (.t 76),some (75,true),[]⟩,
  ⟨some 78,.bin .gtr (.t 77) (.c (.int .i64 6)),some (75,true),[]⟩,
  o1 79 (.pick (.t 75) (.t 78) (.c (.bool false))),
  m1 80 79,
  ⟨some 81,.mv (.t 11),some (80,true),[]⟩,
  ⟨some 82,.len (.t 81),some (80,true),[]⟩,
  ⟨some 83,.bin .eql (.t 82) (.c (.int .i64 0)),some (80,true),[]⟩,
  o1 84 (.pick (.t 80) (.t 83) (.c (.bool false))),
  m1 6 84]
  .ret)
 .skip))
 (.seq (sr1 [
 m1 85 11,
 o1 86 (.len (.t 85)),
 o1 87 (.addo (.t 3) 0),
 o1 88 (.ld (.t 87) 1 false),
 o1 89 (.len (.t 88)),
 o1 90 (.bin .neq (.t 86) (.t 89)),
 m1 91 90,
 ⟨some 92,.mv (.t 13),some (91,false),[]⟩,
 ⟨some 93,.len (.t 92),some (91,false),[]⟩,
 ⟨some 94,.bin .gtr (.t 93) (.c (.int .i64 6)),some (91,false),[]⟩,
 o1 95 (.pick (.t 91) (.c (.bool true)) (.t 94))]
 (.cond (.t 95)
 (sr1 [
  o1 6 (.mv (.c (.bool false)))]
  .ret)
 .skip))
 (sr1 [
 o1 96 (.mkf 37 [.t 8,.t 3]),
 m1 16 96]
 (sr1 [
 m1 98 16,
 m1 99 2,
 o1 100 (.conv .i64 (.t 99)),
 o1 101 (.calvm (.t 98) [.t 100]),
 m1 97 101,
 o1 102 (.ext (.t 97) 0),
 o1 103 (.ext (.t 97) 1),
 m1 17 102,
 m1 18 103]
 (.seq (sr1 [
 m1 104 18,
 o1 105 (.un .not (.t 104))]
 (.cond (.t 105)
 (sr1 [
  o1 6 (.mv (.c (.bool false)))]
  .ret)
 .skip))
 (.seq (sr1 [
 m1 106 17,
 o1 107 (.len (.t 106)),
 o1 108 (.mv (.c (.int .i64 0)))]
 (.block 2 (.loop (sr1 [
  o1 109 (.bin .lss (.t 108) (.t 107))]
  (.seq (.cond (.t 109)
  .skip
  (.exit 2))
  (.seq (.block 3 (sr1 [
   m1 110 108,
   o1 111 (.ixs (.t 106) (.t 108) 1),
   o1 112 (.ld (.t 111) 1 false),
   m1 19 110,
   m1 20 112]
   (sr1 [
   m1 113 20,
   m1 114 11,
   m1 115 19,
   o1 116 (.ixs (.t 114) (.t 115) 2),
   o1 117 (.addo (.t 116) 0),
   o1 118 (.ld (.t 117) 1 false),
   o1 119 (.bin .lss (.t 113) (.t 118)),
   m1 120 119,
   ⟨some 121,.mv (.t 20),some (120,false),[]⟩,
   ⟨some 122,.mv (.t 11),some (120,false),[]⟩,
   ⟨some 123,.mv (.t 19),some (120,false),[]⟩,
   ⟨some 124,.ixs (.t 122) (.t 123) 2,some (120,false),[]⟩,
   ⟨some 125,.addo (.t 124) 1,some (120,false),[]⟩,
   ⟨some 126,.ld (.t 125) 1 false,some (120,false),[]⟩,
   ⟨some 127,.bin .gtr (.t 121) (.t 126),some (120,false),[]⟩,
   o1 128 (.pick (.t 120) (.c (.bool true)) (.t 127))]
   (.cond (.t 128)
   (sr1 [
    o1 6 (.mv (.c (.bool false)))]
    .ret)
   .skip))))
  (.reg [
  o1 129 (.bin .add (.t 108) (.c (.int .i64 1))),
  m1 108 129])))))))
 (.gh (.seq (sr1 [
 m1 130 1,
 o1 131 (.len (.t 130)),
 o1 132 (.bin .gtr (.t 131) (.c (.int .i64 40)))]
 (.cond (.t 132)
 (sr1 [
  m1 133 7,
  m1 6 133]
  .ret)
 .skip))
 (sr1 [
 o1 134 (.raw (Go.Op.makeMap 71 Option.none) 71),
 o1 135 (.raw (Go.Op.makeMap 71 Option.none) 71),
 m1 21 134,
 m1 22 135]
 (.seq (sr1 [
 m1 136 13,
 o1 137 (.len (.t 136)),
 o1 138 (.raw (Go.Op.binOp Go.BinOp.shl 3 (Go.Operand.const (Go.Value.int Go.IntKind.i64 1)) (Go.Operand.tmp 137) 3) 3),
 o1 139 (.mv (.c (.int .i64 0)))]
 (.block 4 (.loop (sr1 [
  o1 140 (.bin .lss (.t 139) (.t 138))]
  (.seq (.cond (.t 140)
  .skip
  (.exit 4))
  (.seq (.block 5 (sr1 [
   m1 141 139,
   m1 23 141]
   (sr1 [
   m1 143 16,
   m1 144 23,
   o1 145 (.calvm (.t 143) [.t 144]),
   m1 142 145,
   o1 146 (.ext (.t 142) 0),
   o1 147 (.ext (.t 142) 1),
   m1 24 146,
   m1 25 147]
   (.seq (sr1 [
   m1 148 25,
   o1 149 (.un .not (.t 148))]
   (.cond (.t 149)
   (sr1 [
    o1 6 (.mv (.c (.bool false)))]
    .ret)
   .skip))
   (sr1 [
   m1 150 24,
   o1 151 (.len (.t 150)),
   o1 152 (.mv (.c (.int .i64 0)))]
   (.block 6 (.loop (sr1 [
    o1 153 (.bin .lss (.t 152) (.t 151))]
    (.seq (.cond (.t 153)
    .skip
    (.exit 6))
    (.seq (.block 7 (sr1 [
     m1 154 152,
     o1 155 (.ixs (.t 150) (.t 152) 1),
     o1 156 (.ld (.t 155) 1 false),
     m1 26 154,
     m1 27 156]
     (.gh (.regp 4974151615 l12))))
    (.reg [
    o1 189 (.bin .add (.t 152) (.c (.int .i64 1))),
    m1 152 189])))))))))))
  (.gh (.reg [
  o1 190 (.bin .add (.t 139) (.c (.int .i64 1))),
  m1 139 190]))))))))
 (.gh (.seq (sr1 [
 m1 191 11,
 o1 192 (.len (.t 191)),
 o1 193 (.mv (.c (.int .i64 0)))]
 (.block 8 (.loop (sr1 [
  o1 194 (.bin .lss (.t 193) (.t 192))]
  (.seq (.cond (.t 194)
  .skip
  (.exit 8))
  (.seq (.block 9 (sr1 [
   m1 195 193,
   m1 28 195]
   (sr1 [
   m1 196 21,
   m1 197 28,
   o1 198 (.raw (Go.Op.lookup 71 (Go.Operand.tmp 196) (Go.Operand.tmp 197) Bool.false) 4),
   o1 199 (.un .not (.t 198)),
   m1 200 199,
   ⟨some 201,.mv (.t 22),some (200,false),[]⟩,
   ⟨some 202,.mv (.t 28),some (200,false),[]⟩,
   ⟨some 203,.raw (Go.Op.lookup 71 (Go.Operand.tmp 201) (Go.Operand.tmp 202) Bool.false) 4,some (200,false),[]⟩,
   ⟨some 204,.un .not (.t 203),some (200,false),[]⟩,
   o1 205 (.pick (.t 200) (.c (.bool true)) (.t 204))]
   (.cond (.t 205)
   (sr1 [
    o1 6 (.mv (.c (.bool false)))]
    .ret)
   .skip))))
  (.reg [
  o1 206 (.bin .add (.t 193) (.c (.int .i64 1))),
  m1 193 206])))))))
 (.gh (sr1 [
 m1 207 7,
 m1 6 207]
 .ret)))))))))))))))))))))))
def r12:List RV:=[.tmp 6]
theorem t12:Qt1 Try.prog 12 c12 r12 208:=XC Try.func12 rfl (by kernel_rfl) (by kernel_rfl) (by kernel_rfl) (by kernel_rfl)
def c37:SC:=(sr1 [
 o1 4 (.mv (.c (.slice none 0 0))),
 o1 5 (.mv (.c (.bool false)))]
 (sr1 [
 o1 6 (.mv (.c (.slice none 0 0)))]
 (sr1 [
 o1 7 (.mv (.c (.int .i64 0)))]
 (.seq (sr1 [
 o1 12 (.ld (.t 1) 1 false),
 o1 13 (.len (.t 12)),
 o1 14 (.mv (.c (.int .i64 0)))]
 (.block 0 (.loop (sr1 [
  o1 15 (.bin .lss (.t 14) (.t 13))]
  (.seq (.cond (.t 15)
  .skip
  (.exit 0))
  (.seq (.block 1 (sr1 [
   o1 16 (.ixs (.t 12) (.t 14) 8),
   o1 17 (.ld (.t 16) 8 true),
   o1 9 (.alloc zv0 50),
   ⟨none,.st (.t 9) (.t 17) 8,none,[]⟩]
   (.seq (sr1 [
   o1 18 (.addo (.t 9) 7),
   o1 19 (.ld (.t 18) 1 false)]
   (.cond (.t 19)
   (.reg [
    m1 20 7,
    o1 21 (.bin .add (.t 20) (.c (.int .i64 1))),
    m1 7 21])
   .skip))
   (sr1 [
   o1 22 (.addo (.t 9) 7),
   o1 23 (.ld (.t 22) 1 false),
   o1 24 (.un .not (.t 23)),
   m1 25 24,
   ⟨some 26,.mv (.t 0),some (25,false),[]⟩,
   ⟨some 27,.mv (.t 7),some (25,false),[]⟩,
   ⟨some 28,.bin .sub (.t 27) (.c (.int .i64 1)),some (25,false),[]⟩,
   ⟨some 29,.raw (Go.Op.binOp Go.BinOp.shr 3 (Go.Operand.tmp 26) (Go.Operand.tmp 28) 3) 3,some (25,false),[]⟩,
   ⟨some 30,.raw (Go.Op.binOp Go.BinOp.and 3 (Go.Operand.tmp 29) (Go.Operand.const (Go.Value.int Go.IntKind.i64 1)) 3) 3,some (25,false),[]⟩,
   ⟨some 31,.bin .eql (.t 30) (.c (.int .i64 1)),some (25,false),[]⟩,
   o1 32 (.pick (.t 25) (.c (.bool true)) (.t 31))]
   (.cond (.t 32)
   (.reg [
    m1 33 6,
    o1 34 (.ld (.t 9) 8 true),
    o1 35 (.bsl 8 50 [.t 34]),
    o1 36 (.appm 8 64 50 (.t 33) (.t 35)),
    m1 6 36])
   .skip)))))
  (.reg [
  o1 37 (.bin .add (.t 14) (.c (.int .i64 1))),
  m1 14 37])))))))
 (.gh (sr1 [
 o1 39 (.ld (.t 2) 4 true),
 m1 40 6,
 o1 41 (.call 29 [.t 39,.t 40]),
 m1 38 41,
 o1 42 (.ext (.t 38) 0),
 o1 43 (.ext (.t 38) 1),
 m1 10 42,
 m1 11 43]
 (.seq (.regd [0,1,2,3,4,5,6,7,8,9,10,11,12] [
 .op (m1 44 10),
 .op (m1 45 11),
 .op ⟨some 46,.bin .eql (.t 45) (.c (.int .i64 0)),none,[1]⟩,
 .op ⟨some 47,.mv (.t 46),none,[2]⟩,
 .op ⟨some 48,.mv (.t 10),some (47,true),[3]⟩,
 .op ⟨some 49,.len (.t 48),some (47,true),[3,4]⟩,
 .op ⟨some 50,.addo (.t 2) 0,some (47,true),[3]⟩,
 .op ⟨some 51,.ld (.t 50) 1 false,some (47,true),[3,6]⟩,
 .op ⟨some 52,.len (.t 51),some (47,true),[3,7]⟩,
 .op ⟨some 53,.bin .eql (.t 49) (.t 52),some (47,true),[3,5,8]⟩,
 .op ⟨some 54,.pick (.t 47) (.t 53) (.c (.bool false)),none,[3,9]⟩,
 .op ⟨some 4,.mv (.t 44),none,[0,3]⟩,
 .op ⟨some 5,.mv (.t 54),none,[0,1,2,3,4,5,6,7,8,9,10,11]⟩] 0 0 [
])
 .ret)))))))
def r37:List RV:=[.tmp 4,.tmp 5]
theorem n37:Try.f37.ntmps=55:=by kernel_rfl
theorem b37:Yc Try.prog 37=true:=by kernel_rfl
theorem Zzs:YQ Try.prog c37 ((Try.f37.body).getD .skip)=true:=by kernel_rfl
theorem Zz7:Xb Try.prog r37 Try.f37.results.toList=true:=by kernel_rfl
theorem m37 {n0:Nat} {hp0:List (Nat × HB)} {args:List SV} {ZA:Ot->Prop} (hh:hpb n0 hp0) (hx:∀ o,ZA o->KX o.res/\KXP o.hp) (h:sx Try.prog Y0 n0 c37 ⟨Y3 0 args,hp0,n0,55,[]⟩ (Wt r37 fun o=>∃ o',ZA o'/\WR n0 o o')) (hA:Nat.ble args.length 55=true:=by rfl):CtM Try.prog 37 hp0 n0 args ZA:=Zy Try.func37 rfl b37 Zzs Zz7 n37 (Nat.le_of_ble_eq_true hA) hh hx h
open Go.Azalai
theorem Zzm {l:List Letter} {i:Nat}:mN (l.take i)<=mN l:=by unfold mN;exact ((List.take_sublist i l).filter _).length_le
theorem ZuW {X:List Letter} {i:Nat} (hi:i < X.length):mN (X.take (i+1))=mN (X.take i)+(if X[i].mouth=true then 1 else 0):=by
 rw [List.take_succ_eq_append_getElem hi]
 simp only [mN,List.filter_append,List.length_append,List.filter_cons,List.filter_nil]
 split<;>simp
def bxH (p:Pact) (X:List Letter):List (Nat × HB):=[(1,.cells [.sl false 8 (X.map Zb)] 38),(0,.cells (Zg p) 24)]
theorem Zzo (p:Pact) (X:List Letter):KXP (bxH p X):=by simp [bxH,KXP,KXH,KXL,KX,Zc,Zb,Zg,Za,KF,KFL]
def ZxG (p:Pact) (X:List Letter) (set:Nat):Ot:=⟨false,.tup [.sl false 1 ((Yl p (ZT set 0 X)).map Zm),B true],bxH p X,2⟩
theorem Zru (p:Pact) (hp:ZK p=true) (hs:YY p) (X:List Letter) (hx:X.length<=1000) (h6:mN X<=6) (hread:∀ few:List Letter,few.Sublist X->YB p few=0/\YD p few=few) (set:Nat) (hset:set < 1000000) :
 CtM Try.prog 37 (bxH p X) 2 [I (set:Int),.p 1 0,.p 0 0] (· = ZxG p X set):=by
 refine m37 (by simp [hpb,bxH]) (fun o ho=>by subst ho;exact ⟨by simp [ZxG,KX,KXL,Zc,Zm,KFL,KF],Zzo p X⟩) ?_
 dsimp only [c37,r37,bxH,Zg,go_sem,rA,rM,rS]
 simp only [List.length_map]
 refine Zb1 (Yh 6 8 50 rfl rfl) (fun s:Nat=>[(14,I (s:Nat)),(7,I (mN (X.take s):Nat)),(6,.mr 2 (ZT set 0 (X.take s)).length)]) (fun s=>[(2,.row (ZT set 0 (X.take s)).length 8 ((ZT set 0 (X.take s)).map Zb) 50)]) (fun s=>s<=X.length) (fun s=>X.length - s) 0 (Nat.zero_le _) ?_ ?_
 . (refine Zh ?_ ?_ ?_ rfl rfl<;>dsimp only [Zg,Za,Zb,mN,ZT,id,go_sem,rA,rM,rS]<;>simp [Zg,Za,Zb,mN,ZT,Zc,Zf,KFR,KFL,KF,Zd,mtO,nbr])
 intro i hi
 dsimp only [go_sem,rA,rM,rS]
 by_cases hlt:i < X.length
 . refine ZU (by simpa using hlt) ?_
   dsimp only [go_sem,rA,rM,rS]
   refine ZQ i hlt rfl ?_
   dsimp only [Zb,go_sem,rA,rM,rS]
   have hst:=Zdt (set:=set) (X:=X) hlt
   have hsl:(ZT set 0 (X.take i)).length<=X.length:=Nat.le_trans Xi.length_le (by simp;omega)
   have hml:mN (X.take i)<=mN X:=Zzm
   have hml1:mN (X.take (i+1))<=mN X:=Zzm
   have hmt:=ZuW hlt
   by_cases hm:X[i].mouth=true
   . rw [if_pos hm] at hst hmt
     refine ZU hm ?_
     (repeat first | dsimp only [go_sem,rA,rM,rS] | simp only [nbr])
     rw [hm,Zk (n:=((mN (X.take i):Nat):Int)+1) (by omega) (by omega)]
     refine Zx rfl ?_
     (repeat first | dsimp only [go_sem,rA,rM,rS] | simp only [nbr])
     refine Zx rfl ?_
     (repeat first | dsimp only [go_sem,rA,rM,rS] | simp only [nbr])
     refine Zx rfl ?_
     (repeat first | dsimp only [go_sem,rA,rM,rS] | simp only [nbr])
     rw [show ((mN (X.take i):Nat):Int)+1 - 1=((mN (X.take i):Nat):Int) from by omega,Zk (n:=((mN (X.take i):Nat):Int)) (by omega) (by omega)]
     refine Zx rfl ?_
     (repeat first | dsimp only [go_sem,rA,rM,rS] | simp only [nbr])
     refine Vg rfl rfl (.inr (.inl rfl)) (Zh5 (by omega)) ?_
     (repeat first | dsimp only [go_sem,rA,rM,rS] | simp only [nbr])
     refine Zx rfl ?_
     (repeat first | dsimp only [go_sem,rA,rM,rS] | simp only [nbr])
     refine Vg rfl rfl (.inl rfl) (Ziq (Nat.lt_of_le_of_lt (Nat.div_le_self _ _) (by omega))) ?_
     (repeat first | dsimp only [go_sem,rA,rM,rS] | simp only [nbr])
     refine Zx rfl ?_
     (repeat first | dsimp only [go_sem,rA,rM,rS] | simp only [nbr])
     have htb:set.testBit (mN (X.take i))=decide (set / 2 ^ mN (X.take i) % 2=1):=Nat.testBit_eq_decide_div_mod_eq
     generalize hbit:set / 2 ^ mN (X.take i) % 2=bit at *
     by_cases hb1:bit=1
     . refine ZU (by simp [hb1]) ?_
       (repeat first | dsimp only [go_sem,rA,rM,rS] | simp only [nbr])
       rw [htb,hb1,decide_eq_true rfl,if_pos rfl] at hst
       refine ⟨by simp [Z9,WQ,U9],by simp;omega,?_⟩
       (repeat first | dsimp only [go_sem,rA,rM,rS] | simp only [nbr])
       have e1:(ZT set 0 (X.take i)).map Zb ++ [Zb X[i]]=(ZT set 0 (X.take (i+1))).map Zb:=by rw [hst,List.map_append];rfl
       have e2:(ZT set 0 (X.take i)).length+1=(ZT set 0 (X.take (i+1))).length:=by rw [hst];simp
       simp only [Zb,hm] at e1
       rw [e1,e2,Zk (n:=(i:Int)+1) (by omega) (by omega)]
       refine ⟨i+1,hlt,by omega,?_⟩
       simp only [hmt]
       (refine Zh ?_ ?_ ?_ rfl rfl<;>dsimp only [Zg,Za,Zb,id,go_sem,rA,rM,rS]<;>simp [Zg,Za,Zb,Zc,Zf,KFR,KFL,KF,Zd,mtO,nbr])
     . refine ZH (by simp;omega) ?_
       (repeat first | dsimp only [go_sem,rA,rM,rS] | simp only [nbr])
       rw [htb,if_neg (by simp [hb1]),List.append_nil] at hst
       rw [<- hst,Zk (n:=(i:Int)+1) (by omega) (by omega)]
       refine ⟨i+1,hlt,by omega,?_⟩
       simp only [hmt]
       (refine Zh ?_ ?_ ?_ rfl rfl<;>dsimp only [Zg,Za,Zb,id,go_sem,rA,rM,rS]<;>simp [Zg,Za,Zb,Zc,Zf,KFR,KFL,KF,Zd,mtO,nbr])
   . rw [if_neg hm] at hst hmt
     refine ZH (by simpa using hm) ?_
     (repeat first | dsimp only [go_sem,rA,rM,rS] | simp only [nbr])
     rw [show X[i].mouth=false from by simpa using hm]
     repeat (refine Zu (by decide) ?_;(repeat first | dsimp only [go_sem,rA,rM,rS] | simp only [nbr]))
     refine ZU rfl ?_
     (repeat first | dsimp only [go_sem,rA,rM,rS] | simp only [nbr])
     refine ⟨by simp [Z9,WQ,U9],by simp;omega,?_⟩
     (repeat first | dsimp only [go_sem,rA,rM,rS] | simp only [nbr])
     have e1:(ZT set 0 (X.take i)).map Zb ++ [Zb X[i]]=(ZT set 0 (X.take (i+1))).map Zb:=by rw [hst,List.map_append];rfl
     have e2:(ZT set 0 (X.take i)).length+1=(ZT set 0 (X.take (i+1))).length:=by rw [hst];simp
     simp only [Zb,show X[i].mouth=false from by simpa using hm] at e1
     rw [e1,e2,Zk (n:=(i:Int)+1) (by omega) (by omega)]
     refine ⟨i+1,hlt,by omega,?_⟩
     simp only [hmt]
     (refine Zh ?_ ?_ ?_ rfl rfl<;>dsimp only [Zg,Za,Zb,id,go_sem,rA,rM,rS]<;>simp [Zg,Za,Zb,Zc,Zf,KFR,KFL,KF,Zd,mtO,nbr])
 refine ZH (by simpa using hlt) ?_
 dsimp only [go_sem,rA,rM,rS]
 have hie:i=X.length:=by omega
 subst hie
 rw [List.take_length]
 refine gh (X7 6 2 (ZT set 0 X).length rfl rfl rfl rfl) ?_
 dsimp only [go_sem,rA,rM,rS]
 have hr:=hread (ZT set 0 X) Xi
 have hsl:(ZT set 0 X).length<=X.length:=Xi.length_le
 refine call (ZaS p (ZT set 0 X) hs (by omega) false) ?_
 rw [Zfy hr,hr.1]
 dsimp only [go_sem,rA,rM,rS]
 have hsh:(Yl p (ZT set 0 X)).length=p.partners.length:=X1
 simp only [show ((0:Int) == 0)=true from rfl]
 repeat (refine Zx rfl ?_;dsimp only [go_sem,rA,rM,rS])
 simp only [List.length_map,hsh,beq_self_eq_true,Bool.and_true]
 refine ⟨_,rfl,?_⟩
 simp only [ZxG,bxH]
 (refine Zr ?_ ?_ ?_ rfl<;>dsimp only [Zg,Za,Zb,Zm,id,go_sem,rA,rM,rS]<;>simp [Zg,Za,Zb,Zm,Zc,Zf,KFR,KFL,KF,Zd,mtO,nbr])
end Go.Proofs.Ythilckbkffjliaa
namespace Go.Azalai
open Go.Sx
def ZwF (f:Nat->Int) (v:Int) (n:Nat):Bool:=(List.range n).any fun k=>f k == v
theorem Zyv {f:Nat->Int} {v:Int} {n:Nat}:ZwF f v (n+1)=(ZwF f v n || (f n == v)):=by simp [ZwF,List.range_succ]
theorem Zhn {f:Nat->Int} {v:Int} {n:Nat} (h:∃ k,k < n/\f k=v):ZwF f v n=true:=by
 obtain ⟨k,h1,h2⟩:=h
 simp only [ZwF,List.any_eq_true,List.mem_range,beq_iff_eq]
 exact ⟨k,h1,h2⟩
def MI (f:Nat->Nat->Int) (lo:Nat->Int) (s j n:Nat) (L:List (Nat × Int × Bool)) (c:Nat):Prop:=MW L c/\∀ i:Nat,i < n->(mget (i:Int) L).getD false=ZwF (f i) (lo i) (if i < j then s+1 else s)
theorem MI.start {f:Nat->Nat->Int} {lo:Nat->Int} {n:Nat}:MI f lo 0 0 n [] 0:=⟨MW.nil,fun i _=>by simp [mget,ZwF]⟩
theorem MI.step {f:Nat->Nat->Int} {lo:Nat->Int} {s j n:Nat} {L:List (Nat × Int × Bool)} {c:Nat} (h:MI f lo s j n L c) (hj:j < n) {b:Bool} (hb:b=((mget (j:Int) L).getD false || (f j s == lo j))) :
 MI f lo s (j+1) n (mset c (j:Int) b L) (mclk c (j:Int) L):=by
 refine ⟨h.1.set b,fun i hi=>?_⟩
 rw [mget_set]
 by_cases e:i=j
 . subst e
   rw [if_pos rfl,if_pos (by omega),Zyv,hb]
   have:=h.2 i hi
   rw [if_neg (by omega)] at this
   rw [this];rfl
 . rw [if_neg (by omega),h.2 i hi]
   by_cases q:i < j
   . rw [if_pos q,if_pos (by omega)]
   . rw [if_neg q,if_neg (by omega)]
theorem MI.next {f:Nat->Nat->Int} {lo:Nat->Int} {s n:Nat} {L:List (Nat × Int × Bool)} {c:Nat} (h:MI f lo s n n L c):MI f lo (s+1) 0 n L c :=
 ⟨h.1,fun i hi=>by rw [h.2 i hi,if_pos hi,if_neg (by omega)]⟩
end Go.Azalai
namespace Go.Sx
open Go
theorem ZwK {P:Program} {Y:Hd} {r:KT} {σ : St} {K:RK}:rxT P Y [] r σ K=r σ K:=rfl
theorem Zme {P:Program} {Y:Hd} {x:Ins} {l:List Ins} {r:KT} {σ : St} {K:RK}:rxT P Y (x :: l) r σ K=st1 P Y x σ (rxT P Y l r) K:=rfl
attribute [go_sem] ZwK Zme
def Zrx (l0:List Ins) (U:Nat) (cl:List (Nat × Nat)) (D:Nat):Nat->List Ins->List (List Ins × Ins)
 | _,[]=>[]
 | i,x :: r=>bif Nat.testBit U i && (!Zdr x.i && enB U D (X2 cl x.af)) then (ZfN U (X2 cl x.af) 0 l0,x) :: Zrx l0 U cl D (i+1) r else Zrx l0 U cl D (i+1) r
def Zw9 (l0:List Ins) (U:Nat) (cl:List (Nat × Nat)) (D:Nat):Nat->List Ins->List (Nat × List Ins × Ins)
 | _,[]=>[]
 | i,x :: r=>bif !Nat.testBit U i && (!Nat.testBit D i && enB U D (X2 cl x.af)) then (D ||| 2 ^ i,ZfN U (X2 cl x.af) 0 l0,x) :: Zw9 l0 U cl D (i+1) r else Zw9 l0 U cl D (i+1) r
theorem Zey {l0:List Ins} {U D:Nat} {cl:List (Nat × Nat)}:∀ {l:List Ins} {i0 i:Nat} {x:Ins},l[i]? = some x->Nat.testBit U (i0+i)=true->Zdr x.i=false->enB U D (X2 cl x.af)=true->(ZfN U (X2 cl x.af) 0 l0,x) ∈ Zrx l0 U cl D i0 l
 | [],_,_,_,h,_,_,_=>by simp at h
 | y :: l,i0,0,x,h,hu,hm,he=>by
  simp only [List.getElem?_cons_zero,Option.some.injEq] at h
  subst h
  have hc:(Nat.testBit U i0 && (!Zdr y.i && enB U D (X2 cl y.af)))=true:=by rw [he,hm,show Nat.testBit U i0=true from hu];rfl
  simp only [Zrx,hc,cond_true]
  exact List.mem_cons_self ..
 | y :: l,i0,i+1,x,h,hu,hm,he=>by
  have ih:=Zey (l0:=l0) (cl:=cl) (D:=D) (l:=l) (i0:=i0+1) (x:=x) (by simpa using h) (by rw [show i0+1+i=i0+(i+1) from by omega];exact hu) hm he
  simp only [Zrx]
  cases (Nat.testBit U i0 && (!Zdr y.i && enB U D (X2 cl y.af)))
  . exact ih
  . exact List.mem_cons_of_mem _ ih
theorem Zfm {l0:List Ins} {U D:Nat} {cl:List (Nat × Nat)}:∀ {l:List Ins} {i0 i:Nat} {x:Ins},l[i]? = some x->Nat.testBit U (i0+i)=false->Nat.testBit D (i0+i)=false->enB U D (X2 cl x.af)=true->(D ||| 2 ^ (i0+i),ZfN U (X2 cl x.af) 0 l0,x) ∈ Zw9 l0 U cl D i0 l
 | [],_,_,_,h,_,_,_=>by simp at h
 | y :: l,i0,0,x,h,hu,hd,he=>by
  simp only [List.getElem?_cons_zero,Option.some.injEq] at h
  subst h
  have hc:(!Nat.testBit U i0 && (!Nat.testBit D i0 && enB U D (X2 cl y.af)))=true:=by rw [he,show Nat.testBit U i0=false from hu,show Nat.testBit D i0=false from hd];rfl
  simp only [Zw9,hc,cond_true]
  exact List.mem_cons_self ..
 | y :: l,i0,i+1,x,h,hu,hd,he=>by
  have ih:=Zfm (l0:=l0) (cl:=cl) (D:=D) (l:=l) (i0:=i0+1) (x:=x) (by simpa using h) (by rw [show i0+1+i=i0+(i+1) from by omega];exact hu) (by rw [show i0+1+i=i0+(i+1) from by omega];exact hd) he
  rw [show i0+1+i=i0+(i+1) from by omega] at ih
  simp only [Zw9]
  cases (!Nat.testBit U i0 && (!Nat.testBit D i0 && enB U D (X2 cl y.af)))
  . exact ih
  . exact List.mem_cons_of_mem _ ih
def ZnZ (f:List Ins->Ins->Prop):List (List Ins × Ins)->Prop
 | []=>True
 | (p,x) :: r=>f p x/\ZnZ f r
theorem Zqh {f:List Ins->Ins->Prop} {rs:List (List Ins × Ins)}:∀ {p:List Ins} {x:Ins},ZnZ f rs->(p,x) ∈ rs->f p x:=by
 induction rs with
 | nil=>intro i x _ hm;cases hm
 | cons y r ih =>
  intro i x h hm
  obtain ⟨j,z⟩:=y
  have h':f j z/\ZnZ f r:=h
  rcases List.mem_cons.1 hm with e | e
  . injection e with e1 e2;subst e1 e2;exact h'.1
  . exact ih h'.2 e
def Zvf (f:Nat->List Ins->Ins->Prop):List (Nat × List Ins × Ins)->Prop
 | []=>True
 | (i,p,x) :: r=>f i p x/\Zvf f r
theorem ZqZ {f:Nat->List Ins->Ins->Prop} {rs:List (Nat × List Ins × Ins)}:∀ {i:Nat} {p:List Ins} {x:Ins},Zvf f rs->(i,p,x) ∈ rs->f i p x:=by
 induction rs with
 | nil=>intro i p x _ hm;cases hm
 | cons y r ih =>
  intro i p x h hm
  obtain ⟨j,q,z⟩:=y
  have h':f j q z/\Zvf f r:=h
  rcases List.mem_cons.1 hm with e | e
  . injection e with e1 e2;injection e2 with e2 e3;subst e1 e2 e3;exact h'.1
  . exact ih h'.2 e
theorem ZR {f:List Ins->Ins->Prop} {p:List Ins} {x:Ins} {r:List (List Ins × Ins)} (h:f p x) (h':ZnZ f r):ZnZ f ((p,x) :: r):=⟨h,h'⟩
theorem ZL {f:List Ins->Ins->Prop}:ZnZ f []:=trivial
theorem Zs {f:Nat->List Ins->Ins->Prop} {i:Nat} {p:List Ins} {x:Ins} {r:List (Nat × List Ins × Ins)} (h:f i p x) (h':Zvf f r):Zvf f ((i,p,x) :: r):=⟨h,h'⟩
theorem ZN {f:Nat->List Ins->Ins->Prop}:Zvf f []:=trivial
theorem ZrC {P:Program} {Y:Hd} {l:List Ins} {U D:Nat} {cl:List (Nat × Nat)} {σ : St} {K:RK} (ss:List (List Ins × Ins)) (h1:Zrx l U cl D 0 l=ss)
 (ha:ZnZ (fun ps x=>rxT P Y ps (fun σ' K'=>st1 P Y x σ' (fun _ _=>True) K') σ K) ss):SAF P Y l U cl D σ K:=by
 intro i x hx hu hm he
 have h:=Zey (l0:=l) (cl:=cl) (D:=D) (i0:=0) hx (by rw [Nat.zero_add];exact hu) hm he
 rw [h1] at h
 exact Zqh (f:=fun ps x=>rxT P Y ps (fun σ' K'=>st1 P Y x σ' (fun _ _=>True) K') σ K) ha h
theorem Zo {P:Program} {Y:Hd} {m:Nat} {l:List Ins} {U:Nat} {cl:List (Nat × Nat)} {n D:Nat} {σ : St} {K:Ex->St->Prop} (ss:List (List Ins × Ins)) (rs:List (Nat × List Ins × Ins)) (hn:ZoB U σ.fr 0 l=true) (h1:Zrx l U cl D 0 l=ss) (h2:Zw9 l U cl D 0 l=rs)
 (ha:ZnZ (fun ps x=>rxT P Y ps (fun σ' K'=>st1 P Y x σ' (fun _ _=>True) K') σ K) ss)
 (hb:Zvf (fun E ps x=>rxT P Y ps (fun σ' K'=>st1 P Y x σ' (fun σ'' K''=>∃ σc,Ent m σ'' σc/\Zib P Y m l U cl n E σc K'') K') σ K) rs):Zib P Y m l U cl (n+1) D σ K:=by
 refine ⟨hn,ZrC ss h1 ha,fun i x hx hu hd he=>?_⟩
 have h:=Zfm (l0:=l) (cl:=cl) (D:=D) (i0:=0) hx (by rw [Nat.zero_add];exact hu) (by rw [Nat.zero_add];exact hd) he
 rw [Nat.zero_add,h2] at h
 exact ZqZ (f:=fun E ps x=>rxT P Y ps (fun σ' K'=>st1 P Y x σ' (fun σ'' K''=>∃ σc,Ent m σ'' σc/\Zib P Y m l U cl n E σc K'') K') σ K) hb h
theorem Zo3 {P:Program} {Y:Hd} {m:Nat} {l:List Ins} {U:Nat} {cl:List (Nat × Nat)} {D:Nat} {σ : St} {K:Ex->St->Prop} (ss:List (List Ins × Ins)) (ps:List Ins) (hn:ZoB U σ.fr 0 l=true) (h1:Zrx l U cl D 0 l=ss) (h2:ZfN U U 0 l=ps)
 (ha:ZnZ (fun ps x=>rxT P Y ps (fun σ' K'=>st1 P Y x σ' (fun _ _=>True) K') σ K) ss) (hb:∀ σF,σF = σ->rxT P Y ps (fun σ' K'=>K' .n σ') σF K):Zib P Y m l U cl 0 D σ K :=
 ⟨hn,ZrC ss h1 ha,by rw [h2];exact hb σ rfl⟩
end Go.Sx
namespace Go.Proofs.Ythilckbkffjliaa
open Go Go.Sx Go.Azalai
def mB (p:Pact) (X:List Letter) (S:List (Int × Int)) (H:List Int) (j k NN:Nat) (h:Int):List (Nat × SV):=[(152,I (j:Int)),(151,I (H.length:Int)),(150,.sl false 1 (H.map Zm)),(139,I (k:Int)),(138,I (NN:Int)),(27,I h),(26,I (j:Int)),(22,.mp 4),(21,.mp 3),(16,.cl 37 [.p 1 0,.p 0 0]),(11,.sl false 2 (S.map Zj)),(8,.p 1 0),(7,B true),(3,.p 0 0)]
def mBH (p:Pact) (X:List Letter):List (Nat × HB):=[(1,.cells [.sl false 8 (X.map Zb)] 38),(0,.cells (Zg p) 24)]
def mM (L:List (Nat × Int × Bool)) (c:Nat):HB:=.map (mpS kI Zl L) c
def sv:Bool->SV->SV
 | true,_=>.v undef
 | false,s=>s
def sb:Bool->Bool->Bool
 | true,_=>true
 | false,s=>s
def mL (n D:Nat) (σ : St) (K:Ex->St->Prop):Prop:=Zib Try.prog Y0 0 l12 4974151615 (ZtP 0 l12 []) n D σ K
theorem Xy {L:List (Nat × Int × Bool)} {c km:Nat} {j:Nat} {b:Bool} {mx ix:Operand} {ty:TypeId} {σ : St} {d:Option Nat} {r:KT} {K:RK} (hb:(mget (j:Int) L).getD false=b) (h:Yr d (Zl b) none σ r K)
 (hm:Vq σ mx = .mp km:=by rfl) (hh:lkh km σ.hp = .map (mpS kI Zl L) c:=by rfl) (hi:Vq σ ix=I (j:Int):=by rfl):RAW Try.prog d (.lookup 71 mx ix false) ty σ r K:=by
 refine YW (key:=kI) (val:=Zl) (sv:=sI) (L:=L) (k:=(j:Int)) (zs:=Zl false) hm hh u71 WS hi UW Zhc (fun v hg=>?_) (fun hg=>?_)
 . rw [hg] at hb
   have hv:v=b:=hb
   rw [hv];exact h
 . rw [hg] at hb
   have hv:b=false:=hb.symm
   rw [hv] at h;exact h
theorem YI {L:List (Nat × Int × Bool)} {c km:Nat} {j:Nat} {b:Bool} {mx ix:Operand} {ty:TypeId} {σ : St} {d:Option Nat} {r:KT} {K:RK} (hb:(mget (j:Int) L).getD false=b)
 (h:Yr d (.tup [Zl b,.v (.int .i64 (Xn c (j:Int) L))]) none ⟨σ.fr,(km,.map (mpS kI Zl (mset c (j:Int) b L)) (mclk c (j:Int) L)) :: σ.hp,σ.n,σ.N,σ.gs⟩ r K)
 (hm:Vq σ mx = .mp km:=by rfl) (hh:lkh km σ.hp = .map (mpS kI Zl L) c:=by rfl) (hi:Vq σ ix=I (j:Int):=by rfl):RAW Try.prog d (.mapEntry 71 mx ix) ty σ r K:=by
 subst hb
 exact ZgK (key:=kI) (val:=Zl) (sv:=sI) (L:=L) (c:=c) (k:=(j:Int)) (zv:=false) hm hh u71 WS hi UW Zhc h
theorem mreg (p:Pact) (X:List Letter) (S:List (Int × Int)) (H:List Int) (j k NN:Nat) (h lo hi:Int) (L1 L2:List (Nat × Int × Bool)) (c1 c2:Nat) (hS:(S.map Zj)[j]? = some [I lo,I hi]) (M1:MW L1 c1) (M2:MW L2 c2) (b1 b2:Bool)
 (hb1:(mget (j:Int) L1).getD false=b1) (hb2:(mget (j:Int) L2).getD false=b2) (K:Ex->St->Prop) (hK:∀ σF:St,σF=⟨(187,.tup [B b2,I (Xn c2 (j:Int) L2)]) :: (185,.tup [B b1,I (Xn c1 (j:Int) L1)]) :: (175,B b2) :: (163,B b1) :: (171,sv b1 (B (h == lo))) :: (183,sv b2 (B (h == hi))) :: mB p X S H j k NN h,(4,mM (mset c2 (j:Int) (sb b2 (h == hi)) L2) (mclk c2 (j:Int) L2)) :: (3,mM (mset c1 (j:Int) (sb b1 (h == lo)) L1) (mclk c1 (j:Int) L1)) :: mBH p X,5,208,[]⟩->rxT Try.prog Y0 [dm0,dm1,dm2,dm3,dm4,dm5,dm7,dm8,dm9,Xm,U1,Yw,Yu,YK,VK,YL,YH,ZcE,Ui,ZrJ] (fun σ' K'=>K' .n σ') σF K) :
 mL 14 0 ⟨mB p X S H j k NN h,(4,mM L2 c2) :: (3,mM L1 c1) :: mBH p X,5,208,[]⟩ K:=by
 have h12205717568:mL 0 12205717568 ⟨(187,.tup [B b2,I (Xn c2 (j:Int) L2)]) :: (185,.tup [B b1,I (Xn c1 (j:Int) L1)]) :: (175,B b2) :: (163,B b1) :: (171,sv b1 (B (h == lo))) :: (183,sv b2 (B (h == hi))) :: mB p X S H j k NN h,(4,mM (mset c2 (j:Int) (sb b2 (h == hi)) L2) (mclk c2 (j:Int) L2)) :: (3,mM (mset c1 (j:Int) (sb b1 (h == lo)) L1) (mclk c1 (j:Int) L1)) :: mBH p X,5,208,[]⟩ K:=by
  cases b1<;>cases b2
  all_goals
   refine Zo3 [([dm4,dm5,dm7,dm8,dm9,Xm],U1),([dm4,dm5,dm7,Yw,Yu,YK,VK,YL,YH],ZcE),([dm0,dm1,dm4,dm5,dm7,Yw,Yu,YK,YL,YH],Ui),([dm0,dm1,dm2,dm3,dm4,dm5,dm7,dm8,dm9,Xm,U1,Yw,Yu,YK,YL,YH,Ui],ZrJ)] [dm0,dm1,dm2,dm3,dm4,dm5,dm7,dm8,dm9,Xm,U1,Yw,Yu,YK,VK,YL,YH,ZcE,Ui,ZrJ] (by kernel_rfl) (by kernel_rfl) (by kernel_rfl) (ZR ?_ (ZR ?_ (ZR ?_ (ZR ?_ (ZL))))) hK<;>dsimp only [mB,mBH,mM,sv,sb,go_sem,rA,rM,rS]<;>repeat (first | (refine Zx rfl ?_;dsimp only [go_sem,rA,rM,rS]) | (refine Zu (by decide) ?_;dsimp only [go_sem,rA,rM,rS]))
 have h3615782976:mL 1 3615782976 ⟨(187,.tup [B b2,I (Xn c2 (j:Int) L2)]) :: (185,.tup [B b1,I (Xn c1 (j:Int) L1)]) :: (175,B b2) :: (163,B b1) :: (171,sv b1 (B (h == lo))) :: (183,sv b2 (B (h == hi))) :: mB p X S H j k NN h,(4,mM (mset c2 (j:Int) b2 L2) (mclk c2 (j:Int) L2)) :: (3,mM (mset c1 (j:Int) (sb b1 (h == lo)) L1) (mclk c1 (j:Int) L1)) :: mBH p X,5,208,[]⟩ K:=by
  cases b1<;>cases b2
  all_goals
   refine Zo [([dm4,dm5,dm7,dm8,dm9,Xm],U1),([dm4,dm5,dm7,Yw,Yu,YK,VK,YL,YH],ZcE),([dm0,dm1,dm4,dm5,dm7,Yw,Yu,YK,YL,YH],Ui),([dm0,dm1,dm2,dm3,dm4,dm5,dm7,dm8,dm9,Xm,U1,Yw,Yu,YK,YL,YH,Ui],ZrJ)] [(12205717568,[dm0,dm1,dm2,dm3,dm4,dm5,dm7,dm8,dm9,Xm,U1,Yw,Yu,YK,VK,YL,YH,ZcE,Ui,ZrJ],dm33)] (by kernel_rfl) (by kernel_rfl) (by kernel_rfl) (ZR ?_ (ZR ?_ (ZR ?_ (ZR ?_ (ZL))))) (Zs ?_ (ZN))<;>dsimp only [mB,mBH,mM,sv,sb,go_sem,rA,rM,rS]<;>repeat (first | (refine Zx rfl ?_;dsimp only [go_sem,rA,rM,rS]) | (refine Zu (by decide) ?_;dsimp only [go_sem,rA,rM,rS]))
   . refine Wm (key:=kI) (val:=Zl) (L:=L2) (k:=(j:Int)) (c:=c2) rfl rfl rfl M2 rfl (fun _ _ _ e=>by cases e) ?_;dsimp only [go_sem,rA,rM,rS]
     refine ⟨_,?_,h12205717568⟩;(refine Zh ?_ ?_ ?_ rfl rfl<;>dsimp only [mB,mBH,sv,sb,Ze,Zl,Zg,Za,Zb,Zj,Zm,mM,id,go_sem,rA,rM,rS]<;>simp [mB,mBH,sv,sb,Ze,Zl,Zg,Za,Zb,Zj,Zm,mM,Zc,Zf,KFR,KFL,KF,Zd,mtO,nbr])
 have h1468299328:mL 2 1468299328 ⟨(185,.tup [B b1,I (Xn c1 (j:Int) L1)]) :: (175,B b2) :: (163,B b1) :: (171,sv b1 (B (h == lo))) :: (183,sv b2 (B (h == hi))) :: mB p X S H j k NN h,(4,mM L2 c2) :: (3,mM (mset c1 (j:Int) (sb b1 (h == lo)) L1) (mclk c1 (j:Int) L1)) :: mBH p X,5,208,[]⟩ K:=by
  cases b1<;>cases b2
  all_goals
   refine Zo [([dm4,dm5,dm7,dm8,dm9,Xm],U1),([dm4,dm5,dm7,Yw,Yu,YK,VK,YL,YH],ZcE),([dm0,dm1,dm4,dm5,dm7,Yw,Yu,YK,YL,YH],Ui)] [(3615782976,[dm0,dm1,dm2,dm3,dm4,dm5,dm7,dm8,dm9,Xm,U1,Yw,Yu,YK,YL,YH,Ui],ZAt)] (by kernel_rfl) (by kernel_rfl) (by kernel_rfl) (ZR ?_ (ZR ?_ (ZR ?_ (ZL)))) (Zs ?_ (ZN))<;>dsimp only [mB,mBH,mM,sv,sb,go_sem,rA,rM,rS]<;>repeat (first | (refine Zx rfl ?_;dsimp only [go_sem,rA,rM,rS]) | (refine Zu (by decide) ?_;dsimp only [go_sem,rA,rM,rS]))
   . refine YI hb2 ?_;dsimp only [Zl,go_sem,rA,rM,rS]
     refine ⟨_,?_,h3615782976⟩;(refine Zh ?_ ?_ ?_ rfl rfl<;>dsimp only [mB,mBH,sv,sb,Ze,Zl,Zg,Za,Zb,Zj,Zm,mM,id,go_sem,rA,rM,rS]<;>simp [mB,mBH,sv,sb,Ze,Zl,Zg,Za,Zb,Zj,Zm,mM,Zc,Zf,KFR,KFL,KF,Zd,mtO,nbr])
 have h3548674112:mL 2 3548674112 ⟨(187,.tup [B b2,I (Xn c2 (j:Int) L2)]) :: (185,.tup [B b1,I (Xn c1 (j:Int) L1)]) :: (175,B b2) :: (163,B b1) :: (171,sv b1 (B (h == lo))) :: (182,sv b2 (I hi)) :: mB p X S H j k NN h,(4,mM (mset c2 (j:Int) b2 L2) (mclk c2 (j:Int) L2)) :: (3,mM (mset c1 (j:Int) (sb b1 (h == lo)) L1) (mclk c1 (j:Int) L1)) :: mBH p X,5,208,[]⟩ K:=by
  cases b1<;>cases b2
  all_goals
   refine Zo [([dm4,dm5,dm7,dm8,dm9,Xm],U1),([dm0,dm1,dm4,dm5,dm7,Yw,Yu,YK,YL,YH],Ui),([dm0,dm1,dm2,dm3,dm4,dm5,dm7,dm8,dm9,Xm,U1,Yw,Yu,YK,YL,YH,Ui],ZrJ)] [(3615782976,[dm4,dm5,dm7,Yw,Yu,YK,VK,YL,YH],Ze9)] (by kernel_rfl) (by kernel_rfl) (by kernel_rfl) (ZR ?_ (ZR ?_ (ZR ?_ (ZL)))) (Zs ?_ (ZN))<;>dsimp only [mB,mBH,mM,sv,sb,go_sem,rA,rM,rS]<;>repeat (first | (refine Zx rfl ?_;dsimp only [go_sem,rA,rM,rS]) | (refine Zu (by decide) ?_;dsimp only [go_sem,rA,rM,rS]))
   . refine ⟨_,?_,h3615782976⟩;(refine Zh ?_ ?_ ?_ rfl rfl<;>dsimp only [mB,mBH,sv,sb,Ze,Zl,Zg,Za,Zb,Zj,Zm,mM,id,go_sem,rA,rM,rS]<;>simp [mB,mBH,sv,sb,Ze,Zl,Zg,Za,Zb,Zj,Zm,mM,Zc,Zf,KFR,KFL,KF,Zd,mtO,nbr])
 have h394557504:mL 3 394557504 ⟨(185,.tup [B b1,I (Xn c1 (j:Int) L1)]) :: (175,B b2) :: (163,B b1) :: (171,sv b1 (B (h == lo))) :: (183,sv b2 (B (h == hi))) :: mB p X S H j k NN h,(4,mM L2 c2) :: (3,mM (mset c1 (j:Int) b1 L1) (mclk c1 (j:Int) L1)) :: mBH p X,5,208,[]⟩ K:=by
  cases b1<;>cases b2
  all_goals
   refine Zo [([dm4,dm5,dm7,dm8,dm9,Xm],U1),([dm4,dm5,dm7,Yw,Yu,YK,VK,YL,YH],ZcE),([dm0,dm1,dm4,dm5,dm7,Yw,Yu,YK,YL,YH],Ui)] [(1468299328,[dm0,dm1,dm4,dm5,dm7,dm8,dm9,Xm,U1,Yw,Yu,YK,YL,YH,Ui],ZAs)] (by kernel_rfl) (by kernel_rfl) (by kernel_rfl) (ZR ?_ (ZR ?_ (ZR ?_ (ZL)))) (Zs ?_ (ZN))<;>dsimp only [mB,mBH,mM,sv,sb,go_sem,rA,rM,rS]<;>repeat (first | (refine Zx rfl ?_;dsimp only [go_sem,rA,rM,rS]) | (refine Zu (by decide) ?_;dsimp only [go_sem,rA,rM,rS]))
   . refine Wm (key:=kI) (val:=Zl) (L:=L1) (k:=(j:Int)) (c:=c1) rfl rfl rfl M1 rfl (fun _ _ _ e=>by cases e) ?_;dsimp only [go_sem,rA,rM,rS]
     refine ⟨_,?_,h1468299328⟩;(refine Zh ?_ ?_ ?_ rfl rfl<;>dsimp only [mB,mBH,sv,sb,Ze,Zl,Zg,Za,Zb,Zj,Zm,mM,id,go_sem,rA,rM,rS]<;>simp [mB,mBH,sv,sb,Ze,Zl,Zg,Za,Zb,Zj,Zm,mM,Zc,Zf,KFR,KFL,KF,Zd,mtO,nbr])
 have h1401190464:mL 3 1401190464 ⟨(185,.tup [B b1,I (Xn c1 (j:Int) L1)]) :: (175,B b2) :: (163,B b1) :: (171,sv b1 (B (h == lo))) :: (182,sv b2 (I hi)) :: mB p X S H j k NN h,(4,mM L2 c2) :: (3,mM (mset c1 (j:Int) (sb b1 (h == lo)) L1) (mclk c1 (j:Int) L1)) :: mBH p X,5,208,[]⟩ K:=by
  cases b1<;>cases b2
  all_goals
   refine Zo [([dm4,dm5,dm7,dm8,dm9,Xm],U1),([dm0,dm1,dm4,dm5,dm7,Yw,Yu,YK,YL,YH],Ui)] [(1468299328,[dm4,dm5,dm7,Yw,Yu,YK,VK,YL,YH],Ze9),(3548674112,[dm0,dm1,dm2,dm3,dm4,dm5,dm7,dm8,dm9,Xm,U1,Yw,Yu,YK,YL,YH,Ui],ZAt)] (by kernel_rfl) (by kernel_rfl) (by kernel_rfl) (ZR ?_ (ZR ?_ (ZL))) (Zs ?_ (Zs ?_ (ZN)))<;>dsimp only [mB,mBH,mM,sv,sb,go_sem,rA,rM,rS]<;>repeat (first | (refine Zx rfl ?_;dsimp only [go_sem,rA,rM,rS]) | (refine Zu (by decide) ?_;dsimp only [go_sem,rA,rM,rS]))
   . refine ⟨_,?_,h1468299328⟩;(refine Zh ?_ ?_ ?_ rfl rfl<;>dsimp only [mB,mBH,sv,sb,Ze,Zl,Zg,Za,Zb,Zj,Zm,mM,id,go_sem,rA,rM,rS]<;>simp [mB,mBH,sv,sb,Ze,Zl,Zg,Za,Zb,Zj,Zm,mM,Zc,Zf,KFR,KFL,KF,Zd,mtO,nbr])
   . refine YI hb2 ?_;dsimp only [Zl,go_sem,rA,rM,rS]
     refine ⟨_,?_,h3548674112⟩;(refine Zh ?_ ?_ ?_ rfl rfl<;>dsimp only [mB,mBH,sv,sb,Ze,Zl,Zg,Za,Zb,Zj,Zm,mM,id,go_sem,rA,rM,rS]<;>simp [mB,mBH,sv,sb,Ze,Zl,Zg,Za,Zb,Zj,Zm,mM,Zc,Zf,KFR,KFL,KF,Zd,mtO,nbr])
 have h394541120:mL 4 394541120 ⟨(185,.tup [B b1,I (Xn c1 (j:Int) L1)]) :: (175,B b2) :: (163,B b1) :: (170,sv b1 (I lo)) :: (183,sv b2 (B (h == hi))) :: mB p X S H j k NN h,(4,mM L2 c2) :: (3,mM (mset c1 (j:Int) b1 L1) (mclk c1 (j:Int) L1)) :: mBH p X,5,208,[]⟩ K:=by
  cases b1<;>cases b2
  all_goals
   refine Zo [([dm4,dm5,dm7,Yw,Yu,YK,VK,YL,YH],ZcE),([dm0,dm1,dm4,dm5,dm7,Yw,Yu,YK,YL,YH],Ui)] [(394557504,[dm4,dm5,dm7,dm8,dm9,Xm],Zly)] (by kernel_rfl) (by kernel_rfl) (by kernel_rfl) (ZR ?_ (ZR ?_ (ZL))) (Zs ?_ (ZN))<;>dsimp only [mB,mBH,mM,sv,sb,go_sem,rA,rM,rS]<;>repeat (first | (refine Zx rfl ?_;dsimp only [go_sem,rA,rM,rS]) | (refine Zu (by decide) ?_;dsimp only [go_sem,rA,rM,rS]))
   . refine ⟨_,?_,h394557504⟩;(refine Zh ?_ ?_ ?_ rfl rfl<;>dsimp only [mB,mBH,sv,sb,Ze,Zl,Zg,Za,Zb,Zj,Zm,mM,id,go_sem,rA,rM,rS]<;>simp [mB,mBH,sv,sb,Ze,Zl,Zg,Za,Zb,Zj,Zm,mM,Zc,Zf,KFR,KFL,KF,Zd,mtO,nbr])
 have h327448640:mL 4 327448640 ⟨(185,.tup [B b1,I (Xn c1 (j:Int) L1)]) :: (175,B b2) :: (163,B b1) :: (171,sv b1 (B (h == lo))) :: (182,sv b2 (I hi)) :: mB p X S H j k NN h,(4,mM L2 c2) :: (3,mM (mset c1 (j:Int) b1 L1) (mclk c1 (j:Int) L1)) :: mBH p X,5,208,[]⟩ K:=by
  cases b1<;>cases b2
  all_goals
   refine Zo [([dm4,dm5,dm7,dm8,dm9,Xm],U1),([dm0,dm1,dm4,dm5,dm7,Yw,Yu,YK,YL,YH],Ui)] [(394557504,[dm4,dm5,dm7,Yw,Yu,YK,VK,YL,YH],Ze9),(1401190464,[dm0,dm1,dm4,dm5,dm7,dm8,dm9,Xm,U1,Yw,Yu,YK,YL,YH,Ui],ZAs)] (by kernel_rfl) (by kernel_rfl) (by kernel_rfl) (ZR ?_ (ZR ?_ (ZL))) (Zs ?_ (Zs ?_ (ZN)))<;>dsimp only [mB,mBH,mM,sv,sb,go_sem,rA,rM,rS]<;>repeat (first | (refine Zx rfl ?_;dsimp only [go_sem,rA,rM,rS]) | (refine Zu (by decide) ?_;dsimp only [go_sem,rA,rM,rS]))
   . refine ⟨_,?_,h394557504⟩;(refine Zh ?_ ?_ ?_ rfl rfl<;>dsimp only [mB,mBH,sv,sb,Ze,Zl,Zg,Za,Zb,Zj,Zm,mM,id,go_sem,rA,rM,rS]<;>simp [mB,mBH,sv,sb,Ze,Zl,Zg,Za,Zb,Zj,Zm,mM,Zc,Zf,KFR,KFL,KF,Zd,mtO,nbr])
   . refine Wm (key:=kI) (val:=Zl) (L:=L1) (k:=(j:Int)) (c:=c1) rfl rfl rfl M1 rfl (fun _ _ _ e=>by cases e) ?_;dsimp only [go_sem,rA,rM,rS]
     refine ⟨_,?_,h1401190464⟩;(refine Zh ?_ ?_ ?_ rfl rfl<;>dsimp only [mB,mBH,sv,sb,Ze,Zl,Zg,Za,Zb,Zj,Zm,mM,id,go_sem,rA,rM,rS]<;>simp [mB,mBH,sv,sb,Ze,Zl,Zg,Za,Zb,Zj,Zm,mM,Zc,Zf,KFR,KFL,KF,Zd,mtO,nbr])
 have h126122048:mL 4 126122048 ⟨(175,B b2) :: (163,B b1) :: (171,sv b1 (B (h == lo))) :: (183,sv b2 (B (h == hi))) :: mB p X S H j k NN h,(4,mM L2 c2) :: (3,mM L1 c1) :: mBH p X,5,208,[]⟩ K:=by
  cases b1<;>cases b2
  all_goals
   refine Zo [([dm4,dm5,dm7,dm8,dm9,Xm],U1),([dm4,dm5,dm7,Yw,Yu,YK,VK,YL,YH],ZcE)] [(394557504,[dm0,dm1,dm4,dm5,dm7,Yw,Yu,YK,YL,YH],Zha)] (by kernel_rfl) (by kernel_rfl) (by kernel_rfl) (ZR ?_ (ZR ?_ (ZL))) (Zs ?_ (ZN))<;>dsimp only [mB,mBH,mM,sv,sb,go_sem,rA,rM,rS]<;>repeat (first | (refine Zx rfl ?_;dsimp only [go_sem,rA,rM,rS]) | (refine Zu (by decide) ?_;dsimp only [go_sem,rA,rM,rS]))
   . refine YI hb1 ?_;dsimp only [Zl,go_sem,rA,rM,rS]
     refine ⟨_,?_,h394557504⟩;(refine Zh ?_ ?_ ?_ rfl rfl<;>dsimp only [mB,mBH,sv,sb,Ze,Zl,Zg,Za,Zb,Zj,Zm,mM,id,go_sem,rA,rM,rS]<;>simp [mB,mBH,sv,sb,Ze,Zl,Zg,Za,Zb,Zj,Zm,mM,Zc,Zf,KFR,KFL,KF,Zd,mtO,nbr])
 have h394532928:mL 5 394532928 ⟨(185,.tup [B b1,I (Xn c1 (j:Int) L1)]) :: (175,B b2) :: (163,B b1) :: (169,sv b1 (.ps [I lo,I hi] 0)) :: (183,sv b2 (B (h == hi))) :: mB p X S H j k NN h,(4,mM L2 c2) :: (3,mM (mset c1 (j:Int) b1 L1) (mclk c1 (j:Int) L1)) :: mBH p X,5,208,[]⟩ K:=by
  cases b1<;>cases b2
  all_goals
   refine Zo [([dm4,dm5,dm7,Yw,Yu,YK,VK,YL,YH],ZcE),([dm0,dm1,dm4,dm5,dm7,Yw,Yu,YK,YL,YH],Ui)] [(394541120,[dm4,dm5,dm7,dm9,Xm],Zls)] (by kernel_rfl) (by kernel_rfl) (by kernel_rfl) (ZR ?_ (ZR ?_ (ZL))) (Zs ?_ (ZN))<;>dsimp only [mB,mBH,mM,sv,sb,go_sem,rA,rM,rS]<;>repeat (first | (refine Zx rfl ?_;dsimp only [go_sem,rA,rM,rS]) | (refine Zu (by decide) ?_;dsimp only [go_sem,rA,rM,rS]))
   . refine ⟨_,?_,h394541120⟩;(refine Zh ?_ ?_ ?_ rfl rfl<;>dsimp only [mB,mBH,sv,sb,Ze,Zl,Zg,Za,Zb,Zj,Zm,mM,id,go_sem,rA,rM,rS]<;>simp [mB,mBH,sv,sb,Ze,Zl,Zg,Za,Zb,Zj,Zm,mM,Zc,Zf,KFR,KFL,KF,Zd,mtO,nbr])
 have h327432256:mL 5 327432256 ⟨(185,.tup [B b1,I (Xn c1 (j:Int) L1)]) :: (175,B b2) :: (163,B b1) :: (170,sv b1 (I lo)) :: (182,sv b2 (I hi)) :: mB p X S H j k NN h,(4,mM L2 c2) :: (3,mM (mset c1 (j:Int) b1 L1) (mclk c1 (j:Int) L1)) :: mBH p X,5,208,[]⟩ K:=by
  cases b1<;>cases b2
  all_goals
   refine Zo [([dm0,dm1,dm4,dm5,dm7,Yw,Yu,YK,YL,YH],Ui)] [(327448640,[dm4,dm5,dm7,dm8,dm9,Xm],Zly),(394541120,[dm4,dm5,dm7,Yw,Yu,YK,VK,YL,YH],Ze9)] (by kernel_rfl) (by kernel_rfl) (by kernel_rfl) (ZR ?_ (ZL)) (Zs ?_ (Zs ?_ (ZN)))<;>dsimp only [mB,mBH,mM,sv,sb,go_sem,rA,rM,rS]<;>repeat (first | (refine Zx rfl ?_;dsimp only [go_sem,rA,rM,rS]) | (refine Zu (by decide) ?_;dsimp only [go_sem,rA,rM,rS]))
   . refine ⟨_,?_,h327448640⟩;(refine Zh ?_ ?_ ?_ rfl rfl<;>dsimp only [mB,mBH,sv,sb,Ze,Zl,Zg,Za,Zb,Zj,Zm,mM,id,go_sem,rA,rM,rS]<;>simp [mB,mBH,sv,sb,Ze,Zl,Zg,Za,Zb,Zj,Zm,mM,Zc,Zf,KFR,KFL,KF,Zd,mtO,nbr])
   . refine ⟨_,?_,h394541120⟩;(refine Zh ?_ ?_ ?_ rfl rfl<;>dsimp only [mB,mBH,sv,sb,Ze,Zl,Zg,Za,Zb,Zj,Zm,mM,id,go_sem,rA,rM,rS]<;>simp [mB,mBH,sv,sb,Ze,Zl,Zg,Za,Zb,Zj,Zm,mM,Zc,Zf,KFR,KFL,KF,Zd,mtO,nbr])
 have h126105664:mL 5 126105664 ⟨(175,B b2) :: (163,B b1) :: (170,sv b1 (I lo)) :: (183,sv b2 (B (h == hi))) :: mB p X S H j k NN h,(4,mM L2 c2) :: (3,mM L1 c1) :: mBH p X,5,208,[]⟩ K:=by
  cases b1<;>cases b2
  all_goals
   refine Zo [([dm4,dm5,dm7,Yw,Yu,YK,VK,YL,YH],ZcE)] [(126122048,[dm4,dm5,dm7,dm8,dm9,Xm],Zly),(394541120,[dm0,dm1,dm4,dm5,dm7,Yw,Yu,YK,YL,YH],Zha)] (by kernel_rfl) (by kernel_rfl) (by kernel_rfl) (ZR ?_ (ZL)) (Zs ?_ (Zs ?_ (ZN)))<;>dsimp only [mB,mBH,mM,sv,sb,go_sem,rA,rM,rS]<;>repeat (first | (refine Zx rfl ?_;dsimp only [go_sem,rA,rM,rS]) | (refine Zu (by decide) ?_;dsimp only [go_sem,rA,rM,rS]))
   . refine ⟨_,?_,h126122048⟩;(refine Zh ?_ ?_ ?_ rfl rfl<;>dsimp only [mB,mBH,sv,sb,Ze,Zl,Zg,Za,Zb,Zj,Zm,mM,id,go_sem,rA,rM,rS]<;>simp [mB,mBH,sv,sb,Ze,Zl,Zg,Za,Zb,Zj,Zm,mM,Zc,Zf,KFR,KFL,KF,Zd,mtO,nbr])
   . refine YI hb1 ?_;dsimp only [Zl,go_sem,rA,rM,rS]
     refine ⟨_,?_,h394541120⟩;(refine Zh ?_ ?_ ?_ rfl rfl<;>dsimp only [mB,mBH,sv,sb,Ze,Zl,Zg,Za,Zb,Zj,Zm,mM,id,go_sem,rA,rM,rS]<;>simp [mB,mBH,sv,sb,Ze,Zl,Zg,Za,Zb,Zj,Zm,mM,Zc,Zf,KFR,KFL,KF,Zd,mtO,nbr])
 have h59013184:mL 5 59013184 ⟨(175,B b2) :: (163,B b1) :: (171,sv b1 (B (h == lo))) :: (182,sv b2 (I hi)) :: mB p X S H j k NN h,(4,mM L2 c2) :: (3,mM L1 c1) :: mBH p X,5,208,[]⟩ K:=by
  cases b1<;>cases b2
  all_goals
   refine Zo [([dm4,dm5,dm7,dm8,dm9,Xm],U1)] [(126122048,[dm4,dm5,dm7,Yw,Yu,YK,VK,YL,YH],Ze9),(327448640,[dm0,dm1,dm4,dm5,dm7,Yw,Yu,YK,YL,YH],Zha)] (by kernel_rfl) (by kernel_rfl) (by kernel_rfl) (ZR ?_ (ZL)) (Zs ?_ (Zs ?_ (ZN)))<;>dsimp only [mB,mBH,mM,sv,sb,go_sem,rA,rM,rS]<;>repeat (first | (refine Zx rfl ?_;dsimp only [go_sem,rA,rM,rS]) | (refine Zu (by decide) ?_;dsimp only [go_sem,rA,rM,rS]))
   . refine ⟨_,?_,h126122048⟩;(refine Zh ?_ ?_ ?_ rfl rfl<;>dsimp only [mB,mBH,sv,sb,Ze,Zl,Zg,Za,Zb,Zj,Zm,mM,id,go_sem,rA,rM,rS]<;>simp [mB,mBH,sv,sb,Ze,Zl,Zg,Za,Zb,Zj,Zm,mM,Zc,Zf,KFR,KFL,KF,Zd,mtO,nbr])
   . refine YI hb1 ?_;dsimp only [Zl,go_sem,rA,rM,rS]
     refine ⟨_,?_,h327448640⟩;(refine Zh ?_ ?_ ?_ rfl rfl<;>dsimp only [mB,mBH,sv,sb,Ze,Zl,Zg,Za,Zb,Zj,Zm,mM,id,go_sem,rA,rM,rS]<;>simp [mB,mBH,sv,sb,Ze,Zl,Zg,Za,Zb,Zj,Zm,mM,Zc,Zf,KFR,KFL,KF,Zd,mtO,nbr])
 have h394528832:mL 6 394528832 ⟨(185,.tup [B b1,I (Xn c1 (j:Int) L1)]) :: (175,B b2) :: (163,B b1) :: (168,sv b1 (.ps [I lo,I hi] 0)) :: (183,sv b2 (B (h == hi))) :: mB p X S H j k NN h,(4,mM L2 c2) :: (3,mM (mset c1 (j:Int) b1 L1) (mclk c1 (j:Int) L1)) :: mBH p X,5,208,[]⟩ K:=by
  cases b1<;>cases b2
  all_goals
   refine Zo [([dm4,dm5,dm7,Yw,Yu,YK,VK,YL,YH],ZcE),([dm0,dm1,dm4,dm5,dm7,Yw,Yu,YK,YL,YH],Ui)] [(394532928,[dm4,dm5,dm7,dm9,Xm],Zlt)] (by kernel_rfl) (by kernel_rfl) (by kernel_rfl) (ZR ?_ (ZR ?_ (ZL))) (Zs ?_ (ZN))<;>dsimp only [mB,mBH,mM,sv,sb,go_sem,rA,rM,rS]<;>repeat (first | (refine Zx rfl ?_;dsimp only [go_sem,rA,rM,rS]) | (refine Zu (by decide) ?_;dsimp only [go_sem,rA,rM,rS]))
   . refine ⟨_,?_,h394532928⟩;(refine Zh ?_ ?_ ?_ rfl rfl<;>dsimp only [mB,mBH,sv,sb,Ze,Zl,Zg,Za,Zb,Zj,Zm,mM,id,go_sem,rA,rM,rS]<;>simp [mB,mBH,sv,sb,Ze,Zl,Zg,Za,Zb,Zj,Zm,mM,Zc,Zf,KFR,KFL,KF,Zd,mtO,nbr])
 have h327424064:mL 6 327424064 ⟨(185,.tup [B b1,I (Xn c1 (j:Int) L1)]) :: (175,B b2) :: (163,B b1) :: (169,sv b1 (.ps [I lo,I hi] 0)) :: (182,sv b2 (I hi)) :: mB p X S H j k NN h,(4,mM L2 c2) :: (3,mM (mset c1 (j:Int) b1 L1) (mclk c1 (j:Int) L1)) :: mBH p X,5,208,[]⟩ K:=by
  cases b1<;>cases b2
  all_goals
   refine Zo [([dm0,dm1,dm4,dm5,dm7,Yw,Yu,YK,YL,YH],Ui)] [(327432256,[dm4,dm5,dm7,dm9,Xm],Zls),(394532928,[dm4,dm5,dm7,Yw,Yu,YK,VK,YL,YH],Ze9)] (by kernel_rfl) (by kernel_rfl) (by kernel_rfl) (ZR ?_ (ZL)) (Zs ?_ (Zs ?_ (ZN)))<;>dsimp only [mB,mBH,mM,sv,sb,go_sem,rA,rM,rS]<;>repeat (first | (refine Zx rfl ?_;dsimp only [go_sem,rA,rM,rS]) | (refine Zu (by decide) ?_;dsimp only [go_sem,rA,rM,rS]))
   . refine ⟨_,?_,h327432256⟩;(refine Zh ?_ ?_ ?_ rfl rfl<;>dsimp only [mB,mBH,sv,sb,Ze,Zl,Zg,Za,Zb,Zj,Zm,mM,id,go_sem,rA,rM,rS]<;>simp [mB,mBH,sv,sb,Ze,Zl,Zg,Za,Zb,Zj,Zm,mM,Zc,Zf,KFR,KFL,KF,Zd,mtO,nbr])
   . refine ⟨_,?_,h394532928⟩;(refine Zh ?_ ?_ ?_ rfl rfl<;>dsimp only [mB,mBH,sv,sb,Ze,Zl,Zg,Za,Zb,Zj,Zm,mM,id,go_sem,rA,rM,rS]<;>simp [mB,mBH,sv,sb,Ze,Zl,Zg,Za,Zb,Zj,Zm,mM,Zc,Zf,KFR,KFL,KF,Zd,mtO,nbr])
 have h126097472:mL 6 126097472 ⟨(175,B b2) :: (163,B b1) :: (169,sv b1 (.ps [I lo,I hi] 0)) :: (183,sv b2 (B (h == hi))) :: mB p X S H j k NN h,(4,mM L2 c2) :: (3,mM L1 c1) :: mBH p X,5,208,[]⟩ K:=by
  cases b1<;>cases b2
  all_goals
   refine Zo [([dm4,dm5,dm7,Yw,Yu,YK,VK,YL,YH],ZcE)] [(126105664,[dm4,dm5,dm7,dm9,Xm],Zls),(394532928,[dm0,dm1,dm4,dm5,dm7,Yw,Yu,YK,YL,YH],Zha)] (by kernel_rfl) (by kernel_rfl) (by kernel_rfl) (ZR ?_ (ZL)) (Zs ?_ (Zs ?_ (ZN)))<;>dsimp only [mB,mBH,mM,sv,sb,go_sem,rA,rM,rS]<;>repeat (first | (refine Zx rfl ?_;dsimp only [go_sem,rA,rM,rS]) | (refine Zu (by decide) ?_;dsimp only [go_sem,rA,rM,rS]))
   . refine ⟨_,?_,h126105664⟩;(refine Zh ?_ ?_ ?_ rfl rfl<;>dsimp only [mB,mBH,sv,sb,Ze,Zl,Zg,Za,Zb,Zj,Zm,mM,id,go_sem,rA,rM,rS]<;>simp [mB,mBH,sv,sb,Ze,Zl,Zg,Za,Zb,Zj,Zm,mM,Zc,Zf,KFR,KFL,KF,Zd,mtO,nbr])
   . refine YI hb1 ?_;dsimp only [Zl,go_sem,rA,rM,rS]
     refine ⟨_,?_,h394532928⟩;(refine Zh ?_ ?_ ?_ rfl rfl<;>dsimp only [mB,mBH,sv,sb,Ze,Zl,Zg,Za,Zb,Zj,Zm,mM,id,go_sem,rA,rM,rS]<;>simp [mB,mBH,sv,sb,Ze,Zl,Zg,Za,Zb,Zj,Zm,mM,Zc,Zf,KFR,KFL,KF,Zd,mtO,nbr])
 have h58996800:mL 6 58996800 ⟨(175,B b2) :: (163,B b1) :: (170,sv b1 (I lo)) :: (182,sv b2 (I hi)) :: mB p X S H j k NN h,(4,mM L2 c2) :: (3,mM L1 c1) :: mBH p X,5,208,[]⟩ K:=by
  cases b1<;>cases b2
  all_goals
   refine Zo [] [(59013184,[dm4,dm5,dm7,dm8,dm9,Xm],Zly),(126105664,[dm4,dm5,dm7,Yw,Yu,YK,VK,YL,YH],Ze9),(327432256,[dm0,dm1,dm4,dm5,dm7,Yw,Yu,YK,YL,YH],Zha)] (by kernel_rfl) (by kernel_rfl) (by kernel_rfl) (ZL) (Zs ?_ (Zs ?_ (Zs ?_ (ZN))))<;>dsimp only [mB,mBH,mM,sv,sb,go_sem,rA,rM,rS]<;>repeat (first | (refine Zx rfl ?_;dsimp only [go_sem,rA,rM,rS]) | (refine Zu (by decide) ?_;dsimp only [go_sem,rA,rM,rS]))
   . refine ⟨_,?_,h59013184⟩;(refine Zh ?_ ?_ ?_ rfl rfl<;>dsimp only [mB,mBH,sv,sb,Ze,Zl,Zg,Za,Zb,Zj,Zm,mM,id,go_sem,rA,rM,rS]<;>simp [mB,mBH,sv,sb,Ze,Zl,Zg,Za,Zb,Zj,Zm,mM,Zc,Zf,KFR,KFL,KF,Zd,mtO,nbr])
   . refine ⟨_,?_,h126105664⟩;(refine Zh ?_ ?_ ?_ rfl rfl<;>dsimp only [mB,mBH,sv,sb,Ze,Zl,Zg,Za,Zb,Zj,Zm,mM,id,go_sem,rA,rM,rS]<;>simp [mB,mBH,sv,sb,Ze,Zl,Zg,Za,Zb,Zj,Zm,mM,Zc,Zf,KFR,KFL,KF,Zd,mtO,nbr])
   . refine YI hb1 ?_;dsimp only [Zl,go_sem,rA,rM,rS]
     refine ⟨_,?_,h327432256⟩;(refine Zh ?_ ?_ ?_ rfl rfl<;>dsimp only [mB,mBH,sv,sb,Ze,Zl,Zg,Za,Zb,Zj,Zm,mM,id,go_sem,rA,rM,rS]<;>simp [mB,mBH,sv,sb,Ze,Zl,Zg,Za,Zb,Zj,Zm,mM,Zc,Zf,KFR,KFL,KF,Zd,mtO,nbr])
 have h25458752:mL 6 25458752 ⟨(175,B b2) :: (163,B b1) :: (171,sv b1 (B (h == lo))) :: (181,sv b2 (.ps [I lo,I hi] 1)) :: mB p X S H j k NN h,(4,mM L2 c2) :: (3,mM L1 c1) :: mBH p X,5,208,[]⟩ K:=by
  cases b1<;>cases b2
  all_goals
   refine Zo [([dm4,dm5,dm7,dm8,dm9,Xm],U1)] [(59013184,[dm4,dm5,dm7,Yw,Yu,YK,YL,YH],Zsi)] (by kernel_rfl) (by kernel_rfl) (by kernel_rfl) (ZR ?_ (ZL)) (Zs ?_ (ZN))<;>dsimp only [mB,mBH,mM,sv,sb,go_sem,rA,rM,rS]<;>repeat (first | (refine Zx rfl ?_;dsimp only [go_sem,rA,rM,rS]) | (refine Zu (by decide) ?_;dsimp only [go_sem,rA,rM,rS]))
   . refine ⟨_,?_,h59013184⟩;(refine Zh ?_ ?_ ?_ rfl rfl<;>dsimp only [mB,mBH,sv,sb,Ze,Zl,Zg,Za,Zb,Zj,Zm,mM,id,go_sem,rA,rM,rS]<;>simp [mB,mBH,sv,sb,Ze,Zl,Zg,Za,Zb,Zj,Zm,mM,Zc,Zf,KFR,KFL,KF,Zd,mtO,nbr])
 have h327419968:mL 7 327419968 ⟨(185,.tup [B b1,I (Xn c1 (j:Int) L1)]) :: (175,B b2) :: (163,B b1) :: (168,sv b1 (.ps [I lo,I hi] 0)) :: (182,sv b2 (I hi)) :: mB p X S H j k NN h,(4,mM L2 c2) :: (3,mM (mset c1 (j:Int) b1 L1) (mclk c1 (j:Int) L1)) :: mBH p X,5,208,[]⟩ K:=by
  cases b1<;>cases b2
  all_goals
   refine Zo [([dm0,dm1,dm4,dm5,dm7,Yw,Yu,YK,YL,YH],Ui)] [(327424064,[dm4,dm5,dm7,dm9,Xm],Zlt),(394528832,[dm4,dm5,dm7,Yw,Yu,YK,VK,YL,YH],Ze9)] (by kernel_rfl) (by kernel_rfl) (by kernel_rfl) (ZR ?_ (ZL)) (Zs ?_ (Zs ?_ (ZN)))<;>dsimp only [mB,mBH,mM,sv,sb,go_sem,rA,rM,rS]<;>repeat (first | (refine Zx rfl ?_;dsimp only [go_sem,rA,rM,rS]) | (refine Zu (by decide) ?_;dsimp only [go_sem,rA,rM,rS]))
   . refine ⟨_,?_,h327424064⟩;(refine Zh ?_ ?_ ?_ rfl rfl<;>dsimp only [mB,mBH,sv,sb,Ze,Zl,Zg,Za,Zb,Zj,Zm,mM,id,go_sem,rA,rM,rS]<;>simp [mB,mBH,sv,sb,Ze,Zl,Zg,Za,Zb,Zj,Zm,mM,Zc,Zf,KFR,KFL,KF,Zd,mtO,nbr])
   . refine ⟨_,?_,h394528832⟩;(refine Zh ?_ ?_ ?_ rfl rfl<;>dsimp only [mB,mBH,sv,sb,Ze,Zl,Zg,Za,Zb,Zj,Zm,mM,id,go_sem,rA,rM,rS]<;>simp [mB,mBH,sv,sb,Ze,Zl,Zg,Za,Zb,Zj,Zm,mM,Zc,Zf,KFR,KFL,KF,Zd,mtO,nbr])
 have h126093376:mL 7 126093376 ⟨(175,B b2) :: (163,B b1) :: (168,sv b1 (.ps [I lo,I hi] 0)) :: (183,sv b2 (B (h == hi))) :: mB p X S H j k NN h,(4,mM L2 c2) :: (3,mM L1 c1) :: mBH p X,5,208,[]⟩ K:=by
  cases b1<;>cases b2
  all_goals
   refine Zo [([dm4,dm5,dm7,Yw,Yu,YK,VK,YL,YH],ZcE)] [(126097472,[dm4,dm5,dm7,dm9,Xm],Zlt),(394528832,[dm0,dm1,dm4,dm5,dm7,Yw,Yu,YK,YL,YH],Zha)] (by kernel_rfl) (by kernel_rfl) (by kernel_rfl) (ZR ?_ (ZL)) (Zs ?_ (Zs ?_ (ZN)))<;>dsimp only [mB,mBH,mM,sv,sb,go_sem,rA,rM,rS]<;>repeat (first | (refine Zx rfl ?_;dsimp only [go_sem,rA,rM,rS]) | (refine Zu (by decide) ?_;dsimp only [go_sem,rA,rM,rS]))
   . refine ⟨_,?_,h126097472⟩;(refine Zh ?_ ?_ ?_ rfl rfl<;>dsimp only [mB,mBH,sv,sb,Ze,Zl,Zg,Za,Zb,Zj,Zm,mM,id,go_sem,rA,rM,rS]<;>simp [mB,mBH,sv,sb,Ze,Zl,Zg,Za,Zb,Zj,Zm,mM,Zc,Zf,KFR,KFL,KF,Zd,mtO,nbr])
   . refine YI hb1 ?_;dsimp only [Zl,go_sem,rA,rM,rS]
     refine ⟨_,?_,h394528832⟩;(refine Zh ?_ ?_ ?_ rfl rfl<;>dsimp only [mB,mBH,sv,sb,Ze,Zl,Zg,Za,Zb,Zj,Zm,mM,id,go_sem,rA,rM,rS]<;>simp [mB,mBH,sv,sb,Ze,Zl,Zg,Za,Zb,Zj,Zm,mM,Zc,Zf,KFR,KFL,KF,Zd,mtO,nbr])
 have h58988608:mL 7 58988608 ⟨(175,B b2) :: (163,B b1) :: (169,sv b1 (.ps [I lo,I hi] 0)) :: (182,sv b2 (I hi)) :: mB p X S H j k NN h,(4,mM L2 c2) :: (3,mM L1 c1) :: mBH p X,5,208,[]⟩ K:=by
  cases b1<;>cases b2
  all_goals
   refine Zo [] [(58996800,[dm4,dm5,dm7,dm9,Xm],Zls),(126097472,[dm4,dm5,dm7,Yw,Yu,YK,VK,YL,YH],Ze9),(327424064,[dm0,dm1,dm4,dm5,dm7,Yw,Yu,YK,YL,YH],Zha)] (by kernel_rfl) (by kernel_rfl) (by kernel_rfl) (ZL) (Zs ?_ (Zs ?_ (Zs ?_ (ZN))))<;>dsimp only [mB,mBH,mM,sv,sb,go_sem,rA,rM,rS]<;>repeat (first | (refine Zx rfl ?_;dsimp only [go_sem,rA,rM,rS]) | (refine Zu (by decide) ?_;dsimp only [go_sem,rA,rM,rS]))
   . refine ⟨_,?_,h58996800⟩;(refine Zh ?_ ?_ ?_ rfl rfl<;>dsimp only [mB,mBH,sv,sb,Ze,Zl,Zg,Za,Zb,Zj,Zm,mM,id,go_sem,rA,rM,rS]<;>simp [mB,mBH,sv,sb,Ze,Zl,Zg,Za,Zb,Zj,Zm,mM,Zc,Zf,KFR,KFL,KF,Zd,mtO,nbr])
   . refine ⟨_,?_,h126097472⟩;(refine Zh ?_ ?_ ?_ rfl rfl<;>dsimp only [mB,mBH,sv,sb,Ze,Zl,Zg,Za,Zb,Zj,Zm,mM,id,go_sem,rA,rM,rS]<;>simp [mB,mBH,sv,sb,Ze,Zl,Zg,Za,Zb,Zj,Zm,mM,Zc,Zf,KFR,KFL,KF,Zd,mtO,nbr])
   . refine YI hb1 ?_;dsimp only [Zl,go_sem,rA,rM,rS]
     refine ⟨_,?_,h327424064⟩;(refine Zh ?_ ?_ ?_ rfl rfl<;>dsimp only [mB,mBH,sv,sb,Ze,Zl,Zg,Za,Zb,Zj,Zm,mM,id,go_sem,rA,rM,rS]<;>simp [mB,mBH,sv,sb,Ze,Zl,Zg,Za,Zb,Zj,Zm,mM,Zc,Zf,KFR,KFL,KF,Zd,mtO,nbr])
 have h25442368:mL 7 25442368 ⟨(175,B b2) :: (163,B b1) :: (170,sv b1 (I lo)) :: (181,sv b2 (.ps [I lo,I hi] 1)) :: mB p X S H j k NN h,(4,mM L2 c2) :: (3,mM L1 c1) :: mBH p X,5,208,[]⟩ K:=by
  cases b1<;>cases b2
  all_goals
   refine Zo [] [(25458752,[dm4,dm5,dm7,dm8,dm9,Xm],Zly),(58996800,[dm4,dm5,dm7,Yw,Yu,YK,YL,YH],Zsi)] (by kernel_rfl) (by kernel_rfl) (by kernel_rfl) (ZL) (Zs ?_ (Zs ?_ (ZN)))<;>dsimp only [mB,mBH,mM,sv,sb,go_sem,rA,rM,rS]<;>repeat (first | (refine Zx rfl ?_;dsimp only [go_sem,rA,rM,rS]) | (refine Zu (by decide) ?_;dsimp only [go_sem,rA,rM,rS]))
   . refine ⟨_,?_,h25458752⟩;(refine Zh ?_ ?_ ?_ rfl rfl<;>dsimp only [mB,mBH,sv,sb,Ze,Zl,Zg,Za,Zb,Zj,Zm,mM,id,go_sem,rA,rM,rS]<;>simp [mB,mBH,sv,sb,Ze,Zl,Zg,Za,Zb,Zj,Zm,mM,Zc,Zf,KFR,KFL,KF,Zd,mtO,nbr])
   . refine ⟨_,?_,h58996800⟩;(refine Zh ?_ ?_ ?_ rfl rfl<;>dsimp only [mB,mBH,sv,sb,Ze,Zl,Zg,Za,Zb,Zj,Zm,mM,id,go_sem,rA,rM,rS]<;>simp [mB,mBH,sv,sb,Ze,Zl,Zg,Za,Zb,Zj,Zm,mM,Zc,Zf,KFR,KFL,KF,Zd,mtO,nbr])
 have h8681536:mL 7 8681536 ⟨(175,B b2) :: (163,B b1) :: (171,sv b1 (B (h == lo))) :: (180,sv b2 (.ps [I lo,I hi] 0)) :: mB p X S H j k NN h,(4,mM L2 c2) :: (3,mM L1 c1) :: mBH p X,5,208,[]⟩ K:=by
  cases b1<;>cases b2
  all_goals
   refine Zo [([dm4,dm5,dm7,dm8,dm9,Xm],U1)] [(25458752,[dm4,dm5,dm7,Yw,Yu,YK,YL,YH],ZtS)] (by kernel_rfl) (by kernel_rfl) (by kernel_rfl) (ZR ?_ (ZL)) (Zs ?_ (ZN))<;>dsimp only [mB,mBH,mM,sv,sb,go_sem,rA,rM,rS]<;>repeat (first | (refine Zx rfl ?_;dsimp only [go_sem,rA,rM,rS]) | (refine Zu (by decide) ?_;dsimp only [go_sem,rA,rM,rS]))
   . refine ⟨_,?_,h25458752⟩;(refine Zh ?_ ?_ ?_ rfl rfl<;>dsimp only [mB,mBH,sv,sb,Ze,Zl,Zg,Za,Zb,Zj,Zm,mM,id,go_sem,rA,rM,rS]<;>simp [mB,mBH,sv,sb,Ze,Zl,Zg,Za,Zb,Zj,Zm,mM,Zc,Zf,KFR,KFL,KF,Zd,mtO,nbr])
 have h394526784:mL 7 394526784 ⟨(185,.tup [B b1,I (Xn c1 (j:Int) L1)]) :: (175,B b2) :: (163,B b1) :: (183,sv b2 (B (h == hi))) :: mB p X S H j k NN h,(4,mM L2 c2) :: (3,mM (mset c1 (j:Int) b1 L1) (mclk c1 (j:Int) L1)) :: mBH p X,5,208,[]⟩ K:=by
  cases b1<;>cases b2
  all_goals
   refine Zo [([dm4,dm5,dm7,Yw,Yu,YK,VK,YL,YH],ZcE),([dm0,dm1,dm4,dm5,dm7,Yw,Yu,YK,YL,YH],Ui)] [(394528832,[dm4,dm5,dm7,dm9,Xm],Zlq)] (by kernel_rfl) (by kernel_rfl) (by kernel_rfl) (ZR ?_ (ZR ?_ (ZL))) (Zs ?_ (ZN))<;>dsimp only [mB,mBH,mM,sv,sb,go_sem,rA,rM,rS]<;>repeat (first | (refine Zx rfl ?_;dsimp only [go_sem,rA,rM,rS]) | (refine Zu (by decide) ?_;dsimp only [go_sem,rA,rM,rS]))
   . try (refine ixs j _ rfl hS ?_;dsimp only [go_sem,rA,rM,rS])
     refine ⟨_,?_,h394528832⟩;(refine Zh ?_ ?_ ?_ rfl rfl<;>dsimp only [mB,mBH,sv,sb,Ze,Zl,Zg,Za,Zb,Zj,Zm,mM,id,go_sem,rA,rM,rS]<;>simp [mB,mBH,sv,sb,Ze,Zl,Zg,Za,Zb,Zj,Zm,mM,Zc,Zf,KFR,KFL,KF,Zd,mtO,nbr])
 have h25434176:mL 8 25434176 ⟨(175,B b2) :: (163,B b1) :: (169,sv b1 (.ps [I lo,I hi] 0)) :: (181,sv b2 (.ps [I lo,I hi] 1)) :: mB p X S H j k NN h,(4,mM L2 c2) :: (3,mM L1 c1) :: mBH p X,5,208,[]⟩ K:=by
  cases b1<;>cases b2
  all_goals
   refine Zo [] [(25442368,[dm4,dm5,dm7,dm9,Xm],Zls),(58988608,[dm4,dm5,dm7,Yw,Yu,YK,YL,YH],Zsi)] (by kernel_rfl) (by kernel_rfl) (by kernel_rfl) (ZL) (Zs ?_ (Zs ?_ (ZN)))<;>dsimp only [mB,mBH,mM,sv,sb,go_sem,rA,rM,rS]<;>repeat (first | (refine Zx rfl ?_;dsimp only [go_sem,rA,rM,rS]) | (refine Zu (by decide) ?_;dsimp only [go_sem,rA,rM,rS]))
   . refine ⟨_,?_,h25442368⟩;(refine Zh ?_ ?_ ?_ rfl rfl<;>dsimp only [mB,mBH,sv,sb,Ze,Zl,Zg,Za,Zb,Zj,Zm,mM,id,go_sem,rA,rM,rS]<;>simp [mB,mBH,sv,sb,Ze,Zl,Zg,Za,Zb,Zj,Zm,mM,Zc,Zf,KFR,KFL,KF,Zd,mtO,nbr])
   . refine ⟨_,?_,h58988608⟩;(refine Zh ?_ ?_ ?_ rfl rfl<;>dsimp only [mB,mBH,sv,sb,Ze,Zl,Zg,Za,Zb,Zj,Zm,mM,id,go_sem,rA,rM,rS]<;>simp [mB,mBH,sv,sb,Ze,Zl,Zg,Za,Zb,Zj,Zm,mM,Zc,Zf,KFR,KFL,KF,Zd,mtO,nbr])
 have h8665152:mL 8 8665152 ⟨(175,B b2) :: (163,B b1) :: (170,sv b1 (I lo)) :: (180,sv b2 (.ps [I lo,I hi] 0)) :: mB p X S H j k NN h,(4,mM L2 c2) :: (3,mM L1 c1) :: mBH p X,5,208,[]⟩ K:=by
  cases b1<;>cases b2
  all_goals
   refine Zo [] [(8681536,[dm4,dm5,dm7,dm8,dm9,Xm],Zly),(25442368,[dm4,dm5,dm7,Yw,Yu,YK,YL,YH],ZtS)] (by kernel_rfl) (by kernel_rfl) (by kernel_rfl) (ZL) (Zs ?_ (Zs ?_ (ZN)))<;>dsimp only [mB,mBH,mM,sv,sb,go_sem,rA,rM,rS]<;>repeat (first | (refine Zx rfl ?_;dsimp only [go_sem,rA,rM,rS]) | (refine Zu (by decide) ?_;dsimp only [go_sem,rA,rM,rS]))
   . refine ⟨_,?_,h8681536⟩;(refine Zh ?_ ?_ ?_ rfl rfl<;>dsimp only [mB,mBH,sv,sb,Ze,Zl,Zg,Za,Zb,Zj,Zm,mM,id,go_sem,rA,rM,rS]<;>simp [mB,mBH,sv,sb,Ze,Zl,Zg,Za,Zb,Zj,Zm,mM,Zc,Zf,KFR,KFL,KF,Zd,mtO,nbr])
   . refine ⟨_,?_,h25442368⟩;(refine Zh ?_ ?_ ?_ rfl rfl<;>dsimp only [mB,mBH,sv,sb,Ze,Zl,Zg,Za,Zb,Zj,Zm,mM,id,go_sem,rA,rM,rS]<;>simp [mB,mBH,sv,sb,Ze,Zl,Zg,Za,Zb,Zj,Zm,mM,Zc,Zf,KFR,KFL,KF,Zd,mtO,nbr])
 have h292928:mL 8 292928 ⟨(175,B b2) :: (163,B b1) :: (171,sv b1 (B (h == lo))) :: mB p X S H j k NN h,(4,mM L2 c2) :: (3,mM L1 c1) :: mBH p X,5,208,[]⟩ K:=by
  cases b1<;>cases b2
  all_goals
   refine Zo [([dm4,dm5,dm7,dm8,dm9,Xm],U1)] [(8681536,[dm4,dm5,dm7,Yw,Yu,YK,YL,YH],ZsD)] (by kernel_rfl) (by kernel_rfl) (by kernel_rfl) (ZR ?_ (ZL)) (Zs ?_ (ZN))<;>dsimp only [mB,mBH,mM,sv,sb,go_sem,rA,rM,rS]<;>repeat (first | (refine Zx rfl ?_;dsimp only [go_sem,rA,rM,rS]) | (refine Zu (by decide) ?_;dsimp only [go_sem,rA,rM,rS]))
   . try (refine ixs j _ rfl hS ?_;dsimp only [go_sem,rA,rM,rS])
     refine ⟨_,?_,h8681536⟩;(refine Zh ?_ ?_ ?_ rfl rfl<;>dsimp only [mB,mBH,sv,sb,Ze,Zl,Zg,Za,Zb,Zj,Zm,mM,id,go_sem,rA,rM,rS]<;>simp [mB,mBH,sv,sb,Ze,Zl,Zg,Za,Zb,Zj,Zm,mM,Zc,Zf,KFR,KFL,KF,Zd,mtO,nbr])
 have h58984512:mL 8 58984512 ⟨(175,B b2) :: (163,B b1) :: (168,sv b1 (.ps [I lo,I hi] 0)) :: (182,sv b2 (I hi)) :: mB p X S H j k NN h,(4,mM L2 c2) :: (3,mM L1 c1) :: mBH p X,5,208,[]⟩ K:=by
  cases b1<;>cases b2
  all_goals
   refine Zo [] [(58988608,[dm4,dm5,dm7,dm9,Xm],Zlt),(126093376,[dm4,dm5,dm7,Yw,Yu,YK,VK,YL,YH],Ze9),(327419968,[dm0,dm1,dm4,dm5,dm7,Yw,Yu,YK,YL,YH],Zha)] (by kernel_rfl) (by kernel_rfl) (by kernel_rfl) (ZL) (Zs ?_ (Zs ?_ (Zs ?_ (ZN))))<;>dsimp only [mB,mBH,mM,sv,sb,go_sem,rA,rM,rS]<;>repeat (first | (refine Zx rfl ?_;dsimp only [go_sem,rA,rM,rS]) | (refine Zu (by decide) ?_;dsimp only [go_sem,rA,rM,rS]))
   . refine ⟨_,?_,h58988608⟩;(refine Zh ?_ ?_ ?_ rfl rfl<;>dsimp only [mB,mBH,sv,sb,Ze,Zl,Zg,Za,Zb,Zj,Zm,mM,id,go_sem,rA,rM,rS]<;>simp [mB,mBH,sv,sb,Ze,Zl,Zg,Za,Zb,Zj,Zm,mM,Zc,Zf,KFR,KFL,KF,Zd,mtO,nbr])
   . refine ⟨_,?_,h126093376⟩;(refine Zh ?_ ?_ ?_ rfl rfl<;>dsimp only [mB,mBH,sv,sb,Ze,Zl,Zg,Za,Zb,Zj,Zm,mM,id,go_sem,rA,rM,rS]<;>simp [mB,mBH,sv,sb,Ze,Zl,Zg,Za,Zb,Zj,Zm,mM,Zc,Zf,KFR,KFL,KF,Zd,mtO,nbr])
   . refine YI hb1 ?_;dsimp only [Zl,go_sem,rA,rM,rS]
     refine ⟨_,?_,h327419968⟩;(refine Zh ?_ ?_ ?_ rfl rfl<;>dsimp only [mB,mBH,sv,sb,Ze,Zl,Zg,Za,Zb,Zj,Zm,mM,id,go_sem,rA,rM,rS]<;>simp [mB,mBH,sv,sb,Ze,Zl,Zg,Za,Zb,Zj,Zm,mM,Zc,Zf,KFR,KFL,KF,Zd,mtO,nbr])
 have h126091328:mL 8 126091328 ⟨(175,B b2) :: (163,B b1) :: (183,sv b2 (B (h == hi))) :: mB p X S H j k NN h,(4,mM L2 c2) :: (3,mM L1 c1) :: mBH p X,5,208,[]⟩ K:=by
  cases b1<;>cases b2
  all_goals
   refine Zo [([dm4,dm5,dm7,Yw,Yu,YK,VK,YL,YH],ZcE)] [(126093376,[dm4,dm5,dm7,dm9,Xm],Zlq),(394526784,[dm0,dm1,dm4,dm5,dm7,Yw,Yu,YK,YL,YH],Zha)] (by kernel_rfl) (by kernel_rfl) (by kernel_rfl) (ZR ?_ (ZL)) (Zs ?_ (Zs ?_ (ZN)))<;>dsimp only [mB,mBH,mM,sv,sb,go_sem,rA,rM,rS]<;>repeat (first | (refine Zx rfl ?_;dsimp only [go_sem,rA,rM,rS]) | (refine Zu (by decide) ?_;dsimp only [go_sem,rA,rM,rS]))
   . try (refine ixs j _ rfl hS ?_;dsimp only [go_sem,rA,rM,rS])
     refine ⟨_,?_,h126093376⟩;(refine Zh ?_ ?_ ?_ rfl rfl<;>dsimp only [mB,mBH,sv,sb,Ze,Zl,Zg,Za,Zb,Zj,Zm,mM,id,go_sem,rA,rM,rS]<;>simp [mB,mBH,sv,sb,Ze,Zl,Zg,Za,Zb,Zj,Zm,mM,Zc,Zf,KFR,KFL,KF,Zd,mtO,nbr])
   . refine YI hb1 ?_;dsimp only [Zl,go_sem,rA,rM,rS]
     refine ⟨_,?_,h394526784⟩;(refine Zh ?_ ?_ ?_ rfl rfl<;>dsimp only [mB,mBH,sv,sb,Ze,Zl,Zg,Za,Zb,Zj,Zm,mM,id,go_sem,rA,rM,rS]<;>simp [mB,mBH,sv,sb,Ze,Zl,Zg,Za,Zb,Zj,Zm,mM,Zc,Zf,KFR,KFL,KF,Zd,mtO,nbr])
 have h327417920:mL 8 327417920 ⟨(185,.tup [B b1,I (Xn c1 (j:Int) L1)]) :: (175,B b2) :: (163,B b1) :: (182,sv b2 (I hi)) :: mB p X S H j k NN h,(4,mM L2 c2) :: (3,mM (mset c1 (j:Int) b1 L1) (mclk c1 (j:Int) L1)) :: mBH p X,5,208,[]⟩ K:=by
  cases b1<;>cases b2
  all_goals
   refine Zo [([dm0,dm1,dm4,dm5,dm7,Yw,Yu,YK,YL,YH],Ui)] [(327419968,[dm4,dm5,dm7,dm9,Xm],Zlq),(394526784,[dm4,dm5,dm7,Yw,Yu,YK,VK,YL,YH],Ze9)] (by kernel_rfl) (by kernel_rfl) (by kernel_rfl) (ZR ?_ (ZL)) (Zs ?_ (Zs ?_ (ZN)))<;>dsimp only [mB,mBH,mM,sv,sb,go_sem,rA,rM,rS]<;>repeat (first | (refine Zx rfl ?_;dsimp only [go_sem,rA,rM,rS]) | (refine Zu (by decide) ?_;dsimp only [go_sem,rA,rM,rS]))
   . try (refine ixs j _ rfl hS ?_;dsimp only [go_sem,rA,rM,rS])
     refine ⟨_,?_,h327419968⟩;(refine Zh ?_ ?_ ?_ rfl rfl<;>dsimp only [mB,mBH,sv,sb,Ze,Zl,Zg,Za,Zb,Zj,Zm,mM,id,go_sem,rA,rM,rS]<;>simp [mB,mBH,sv,sb,Ze,Zl,Zg,Za,Zb,Zj,Zm,mM,Zc,Zf,KFR,KFL,KF,Zd,mtO,nbr])
   . refine ⟨_,?_,h394526784⟩;(refine Zh ?_ ?_ ?_ rfl rfl<;>dsimp only [mB,mBH,sv,sb,Ze,Zl,Zg,Za,Zb,Zj,Zm,mM,id,go_sem,rA,rM,rS]<;>simp [mB,mBH,sv,sb,Ze,Zl,Zg,Za,Zb,Zj,Zm,mM,Zc,Zf,KFR,KFL,KF,Zd,mtO,nbr])
 have h8656960:mL 9 8656960 ⟨(175,B b2) :: (163,B b1) :: (169,sv b1 (.ps [I lo,I hi] 0)) :: (180,sv b2 (.ps [I lo,I hi] 0)) :: mB p X S H j k NN h,(4,mM L2 c2) :: (3,mM L1 c1) :: mBH p X,5,208,[]⟩ K:=by
  cases b1<;>cases b2
  all_goals
   refine Zo [] [(8665152,[dm4,dm5,dm7,dm9,Xm],Zls),(25434176,[dm4,dm5,dm7,Yw,Yu,YK,YL,YH],ZtS)] (by kernel_rfl) (by kernel_rfl) (by kernel_rfl) (ZL) (Zs ?_ (Zs ?_ (ZN)))<;>dsimp only [mB,mBH,mM,sv,sb,go_sem,rA,rM,rS]<;>repeat (first | (refine Zx rfl ?_;dsimp only [go_sem,rA,rM,rS]) | (refine Zu (by decide) ?_;dsimp only [go_sem,rA,rM,rS]))
   . refine ⟨_,?_,h8665152⟩;(refine Zh ?_ ?_ ?_ rfl rfl<;>dsimp only [mB,mBH,sv,sb,Ze,Zl,Zg,Za,Zb,Zj,Zm,mM,id,go_sem,rA,rM,rS]<;>simp [mB,mBH,sv,sb,Ze,Zl,Zg,Za,Zb,Zj,Zm,mM,Zc,Zf,KFR,KFL,KF,Zd,mtO,nbr])
   . refine ⟨_,?_,h25434176⟩;(refine Zh ?_ ?_ ?_ rfl rfl<;>dsimp only [mB,mBH,sv,sb,Ze,Zl,Zg,Za,Zb,Zj,Zm,mM,id,go_sem,rA,rM,rS]<;>simp [mB,mBH,sv,sb,Ze,Zl,Zg,Za,Zb,Zj,Zm,mM,Zc,Zf,KFR,KFL,KF,Zd,mtO,nbr])
 have h276544:mL 9 276544 ⟨(175,B b2) :: (163,B b1) :: (170,sv b1 (I lo)) :: mB p X S H j k NN h,(4,mM L2 c2) :: (3,mM L1 c1) :: mBH p X,5,208,[]⟩ K:=by
  cases b1<;>cases b2
  all_goals
   refine Zo [] [(292928,[dm4,dm5,dm7,dm8,dm9,Xm],Zly),(8665152,[dm4,dm5,dm7,Yw,Yu,YK,YL,YH],ZsD)] (by kernel_rfl) (by kernel_rfl) (by kernel_rfl) (ZL) (Zs ?_ (Zs ?_ (ZN)))<;>dsimp only [mB,mBH,mM,sv,sb,go_sem,rA,rM,rS]<;>repeat (first | (refine Zx rfl ?_;dsimp only [go_sem,rA,rM,rS]) | (refine Zu (by decide) ?_;dsimp only [go_sem,rA,rM,rS]))
   . refine ⟨_,?_,h292928⟩;(refine Zh ?_ ?_ ?_ rfl rfl<;>dsimp only [mB,mBH,sv,sb,Ze,Zl,Zg,Za,Zb,Zj,Zm,mM,id,go_sem,rA,rM,rS]<;>simp [mB,mBH,sv,sb,Ze,Zl,Zg,Za,Zb,Zj,Zm,mM,Zc,Zf,KFR,KFL,KF,Zd,mtO,nbr])
   . try (refine ixs j _ rfl hS ?_;dsimp only [go_sem,rA,rM,rS])
     refine ⟨_,?_,h8665152⟩;(refine Zh ?_ ?_ ?_ rfl rfl<;>dsimp only [mB,mBH,sv,sb,Ze,Zl,Zg,Za,Zb,Zj,Zm,mM,id,go_sem,rA,rM,rS]<;>simp [mB,mBH,sv,sb,Ze,Zl,Zg,Za,Zb,Zj,Zm,mM,Zc,Zf,KFR,KFL,KF,Zd,mtO,nbr])
 have h30784:mL 9 30784 ⟨(163,B b1) :: (171,sv b1 (B (h == lo))) :: mB p X S H j k NN h,(4,mM L2 c2) :: (3,mM L1 c1) :: mBH p X,5,208,[]⟩ K:=by
  cases b1<;>cases b2
  all_goals
   refine Zo [([dm4,dm5,dm7,dm8,dm9,Xm],U1)] [(292928,[Yw,Yu],Zrn)] (by kernel_rfl) (by kernel_rfl) (by kernel_rfl) (ZR ?_ (ZL)) (Zs ?_ (ZN))<;>dsimp only [mB,mBH,mM,sv,sb,go_sem,rA,rM,rS]<;>repeat (first | (refine Zx rfl ?_;dsimp only [go_sem,rA,rM,rS]) | (refine Zu (by decide) ?_;dsimp only [go_sem,rA,rM,rS]))
   . refine Xy hb2 ?_;dsimp only [Zl,go_sem,rA,rM,rS];refine ⟨_,?_,h292928⟩;(refine Zh ?_ ?_ ?_ rfl rfl<;>dsimp only [mB,mBH,sv,sb,Ze,Zl,Zg,Za,Zb,Zj,Zm,mM,id,go_sem,rA,rM,rS]<;>simp [mB,mBH,sv,sb,Ze,Zl,Zg,Za,Zb,Zj,Zm,mM,Zc,Zf,KFR,KFL,KF,Zd,mtO,nbr])
 have h25430080:mL 9 25430080 ⟨(175,B b2) :: (163,B b1) :: (168,sv b1 (.ps [I lo,I hi] 0)) :: (181,sv b2 (.ps [I lo,I hi] 1)) :: mB p X S H j k NN h,(4,mM L2 c2) :: (3,mM L1 c1) :: mBH p X,5,208,[]⟩ K:=by
  cases b1<;>cases b2
  all_goals
   refine Zo [] [(25434176,[dm4,dm5,dm7,dm9,Xm],Zlt),(58984512,[dm4,dm5,dm7,Yw,Yu,YK,YL,YH],Zsi)] (by kernel_rfl) (by kernel_rfl) (by kernel_rfl) (ZL) (Zs ?_ (Zs ?_ (ZN)))<;>dsimp only [mB,mBH,mM,sv,sb,go_sem,rA,rM,rS]<;>repeat (first | (refine Zx rfl ?_;dsimp only [go_sem,rA,rM,rS]) | (refine Zu (by decide) ?_;dsimp only [go_sem,rA,rM,rS]))
   . refine ⟨_,?_,h25434176⟩;(refine Zh ?_ ?_ ?_ rfl rfl<;>dsimp only [mB,mBH,sv,sb,Ze,Zl,Zg,Za,Zb,Zj,Zm,mM,id,go_sem,rA,rM,rS]<;>simp [mB,mBH,sv,sb,Ze,Zl,Zg,Za,Zb,Zj,Zm,mM,Zc,Zf,KFR,KFL,KF,Zd,mtO,nbr])
   . refine ⟨_,?_,h58984512⟩;(refine Zh ?_ ?_ ?_ rfl rfl<;>dsimp only [mB,mBH,sv,sb,Ze,Zl,Zg,Za,Zb,Zj,Zm,mM,id,go_sem,rA,rM,rS]<;>simp [mB,mBH,sv,sb,Ze,Zl,Zg,Za,Zb,Zj,Zm,mM,Zc,Zf,KFR,KFL,KF,Zd,mtO,nbr])
 have h58982464:mL 9 58982464 ⟨(175,B b2) :: (163,B b1) :: (182,sv b2 (I hi)) :: mB p X S H j k NN h,(4,mM L2 c2) :: (3,mM L1 c1) :: mBH p X,5,208,[]⟩ K:=by
  cases b1<;>cases b2
  all_goals
   refine Zo [] [(58984512,[dm4,dm5,dm7,dm9,Xm],Zlq),(126091328,[dm4,dm5,dm7,Yw,Yu,YK,VK,YL,YH],Ze9),(327417920,[dm0,dm1,dm4,dm5,dm7,Yw,Yu,YK,YL,YH],Zha)] (by kernel_rfl) (by kernel_rfl) (by kernel_rfl) (ZL) (Zs ?_ (Zs ?_ (Zs ?_ (ZN))))<;>dsimp only [mB,mBH,mM,sv,sb,go_sem,rA,rM,rS]<;>repeat (first | (refine Zx rfl ?_;dsimp only [go_sem,rA,rM,rS]) | (refine Zu (by decide) ?_;dsimp only [go_sem,rA,rM,rS]))
   . try (refine ixs j _ rfl hS ?_;dsimp only [go_sem,rA,rM,rS])
     refine ⟨_,?_,h58984512⟩;(refine Zh ?_ ?_ ?_ rfl rfl<;>dsimp only [mB,mBH,sv,sb,Ze,Zl,Zg,Za,Zb,Zj,Zm,mM,id,go_sem,rA,rM,rS]<;>simp [mB,mBH,sv,sb,Ze,Zl,Zg,Za,Zb,Zj,Zm,mM,Zc,Zf,KFR,KFL,KF,Zd,mtO,nbr])
   . refine ⟨_,?_,h126091328⟩;(refine Zh ?_ ?_ ?_ rfl rfl<;>dsimp only [mB,mBH,sv,sb,Ze,Zl,Zg,Za,Zb,Zj,Zm,mM,id,go_sem,rA,rM,rS]<;>simp [mB,mBH,sv,sb,Ze,Zl,Zg,Za,Zb,Zj,Zm,mM,Zc,Zf,KFR,KFL,KF,Zd,mtO,nbr])
   . refine YI hb1 ?_;dsimp only [Zl,go_sem,rA,rM,rS]
     refine ⟨_,?_,h327417920⟩;(refine Zh ?_ ?_ ?_ rfl rfl<;>dsimp only [mB,mBH,sv,sb,Ze,Zl,Zg,Za,Zb,Zj,Zm,mM,id,go_sem,rA,rM,rS]<;>simp [mB,mBH,sv,sb,Ze,Zl,Zg,Za,Zb,Zj,Zm,mM,Zc,Zf,KFR,KFL,KF,Zd,mtO,nbr])
 have h268352:mL 10 268352 ⟨(175,B b2) :: (163,B b1) :: (169,sv b1 (.ps [I lo,I hi] 0)) :: mB p X S H j k NN h,(4,mM L2 c2) :: (3,mM L1 c1) :: mBH p X,5,208,[]⟩ K:=by
  cases b1<;>cases b2
  all_goals
   refine Zo [] [(276544,[dm4,dm5,dm7,dm9,Xm],Zls),(8656960,[dm4,dm5,dm7,Yw,Yu,YK,YL,YH],ZsD)] (by kernel_rfl) (by kernel_rfl) (by kernel_rfl) (ZL) (Zs ?_ (Zs ?_ (ZN)))<;>dsimp only [mB,mBH,mM,sv,sb,go_sem,rA,rM,rS]<;>repeat (first | (refine Zx rfl ?_;dsimp only [go_sem,rA,rM,rS]) | (refine Zu (by decide) ?_;dsimp only [go_sem,rA,rM,rS]))
   . refine ⟨_,?_,h276544⟩;(refine Zh ?_ ?_ ?_ rfl rfl<;>dsimp only [mB,mBH,sv,sb,Ze,Zl,Zg,Za,Zb,Zj,Zm,mM,id,go_sem,rA,rM,rS]<;>simp [mB,mBH,sv,sb,Ze,Zl,Zg,Za,Zb,Zj,Zm,mM,Zc,Zf,KFR,KFL,KF,Zd,mtO,nbr])
   . try (refine ixs j _ rfl hS ?_;dsimp only [go_sem,rA,rM,rS])
     refine ⟨_,?_,h8656960⟩;(refine Zh ?_ ?_ ?_ rfl rfl<;>dsimp only [mB,mBH,sv,sb,Ze,Zl,Zg,Za,Zb,Zj,Zm,mM,id,go_sem,rA,rM,rS]<;>simp [mB,mBH,sv,sb,Ze,Zl,Zg,Za,Zb,Zj,Zm,mM,Zc,Zf,KFR,KFL,KF,Zd,mtO,nbr])
 have h14400:mL 10 14400 ⟨(163,B b1) :: (170,sv b1 (I lo)) :: mB p X S H j k NN h,(4,mM L2 c2) :: (3,mM L1 c1) :: mBH p X,5,208,[]⟩ K:=by
  cases b1<;>cases b2
  all_goals
   refine Zo [] [(30784,[dm4,dm5,dm7,dm8,dm9,Xm],Zly),(276544,[Yw,Yu],Zrn)] (by kernel_rfl) (by kernel_rfl) (by kernel_rfl) (ZL) (Zs ?_ (Zs ?_ (ZN)))<;>dsimp only [mB,mBH,mM,sv,sb,go_sem,rA,rM,rS]<;>repeat (first | (refine Zx rfl ?_;dsimp only [go_sem,rA,rM,rS]) | (refine Zu (by decide) ?_;dsimp only [go_sem,rA,rM,rS]))
   . refine ⟨_,?_,h30784⟩;(refine Zh ?_ ?_ ?_ rfl rfl<;>dsimp only [mB,mBH,sv,sb,Ze,Zl,Zg,Za,Zb,Zj,Zm,mM,id,go_sem,rA,rM,rS]<;>simp [mB,mBH,sv,sb,Ze,Zl,Zg,Za,Zb,Zj,Zm,mM,Zc,Zf,KFR,KFL,KF,Zd,mtO,nbr])
   . refine Xy hb2 ?_;dsimp only [Zl,go_sem,rA,rM,rS];refine ⟨_,?_,h276544⟩;(refine Zh ?_ ?_ ?_ rfl rfl<;>dsimp only [mB,mBH,sv,sb,Ze,Zl,Zg,Za,Zb,Zj,Zm,mM,id,go_sem,rA,rM,rS]<;>simp [mB,mBH,sv,sb,Ze,Zl,Zg,Za,Zb,Zj,Zm,mM,Zc,Zf,KFR,KFL,KF,Zd,mtO,nbr])
 have h8652864:mL 10 8652864 ⟨(175,B b2) :: (163,B b1) :: (168,sv b1 (.ps [I lo,I hi] 0)) :: (180,sv b2 (.ps [I lo,I hi] 0)) :: mB p X S H j k NN h,(4,mM L2 c2) :: (3,mM L1 c1) :: mBH p X,5,208,[]⟩ K:=by
  cases b1<;>cases b2
  all_goals
   refine Zo [] [(8656960,[dm4,dm5,dm7,dm9,Xm],Zlt),(25430080,[dm4,dm5,dm7,Yw,Yu,YK,YL,YH],ZtS)] (by kernel_rfl) (by kernel_rfl) (by kernel_rfl) (ZL) (Zs ?_ (Zs ?_ (ZN)))<;>dsimp only [mB,mBH,mM,sv,sb,go_sem,rA,rM,rS]<;>repeat (first | (refine Zx rfl ?_;dsimp only [go_sem,rA,rM,rS]) | (refine Zu (by decide) ?_;dsimp only [go_sem,rA,rM,rS]))
   . refine ⟨_,?_,h8656960⟩;(refine Zh ?_ ?_ ?_ rfl rfl<;>dsimp only [mB,mBH,sv,sb,Ze,Zl,Zg,Za,Zb,Zj,Zm,mM,id,go_sem,rA,rM,rS]<;>simp [mB,mBH,sv,sb,Ze,Zl,Zg,Za,Zb,Zj,Zm,mM,Zc,Zf,KFR,KFL,KF,Zd,mtO,nbr])
   . refine ⟨_,?_,h25430080⟩;(refine Zh ?_ ?_ ?_ rfl rfl<;>dsimp only [mB,mBH,sv,sb,Ze,Zl,Zg,Za,Zb,Zj,Zm,mM,id,go_sem,rA,rM,rS]<;>simp [mB,mBH,sv,sb,Ze,Zl,Zg,Za,Zb,Zj,Zm,mM,Zc,Zf,KFR,KFL,KF,Zd,mtO,nbr])
 have h25428032:mL 10 25428032 ⟨(175,B b2) :: (163,B b1) :: (181,sv b2 (.ps [I lo,I hi] 1)) :: mB p X S H j k NN h,(4,mM L2 c2) :: (3,mM L1 c1) :: mBH p X,5,208,[]⟩ K:=by
  cases b1<;>cases b2
  all_goals
   refine Zo [] [(25430080,[dm4,dm5,dm7,dm9,Xm],Zlq),(58982464,[dm4,dm5,dm7,Yw,Yu,YK,YL,YH],Zsi)] (by kernel_rfl) (by kernel_rfl) (by kernel_rfl) (ZL) (Zs ?_ (Zs ?_ (ZN)))<;>dsimp only [mB,mBH,mM,sv,sb,go_sem,rA,rM,rS]<;>repeat (first | (refine Zx rfl ?_;dsimp only [go_sem,rA,rM,rS]) | (refine Zu (by decide) ?_;dsimp only [go_sem,rA,rM,rS]))
   . try (refine ixs j _ rfl hS ?_;dsimp only [go_sem,rA,rM,rS])
     refine ⟨_,?_,h25430080⟩;(refine Zh ?_ ?_ ?_ rfl rfl<;>dsimp only [mB,mBH,sv,sb,Ze,Zl,Zg,Za,Zb,Zj,Zm,mM,id,go_sem,rA,rM,rS]<;>simp [mB,mBH,sv,sb,Ze,Zl,Zg,Za,Zb,Zj,Zm,mM,Zc,Zf,KFR,KFL,KF,Zd,mtO,nbr])
   . refine ⟨_,?_,h58982464⟩;(refine Zh ?_ ?_ ?_ rfl rfl<;>dsimp only [mB,mBH,sv,sb,Ze,Zl,Zg,Za,Zb,Zj,Zm,mM,id,go_sem,rA,rM,rS]<;>simp [mB,mBH,sv,sb,Ze,Zl,Zg,Za,Zb,Zj,Zm,mM,Zc,Zf,KFR,KFL,KF,Zd,mtO,nbr])
 have h6208:mL 11 6208 ⟨(163,B b1) :: (169,sv b1 (.ps [I lo,I hi] 0)) :: mB p X S H j k NN h,(4,mM L2 c2) :: (3,mM L1 c1) :: mBH p X,5,208,[]⟩ K:=by
  cases b1<;>cases b2
  all_goals
   refine Zo [] [(14400,[dm4,dm5,dm7,dm9,Xm],Zls),(268352,[Yw,Yu],Zrn)] (by kernel_rfl) (by kernel_rfl) (by kernel_rfl) (ZL) (Zs ?_ (Zs ?_ (ZN)))<;>dsimp only [mB,mBH,mM,sv,sb,go_sem,rA,rM,rS]<;>repeat (first | (refine Zx rfl ?_;dsimp only [go_sem,rA,rM,rS]) | (refine Zu (by decide) ?_;dsimp only [go_sem,rA,rM,rS]))
   . refine ⟨_,?_,h14400⟩;(refine Zh ?_ ?_ ?_ rfl rfl<;>dsimp only [mB,mBH,sv,sb,Ze,Zl,Zg,Za,Zb,Zj,Zm,mM,id,go_sem,rA,rM,rS]<;>simp [mB,mBH,sv,sb,Ze,Zl,Zg,Za,Zb,Zj,Zm,mM,Zc,Zf,KFR,KFL,KF,Zd,mtO,nbr])
   . refine Xy hb2 ?_;dsimp only [Zl,go_sem,rA,rM,rS];refine ⟨_,?_,h268352⟩;(refine Zh ?_ ?_ ?_ rfl rfl<;>dsimp only [mB,mBH,sv,sb,Ze,Zl,Zg,Za,Zb,Zj,Zm,mM,id,go_sem,rA,rM,rS]<;>simp [mB,mBH,sv,sb,Ze,Zl,Zg,Za,Zb,Zj,Zm,mM,Zc,Zf,KFR,KFL,KF,Zd,mtO,nbr])
 have h264256:mL 11 264256 ⟨(175,B b2) :: (163,B b1) :: (168,sv b1 (.ps [I lo,I hi] 0)) :: mB p X S H j k NN h,(4,mM L2 c2) :: (3,mM L1 c1) :: mBH p X,5,208,[]⟩ K:=by
  cases b1<;>cases b2
  all_goals
   refine Zo [] [(268352,[dm4,dm5,dm7,dm9,Xm],Zlt),(8652864,[dm4,dm5,dm7,Yw,Yu,YK,YL,YH],ZsD)] (by kernel_rfl) (by kernel_rfl) (by kernel_rfl) (ZL) (Zs ?_ (Zs ?_ (ZN)))<;>dsimp only [mB,mBH,mM,sv,sb,go_sem,rA,rM,rS]<;>repeat (first | (refine Zx rfl ?_;dsimp only [go_sem,rA,rM,rS]) | (refine Zu (by decide) ?_;dsimp only [go_sem,rA,rM,rS]))
   . refine ⟨_,?_,h268352⟩;(refine Zh ?_ ?_ ?_ rfl rfl<;>dsimp only [mB,mBH,sv,sb,Ze,Zl,Zg,Za,Zb,Zj,Zm,mM,id,go_sem,rA,rM,rS]<;>simp [mB,mBH,sv,sb,Ze,Zl,Zg,Za,Zb,Zj,Zm,mM,Zc,Zf,KFR,KFL,KF,Zd,mtO,nbr])
   . try (refine ixs j _ rfl hS ?_;dsimp only [go_sem,rA,rM,rS])
     refine ⟨_,?_,h8652864⟩;(refine Zh ?_ ?_ ?_ rfl rfl<;>dsimp only [mB,mBH,sv,sb,Ze,Zl,Zg,Za,Zb,Zj,Zm,mM,id,go_sem,rA,rM,rS]<;>simp [mB,mBH,sv,sb,Ze,Zl,Zg,Za,Zb,Zj,Zm,mM,Zc,Zf,KFR,KFL,KF,Zd,mtO,nbr])
 have h8650816:mL 11 8650816 ⟨(175,B b2) :: (163,B b1) :: (180,sv b2 (.ps [I lo,I hi] 0)) :: mB p X S H j k NN h,(4,mM L2 c2) :: (3,mM L1 c1) :: mBH p X,5,208,[]⟩ K:=by
  cases b1<;>cases b2
  all_goals
   refine Zo [] [(8652864,[dm4,dm5,dm7,dm9,Xm],Zlq),(25428032,[dm4,dm5,dm7,Yw,Yu,YK,YL,YH],ZtS)] (by kernel_rfl) (by kernel_rfl) (by kernel_rfl) (ZL) (Zs ?_ (Zs ?_ (ZN)))<;>dsimp only [mB,mBH,mM,sv,sb,go_sem,rA,rM,rS]<;>repeat (first | (refine Zx rfl ?_;dsimp only [go_sem,rA,rM,rS]) | (refine Zu (by decide) ?_;dsimp only [go_sem,rA,rM,rS]))
   . try (refine ixs j _ rfl hS ?_;dsimp only [go_sem,rA,rM,rS])
     refine ⟨_,?_,h8652864⟩;(refine Zh ?_ ?_ ?_ rfl rfl<;>dsimp only [mB,mBH,sv,sb,Ze,Zl,Zg,Za,Zb,Zj,Zm,mM,id,go_sem,rA,rM,rS]<;>simp [mB,mBH,sv,sb,Ze,Zl,Zg,Za,Zb,Zj,Zm,mM,Zc,Zf,KFR,KFL,KF,Zd,mtO,nbr])
   . refine ⟨_,?_,h25428032⟩;(refine Zh ?_ ?_ ?_ rfl rfl<;>dsimp only [mB,mBH,sv,sb,Ze,Zl,Zg,Za,Zb,Zj,Zm,mM,id,go_sem,rA,rM,rS]<;>simp [mB,mBH,sv,sb,Ze,Zl,Zg,Za,Zb,Zj,Zm,mM,Zc,Zf,KFR,KFL,KF,Zd,mtO,nbr])
 have h2112:mL 12 2112 ⟨(163,B b1) :: (168,sv b1 (.ps [I lo,I hi] 0)) :: mB p X S H j k NN h,(4,mM L2 c2) :: (3,mM L1 c1) :: mBH p X,5,208,[]⟩ K:=by
  cases b1<;>cases b2
  all_goals
   refine Zo [] [(6208,[dm4,dm5,dm7,dm9,Xm],Zlt),(264256,[Yw,Yu],Zrn)] (by kernel_rfl) (by kernel_rfl) (by kernel_rfl) (ZL) (Zs ?_ (Zs ?_ (ZN)))<;>dsimp only [mB,mBH,mM,sv,sb,go_sem,rA,rM,rS]<;>repeat (first | (refine Zx rfl ?_;dsimp only [go_sem,rA,rM,rS]) | (refine Zu (by decide) ?_;dsimp only [go_sem,rA,rM,rS]))
   . refine ⟨_,?_,h6208⟩;(refine Zh ?_ ?_ ?_ rfl rfl<;>dsimp only [mB,mBH,sv,sb,Ze,Zl,Zg,Za,Zb,Zj,Zm,mM,id,go_sem,rA,rM,rS]<;>simp [mB,mBH,sv,sb,Ze,Zl,Zg,Za,Zb,Zj,Zm,mM,Zc,Zf,KFR,KFL,KF,Zd,mtO,nbr])
   . refine Xy hb2 ?_;dsimp only [Zl,go_sem,rA,rM,rS];refine ⟨_,?_,h264256⟩;(refine Zh ?_ ?_ ?_ rfl rfl<;>dsimp only [mB,mBH,sv,sb,Ze,Zl,Zg,Za,Zb,Zj,Zm,mM,id,go_sem,rA,rM,rS]<;>simp [mB,mBH,sv,sb,Ze,Zl,Zg,Za,Zb,Zj,Zm,mM,Zc,Zf,KFR,KFL,KF,Zd,mtO,nbr])
 have h262208:mL 12 262208 ⟨(175,B b2) :: (163,B b1) :: mB p X S H j k NN h,(4,mM L2 c2) :: (3,mM L1 c1) :: mBH p X,5,208,[]⟩ K:=by
  cases b1<;>cases b2
  all_goals
   refine Zo [] [(264256,[dm4,dm5,dm7,dm9,Xm],Zlq),(8650816,[dm4,dm5,dm7,Yw,Yu,YK,YL,YH],ZsD)] (by kernel_rfl) (by kernel_rfl) (by kernel_rfl) (ZL) (Zs ?_ (Zs ?_ (ZN)))<;>dsimp only [mB,mBH,mM,sv,sb,go_sem,rA,rM,rS]<;>repeat (first | (refine Zx rfl ?_;dsimp only [go_sem,rA,rM,rS]) | (refine Zu (by decide) ?_;dsimp only [go_sem,rA,rM,rS]))
   . try (refine ixs j _ rfl hS ?_;dsimp only [go_sem,rA,rM,rS])
     refine ⟨_,?_,h264256⟩;(refine Zh ?_ ?_ ?_ rfl rfl<;>dsimp only [mB,mBH,sv,sb,Ze,Zl,Zg,Za,Zb,Zj,Zm,mM,id,go_sem,rA,rM,rS]<;>simp [mB,mBH,sv,sb,Ze,Zl,Zg,Za,Zb,Zj,Zm,mM,Zc,Zf,KFR,KFL,KF,Zd,mtO,nbr])
   . try (refine ixs j _ rfl hS ?_;dsimp only [go_sem,rA,rM,rS])
     refine ⟨_,?_,h8650816⟩;(refine Zh ?_ ?_ ?_ rfl rfl<;>dsimp only [mB,mBH,sv,sb,Ze,Zl,Zg,Za,Zb,Zj,Zm,mM,id,go_sem,rA,rM,rS]<;>simp [mB,mBH,sv,sb,Ze,Zl,Zg,Za,Zb,Zj,Zm,mM,Zc,Zf,KFR,KFL,KF,Zd,mtO,nbr])
 have h262144:mL 13 262144 ⟨(175,B b2) :: mB p X S H j k NN h,(4,mM L2 c2) :: (3,mM L1 c1) :: mBH p X,5,208,[]⟩ K:=by
  cases b1<;>cases b2
  all_goals
   refine Zo [] [(262208,[dm4,dm5],dm6)] (by kernel_rfl) (by kernel_rfl) (by kernel_rfl) (ZL) (Zs ?_ (ZN))<;>dsimp only [mB,mBH,mM,sv,sb,go_sem,rA,rM,rS]<;>repeat (first | (refine Zx rfl ?_;dsimp only [go_sem,rA,rM,rS]) | (refine Zu (by decide) ?_;dsimp only [go_sem,rA,rM,rS]))
   . refine Xy hb1 ?_;dsimp only [Zl,go_sem,rA,rM,rS];refine ⟨_,?_,h262208⟩;(refine Zh ?_ ?_ ?_ rfl rfl<;>dsimp only [mB,mBH,sv,sb,Ze,Zl,Zg,Za,Zb,Zj,Zm,mM,id,go_sem,rA,rM,rS]<;>simp [mB,mBH,sv,sb,Ze,Zl,Zg,Za,Zb,Zj,Zm,mM,Zc,Zf,KFR,KFL,KF,Zd,mtO,nbr])
 have h64:mL 13 64 ⟨(163,B b1) :: mB p X S H j k NN h,(4,mM L2 c2) :: (3,mM L1 c1) :: mBH p X,5,208,[]⟩ K:=by
  cases b1<;>cases b2
  all_goals
   refine Zo [] [(2112,[dm4,dm5,dm7,dm9,Xm],Zlq),(262208,[Yw,Yu],Zrn)] (by kernel_rfl) (by kernel_rfl) (by kernel_rfl) (ZL) (Zs ?_ (Zs ?_ (ZN)))<;>dsimp only [mB,mBH,mM,sv,sb,go_sem,rA,rM,rS]<;>repeat (first | (refine Zx rfl ?_;dsimp only [go_sem,rA,rM,rS]) | (refine Zu (by decide) ?_;dsimp only [go_sem,rA,rM,rS]))
   . try (refine ixs j _ rfl hS ?_;dsimp only [go_sem,rA,rM,rS])
     refine ⟨_,?_,h2112⟩;(refine Zh ?_ ?_ ?_ rfl rfl<;>dsimp only [mB,mBH,sv,sb,Ze,Zl,Zg,Za,Zb,Zj,Zm,mM,id,go_sem,rA,rM,rS]<;>simp [mB,mBH,sv,sb,Ze,Zl,Zg,Za,Zb,Zj,Zm,mM,Zc,Zf,KFR,KFL,KF,Zd,mtO,nbr])
   . refine Xy hb2 ?_;dsimp only [Zl,go_sem,rA,rM,rS];refine ⟨_,?_,h262208⟩;(refine Zh ?_ ?_ ?_ rfl rfl<;>dsimp only [mB,mBH,sv,sb,Ze,Zl,Zg,Za,Zb,Zj,Zm,mM,id,go_sem,rA,rM,rS]<;>simp [mB,mBH,sv,sb,Ze,Zl,Zg,Za,Zb,Zj,Zm,mM,Zc,Zf,KFR,KFL,KF,Zd,mtO,nbr])
 have h0:mL 14 0 ⟨mB p X S H j k NN h,(4,mM L2 c2) :: (3,mM L1 c1) :: mBH p X,5,208,[]⟩ K:=by
  cases b1<;>cases b2
  all_goals
   refine Zo [] [(64,[dm4,dm5],dm6),(262144,[Yw,Yu],Zrn)] (by kernel_rfl) (by kernel_rfl) (by kernel_rfl) (ZL) (Zs ?_ (Zs ?_ (ZN)))<;>dsimp only [mB,mBH,mM,sv,sb,go_sem,rA,rM,rS]<;>repeat (first | (refine Zx rfl ?_;dsimp only [go_sem,rA,rM,rS]) | (refine Zu (by decide) ?_;dsimp only [go_sem,rA,rM,rS]))
   . refine Xy hb1 ?_;dsimp only [Zl,go_sem,rA,rM,rS];refine ⟨_,?_,h64⟩;(refine Zh ?_ ?_ ?_ rfl rfl<;>dsimp only [mB,mBH,sv,sb,Ze,Zl,Zg,Za,Zb,Zj,Zm,mM,id,go_sem,rA,rM,rS]<;>simp [mB,mBH,sv,sb,Ze,Zl,Zg,Za,Zb,Zj,Zm,mM,Zc,Zf,KFR,KFL,KF,Zd,mtO,nbr])
   . refine Xy hb2 ?_;dsimp only [Zl,go_sem,rA,rM,rS];refine ⟨_,?_,h262144⟩;(refine Zh ?_ ?_ ?_ rfl rfl<;>dsimp only [mB,mBH,sv,sb,Ze,Zl,Zg,Za,Zb,Zj,Zm,mM,id,go_sem,rA,rM,rS]<;>simp [mB,mBH,sv,sb,Ze,Zl,Zg,Za,Zb,Zj,Zm,mM,Zc,Zf,KFR,KFL,KF,Zd,mtO,nbr])
 exact h0
theorem Znm (p:Pact) (l:List Letter) (w:Int) (hw:0<=w/\w<=255) (c:Bool):Ct Try.prog 12 [.agg (Zg p),.sl c 8 (l.map Zb),U8 w] (B true):=by
 refine t12.1 (by simp [Zg,Za,Zb,Zc,KFL,KF]) (by simp [KFL,KF]) ?_
 obtain ⟨wn,rfl⟩:=Int.eq_ofNat_of_zero_le hw.1
 dsimp only [c12,r12,Zg,go_sem,rA,rM,rS]
 refine call Zov ?_
 dsimp only [go_sem,rA,rM,rS]
 refine call (Zj4 p l c) ?_
 dsimp only [go_sem,rA,rM,rS]
 by_cases hr:UH p l=true
 case neg =>
  rw [Bool.not_eq_true] at hr
  rw [hr]
  repeat (refine Zu (by decide) ?_;dsimp only [go_sem,rA,rM,rS])
  refine ZU rfl ?_
  dsimp only [go_sem,rA,rM,rS]
 rw [hr]
 obtain ⟨hs,hl,h0⟩:=Zol hr
 obtain ⟨hp,-,hok,h2⟩:=VD h0
 repeat (refine Zx rfl ?_;dsimp only [go_sem,rA,rM,rS])
 refine ZH rfl ?_
 dsimp only [go_sem,rA,rM,rS]
 refine call (Zhx p l hs (by omega) c) ?_
 dsimp only [go_sem,rA,rM,rS]
 have e1:VR p l=YD p l:=by rw [VR,if_pos h0]
 have hrl:=W1 (p:=p) (l:=l)
 have hsE:Xj p l=if mN (YD p l) > 6 then 83 else 0:=by rw [Xj,if_pos h0]
 have hsR:Ww p l=if mN (YD p l) > 6 then [] else XM p (YD p l):=by
  rw [Ww,hsE]
  by_cases h:mN (YD p l) > 6
  . rw [if_pos h,if_pos h];rfl
  . rw [if_neg h,if_neg h];rfl
 have hsub:∀ few:List Letter,few.Sublist (YD p l)->YB p few=0/\YD p few=few:=fun few h=>Zmy h0 h
 refine call (ZcK p l hs (by omega) c) ?_
 rw [e1,h0,hsE,hsR]
 dsimp only [go_sem,rA,rM,rS]
 have hpl:p.partners.length<=1000:=hs
 generalize YD p l=X at *
 refine ZH rfl ?_
 dsimp only [go_sem,rA,rM,rS]
 simp only [List.length_map]
 refine Zb1 (Yh 13 1 3 rfl rfl) (fun s:Nat=>[(56,I (s:Nat)),(13,.mr 2 (mN (X.take s)))]) (fun s=>[(2,.row (mN (X.take s)) 1 ((mI 0 (X.take s)).map Z5) 3)]) (fun s=>s<=X.length) (fun s=>X.length - s) 0 (Nat.zero_le _) ?_ ?_
 . (refine Zh ?_ ?_ ?_ rfl rfl<;>dsimp only [Zg,Za,Zb,mI,mN,Zj,u8L,id,go_sem,rA,rM,rS]<;>simp [Zg,Za,Zb,mI,mN,Zj,u8L,Zc,Zf,KFR,KFL,KF,Zd,mtO,nbr])
 intro k hk
 dsimp only [go_sem,rA,rM,rS]
 by_cases hlt:k < X.length
 . refine ZU (by simpa using hlt) ?_
   dsimp only [go_sem,rA,rM,rS]
   refine ZQ k hlt rfl ?_
   dsimp only [Zb,go_sem,rA,rM,rS]
   have hmI:=Zhr hlt
   have hml:=V7 (l:=X.take (k+1)) (k:=0)
   have hml0:=V7 (l:=X.take k) (k:=0)
   by_cases hm:X[k].mouth=true
   . refine ZU hm ?_
     (repeat first | dsimp only [go_sem,rA,rM,rS] | simp only [nbr])
     have hbd:(mI 0 (X.take k)).length<=X.length:=by
      rw [hml0];exact Nat.le_trans (List.length_filter_le _ _) (by simp;omega)
     refine ⟨by simp [Z9,WQ,U9],by simp;omega,?_⟩
     (repeat first | dsimp only [go_sem,rA,rM,rS] | simp only [nbr])
     rw [if_pos hm] at hmI
     have e1:(mI 0 (X.take k)).map Z5 ++ [[I (k:Int)]]=(mI 0 (X.take (k+1))).map Z5:=by rw [hmI,List.map_append];rfl
     have e2:mN (X.take k)+1=mN (X.take (k+1)):=by rw [<- hml,<- hml0,hmI];simp
     rw [e1,e2,Zk (n:=(k:Int)+1) (by omega) (by omega)]
     refine ⟨k+1,hlt,by omega,?_⟩
     (refine Zh ?_ ?_ ?_ rfl rfl<;>dsimp only [Zg,Za,Zb,Z5,Zj,u8L,id,go_sem,rA,rM,rS]<;>simp [Zg,Za,Zb,Z5,Zj,u8L,Zc,Zf,KFR,KFL,KF,Zd,mtO,nbr])
   . refine ZH (by simpa using hm) ?_
     (repeat first | dsimp only [go_sem,rA,rM,rS] | simp only [nbr])
     rw [if_neg hm,List.append_nil] at hmI
     have e2:mN (X.take k)=mN (X.take (k+1)):=by rw [<- hml,<- hml0,hmI]
     rw [<- hmI,e2,Zk (n:=(k:Int)+1) (by omega) (by omega)]
     refine ⟨k+1,hlt,by omega,?_⟩
     (refine Zh ?_ ?_ ?_ rfl rfl<;>dsimp only [Zg,Za,Zb,Z5,Zj,u8L,id,go_sem,rA,rM,rS]<;>simp [Zg,Za,Zb,Z5,Zj,u8L,Zc,Zf,KFR,KFL,KF,Zd,mtO,nbr])
 refine ZH (by simpa using hlt) ?_
 dsimp only [go_sem,rA,rM,rS]
 have hkl:k=X.length:=by omega
 subst hkl
 rw [List.take_length]
 have hmN:=V7 (l:=X) (k:=0)
 refine gh (X7 13 2 (mN X) rfl rfl rfl rfl) ?_
 dsimp only [go_sem,rA,rM,rS]
 by_cases h6:mN X > 6
 . rw [if_pos h6,if_pos h6]
   refine ZU rfl ?_
   dsimp only [go_sem,rA,rM,rS]
   repeat (refine gb ?_;dsimp only [go_sem,rA,rM,rS])
   simp [hmN]
   omega
 rw [if_neg h6,if_neg h6]
 refine ZH rfl ?_
 dsimp only [go_sem,rA,rM,rS]
 have hSl:(XM p X).length=p.partners.length:=by simp [XM]
 have hSg:∀ i (hi:i < p.partners.length),((XM p X).map Zj)[i]? = some [I (Zbn (Zq p X i) (2 ^ mN X - 1)),I (ZbP (Zq p X i) (2 ^ mN X - 1))]:=fun i hi=>by
  rw [List.getElem?_map,List.getElem?_eq_getElem (by rw [hSl];exact hi)]
  simp [XM,Zj,mN]
 have hin:∀ i set,Zbn (Zq p X i) (2 ^ mN X - 1)<=Zq p X i set/\Zq p X i set<=ZbP (Zq p X i) (2 ^ mN X - 1):=fun i set=>Zqx
 have hat:∀ i,(∃ set,set < 2 ^ mN X/\Zq p X i set=Zbn (Zq p X i) (2 ^ mN X - 1))/\∃ set,set < 2 ^ mN X/\Zq p X i set=ZbP (Zq p X i) (2 ^ mN X - 1):=fun i=>Zma
 have hHl:∀ set,(Yl p (ZT set 0 X)).length=p.partners.length:=fun _=>X1
 have hHg:∀ set i (hi:i < (Yl p (ZT set 0 X)).length),(Yl p (ZT set 0 X))[i]=Zq p X i set:=fun set i hi=>by
  rw [Zq,List.getD_eq_getElem?_getD,List.getElem?_eq_getElem hi];rfl
 simp only [List.length_map,hSl,bne_self_eq_false]
 repeat (refine Zx rfl ?_;dsimp only [go_sem,rA,rM,rS])
 simp only [List.length_map,hmN]
 refine ZH (by simp;omega) ?_
 dsimp only [go_sem,rA,rM,rS]
 rw [Zk (n:=(wn:Int)) (by omega) (by omega)]
 generalize XM p X=S at *
 refine Zra [0,1] (Zru p hp hs X (by omega) (by omega) hsub wn (by omega)) rfl rfl rfl ?_ ?_ ?_
 . (repeat first | dsimp only [bxH,go_sem,rA,rM,rS] | simp only [nbr])
   try simp [mtL,mtB,mtS]
 . (repeat first | dsimp only [bxH,Zg,go_sem,rA,rM,rS] | simp only [nbr])
   try simp [Za,Zb,Zc,KFL,KF]
 (repeat first | dsimp only [ZxG,bxH,Zg,go_sem,rA,rM,rS] | simp only [nbr])
 refine ZH rfl ?_
 dsimp only [go_sem,rA,rM,rS]
 have hH0:=hHl wn
 have hH1:=hHg wn
 generalize Yl p (ZT wn 0 X)=H0 at hH0 hH1
 simp only [List.length_map]
 refine YM (fun s:Nat=>[(108,I (s:Nat))]) (fun _=>[]) (fun s=>s<=H0.length) (fun s=>H0.length - s) 0 (Nat.zero_le _) ?_ ?_
 . (refine Zh ?_ ?_ ?_ rfl rfl<;>dsimp only [Zg,Za,Zb,Z5,Zj,u8L,Zm,id,go_sem,rA,rM,rS]<;>simp [Zg,Za,Zb,Z5,Zj,u8L,Zm,Zc,Zf,KFR,KFL,KF,Zd,mtO,nbr])
 intro k hk
 dsimp only [go_sem,rA,rM,rS]
 by_cases hlt:k < H0.length
 . refine ZU (by simpa using hlt) ?_
   dsimp only [go_sem,rA,rM,rS]
   refine ZQ k hlt rfl ?_
   dsimp only [Zm,go_sem,rA,rM,rS]
   refine ixs k _ rfl (hSg k (by omega)) ?_
   dsimp only [go_sem,rA,rM,rS]
   have h1:=hin k wn
   rw [<- hH1 k hlt] at h1
   rw [show decide (H0[k] < Zbn (Zq p X k) (2 ^ mN X - 1))=false from by simpa using h1.1]
   repeat (refine Zx rfl ?_;dsimp only [go_sem,rA,rM,rS])
   refine ixs k _ rfl (hSg k (by omega)) ?_
   dsimp only [go_sem,rA,rM,rS]
   repeat (refine Zx rfl ?_;dsimp only [go_sem,rA,rM,rS])
   refine ZH (by simpa using h1.2) ?_
   dsimp only [go_sem,rA,rM,rS]
   rw [Zk (n:=(k:Int)+1) (by omega) (by omega)]
   refine ⟨k+1,hlt,by omega,?_⟩
   (refine Zh ?_ ?_ ?_ rfl rfl<;>dsimp only [Zg,Za,Zb,Z5,Zj,u8L,Zm,id,go_sem,rA,rM,rS]<;>simp [Zg,Za,Zb,Z5,Zj,u8L,Zm,Zc,Zf,KFR,KFL,KF,Zd,mtO,nbr])
 refine ZH (by simpa using hlt) ?_
 dsimp only [go_sem,rA,rM,rS]
 refine gh Yk ?_
 dsimp only [go_sem,rA,rM,rS]
 by_cases h40:l.length > 40
 . refine ZU (by simp;omega) ?_
   dsimp only [go_sem,rA,rM,rS]
 refine ZH (by simp;omega) ?_
 dsimp only [go_sem,rA,rM,rS]
 refine Xh rfl rfl rfl ?_
 dsimp only [go_sem,rA,rM,rS]
 refine Xh rfl rfl rfl ?_
 dsimp only [go_sem,rA,rM,rS]
 simp only [List.length_map,hmN]
 refine Vg rfl rfl (.inr (.inr rfl)) (Zil (by omega)) ?_
 dsimp only [go_sem,rA,rM,rS]
 generalize hNN:2 ^ mN X=NN at *
 have hNb:NN<=64:=by
  rw [<- hNN]
  exact Nat.le_trans (Nat.pow_le_pow_right (by omega) (show mN X<=6 by omega)) (by decide)
 refine Zy0 [139,138,22,21,16,11,8,7,3] rfl (fun s:Nat × (List (Nat × Int × Bool) × Nat) × (List (Nat × Int × Bool) × Nat)=>[(139,I (s.1:Nat))]) (fun s=>[(4,.map (mpS kI Zl s.2.2.1) s.2.2.2),(3,.map (mpS kI Zl s.2.1.1) s.2.1.2)])
  (fun s=>s.1<=NN/\MI (Zq p X) (fun i=>Zbn (Zq p X i) (NN - 1)) s.1 0 p.partners.length s.2.1.1 s.2.1.2/\MI (Zq p X) (fun i=>ZbP (Zq p X i) (NN - 1)) s.1 0 p.partners.length s.2.2.1 s.2.2.2)
  (fun s=>NN - s.1) (0,([],0),([],0)) ⟨Nat.zero_le _,MI.start,MI.start⟩ ?_ ?_
 . simp only [mpS,List.map_nil]
   (refine Zh ?_ ?_ ?_ rfl rfl<;>dsimp only [Zg,Za,Zb,Z5,Zj,u8L,Zm,Ze,Zl,id,go_sem,rA,rM,rS]<;>simp [Zg,Za,Zb,Z5,Zj,u8L,Zm,Ze,Zl,Zc,Zf,KFR,KFL,KF,Zd,mtO,nbr])
 rintro ⟨k,⟨L1,c1⟩,L2,c2⟩ ⟨hk,M1,M2⟩
 simp only at hk M1 M2
 dsimp only [go_sem,rA,rM,rS]
 by_cases hlt:k < NN
 case neg =>
  refine ZH (by simpa using hlt) ?_
  dsimp only [go_sem,rA,rM,rS]
  have hke:k=NN:=by omega
  subst hke
  refine gh Yk ?_
  dsimp only [go_sem,rA,rM,rS]
  simp only [List.length_map,hSl]
  refine YM (fun s:Nat=>[(193,I (s:Nat))]) (fun _=>[]) (fun s=>s<=p.partners.length) (fun s=>p.partners.length - s) 0 (Nat.zero_le _) ?_ ?_
  . (refine Zh ?_ ?_ ?_ rfl rfl<;>dsimp only [Zg,Za,Zb,Z5,Zj,u8L,Zm,Ze,Zl,id,go_sem,rA,rM,rS]<;>simp [Zg,Za,Zb,Z5,Zj,u8L,Zm,Ze,Zl,Zc,Zf,KFR,KFL,KF,Zd,mtO,nbr])
  intro j hj
  dsimp only [go_sem,rA,rM,rS]
  by_cases hlt:j < p.partners.length
  . refine ZU (by simpa using hlt) ?_
    dsimp only [go_sem,rA,rM,rS]
    have g1:=M1.2 j hlt
    have g2:=M2.2 j hlt
    rw [if_neg (by omega),Zhn (hat j).1] at g1
    rw [if_neg (by omega),Zhn (hat j).2] at g2
    refine YW (key:=kI) (val:=Zl) (sv:=sI) (L:=L1) (k:=(j:Int)) (zs:=Zl false) rfl rfl u71 WS rfl UW Zhc (fun v hg=>?_) (fun hg=>?_)
    case refine_2=>rw [hg] at g1;cases g1
    rw [hg] at g1
    have hv:v=true:=g1
    subst hv
    dsimp only [Zl,go_sem,rA,rM,rS]
    repeat (refine Zx rfl ?_;dsimp only [go_sem,rA,rM,rS])
    refine YW (key:=kI) (val:=Zl) (sv:=sI) (L:=L2) (k:=(j:Int)) (zs:=Zl false) rfl rfl u71 WS rfl UW Zhc (fun v hg=>?_) (fun hg=>?_)
    case refine_2=>rw [hg] at g2;cases g2
    rw [hg] at g2
    have hv:v=true:=g2
    subst hv
    dsimp only [Zl,go_sem,rA,rM,rS]
    repeat (refine Zx rfl ?_;dsimp only [go_sem,rA,rM,rS])
    refine ZH rfl ?_
    dsimp only [go_sem,rA,rM,rS]
    rw [Zk (n:=(j:Int)+1) (by omega) (by omega)]
    refine ⟨j+1,hlt,by omega,?_⟩
    (refine Zh ?_ ?_ ?_ rfl rfl<;>dsimp only [Zg,Za,Zb,Z5,Zj,u8L,Zm,Ze,Zl,id,go_sem,rA,rM,rS]<;>simp [Zg,Za,Zb,Z5,Zj,u8L,Zm,Ze,Zl,Zc,Zf,KFR,KFL,KF,Zd,mtO,nbr])
  refine ZH (by simpa using hlt) ?_
  dsimp only [go_sem,rA,rM,rS]
  refine gh Yk ?_
  dsimp only [go_sem,rA,rM,rS]
 refine ZU (by simpa using hlt) ?_
 dsimp only [go_sem,rA,rM,rS]
 refine Zra [0,1] (Zru p hp hs X (by omega) (by omega) hsub k (by omega)) rfl rfl rfl ?_ ?_ ?_
 . (repeat first | dsimp only [bxH,go_sem,rA,rM,rS] | simp only [nbr])
   try simp [mtL,mtB,mtS]
 . (repeat first | dsimp only [bxH,Zg,go_sem,rA,rM,rS] | simp only [nbr])
   try simp [Za,Zb,Zc,KFL,KF]
 (repeat first | dsimp only [ZxG,bxH,Zg,go_sem,rA,rM,rS] | simp only [nbr])
 refine ZH rfl ?_
 dsimp only [go_sem,rA,rM,rS]
 have hH0:=hHl k
 have hH1:=hHg k
 generalize Yl p (ZT k 0 X)=H at hH0 hH1
 simp only [List.length_map]
 refine Zy0 [152,151,150,139,138,22,21,16,11,8,7,3] rfl (fun s:Nat × (List (Nat × Int × Bool) × Nat) × (List (Nat × Int × Bool) × Nat)=>[(152,I (s.1:Nat))]) (fun s=>[(4,.map (mpS kI Zl s.2.2.1) s.2.2.2),(3,.map (mpS kI Zl s.2.1.1) s.2.1.2)])
  (fun s=>s.1<=H.length/\MI (Zq p X) (fun i=>Zbn (Zq p X i) (NN - 1)) k s.1 p.partners.length s.2.1.1 s.2.1.2/\MI (Zq p X) (fun i=>ZbP (Zq p X i) (NN - 1)) k s.1 p.partners.length s.2.2.1 s.2.2.2)
  (fun s=>H.length - s.1) (0,(L1,c1),(L2,c2)) ⟨Nat.zero_le _,M1,M2⟩ ?_ ?_
 . (refine Zh ?_ ?_ ?_ rfl rfl<;>dsimp only [Zg,Za,Zb,Z5,Zj,u8L,Zm,Ze,Zl,id,go_sem,rA,rM,rS]<;>simp [Zg,Za,Zb,Z5,Zj,u8L,Zm,Ze,Zl,Zc,Zf,KFR,KFL,KF,Zd,mtO,nbr])
 clear M1 M2
 rintro ⟨j,⟨L1,c1⟩,L2,c2⟩ ⟨hj,M1,M2⟩
 simp only at hj M1 M2
 dsimp only [go_sem,rA,rM,rS]
 by_cases hltj:j < H.length
 case neg =>
  refine ZH (by simpa using hltj) ?_
  dsimp only [go_sem,rA,rM,rS]
  have hje:j=p.partners.length:=by omega
  subst hje
  refine gh Yk ?_
  dsimp only [go_sem,rA,rM,rS]
  rw [Zk (n:=(k:Int)+1) (by omega) (by omega)]
  refine ⟨(k+1,(L1,c1),(L2,c2)),⟨by simp only;omega,M1.next,M2.next⟩,by simp only;omega,?_⟩
  (refine Zh ?_ ?_ ?_ rfl rfl<;>dsimp only [Zg,Za,Zb,Z5,Zj,u8L,Zm,Ze,Zl,id,go_sem,rA,rM,rS]<;>simp [Zg,Za,Zb,Z5,Zj,u8L,Zm,Ze,Zl,Zc,Zf,KFR,KFL,KF,Zd,mtO,nbr])
 refine ZU (by simpa using hltj) ?_
 dsimp only [go_sem,rA,rM,rS]
 refine ZQ j hltj rfl ?_
 dsimp only [Zm,go_sem,rA,rM,rS]
 rw [hH1 j hltj]
 refine gh (σ1:=⟨mB p X S H j k NN (Zq p X j k),(4,mM L2 c2) :: (3,mM L1 c1) :: mBH p X,5,208,[]⟩) ?_ ?_
 . (refine Zh ?_ ?_ ?_ rfl rfl<;>dsimp only [mB,mBH,mM,Zg,Za,Zb,Z5,Zj,u8L,Zm,Ze,Zl,id,go_sem,rA,rM,rS]<;>simp [mB,mBH,mM,Zg,Za,Zb,Z5,Zj,u8L,Zm,Ze,Zl,Zc,Zf,KFR,KFL,KF,Zd,mtO,nbr])
 refine ⟨_,Yk,?_⟩
 rw [show npc 4974151615 l12=14 from by kernel_rfl]
 have hlo:=hSg j (by omega)
 generalize hb1:(mget (j:Int) L1).getD false=b1
 generalize hb2:(mget (j:Int) L2).getD false=b2
 refine mreg p X S H j k NN (Zq p X j k) _ _ L1 L2 c1 c2 hlo M1.1 M2.1 b1 b2 hb1 hb2 _ ?_
 intro σF eF
 subst eF
 have q1:MI (Zq p X) (fun i=>Zbn (Zq p X i) (NN - 1)) k (j+1) p.partners.length (mset c1 (j:Int) (sb b1 (Zq p X j k == Zbn (Zq p X j) (NN - 1))) L1) (mclk c1 (j:Int) L1):=M1.step (by omega) (by rw [hb1];cases b1<;>rfl)
 have q2:MI (Zq p X) (fun i=>ZbP (Zq p X i) (NN - 1)) k (j+1) p.partners.length (mset c2 (j:Int) (sb b2 (Zq p X j k == ZbP (Zq p X j) (NN - 1))) L2) (mclk c2 (j:Int) L2):=M2.step (by omega) (by rw [hb2];cases b2<;>rfl)
 clear hb1 hb2
 cases b1<;>cases b2
 all_goals
  dsimp only [mB,mBH,mM,sv,go_sem,rA,rM,rS]
  repeat (first | (refine Zx rfl ?_;dsimp only [go_sem,rA,rM,rS]) | (refine Zu (by decide) ?_;dsimp only [go_sem,rA,rM,rS]))
  rw [Zk (n:=(j:Int)+1) (by omega) (by omega)]
  refine ⟨(j+1,(_,mclk c1 (j:Int) L1),(_,mclk c2 (j:Int) L2)),⟨by simp only;omega,q1,q2⟩,by simp only;omega,?_⟩
  (refine Zh ?_ ?_ ?_ rfl rfl<;>dsimp only [Zg,Za,Zb,Z5,Zj,u8L,Zm,Ze,Zl,id,go_sem,rA,rM,rS]<;>simp [Zg,Za,Zb,Z5,Zj,u8L,Zm,Ze,Zl,Zc,Zf,KFR,KFL,KF,Zd,mtO,nbr])
end Go.Proofs.Ythilckbkffjliaa
