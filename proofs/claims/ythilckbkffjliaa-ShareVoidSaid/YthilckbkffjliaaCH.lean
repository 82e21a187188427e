/- Walks and plain laws that lead to the given statement, part 8 of 9. -/
import Derived.Test.YthilckbkffjliaaCG
import Derived.Laws.BytesString
import Derived.Test.YthilckbkffjliaaProg
set_option linter.all false
open Nat renaming reduceAdd→rA,reduceMul→rM,reduceSub→rS,beq_refl→nbr
set_option maxRecDepth 100000
set_option maxHeartbeats 4000000
namespace Go.Azalai
def mI:Nat→List Letter→List Nat
 | _,[]=>[]
 | k,x :: l=>if x.mouth=true then k :: mI (k+1) l else mI (k+1) l
def mN (l:List Letter):Nat:=(l.filter (·.mouth)).length
theorem mI_len:∀ {l:List Letter} {k:Nat},(mI k l).length=mN l
 | [],_=>rfl
 | x :: l,k=>by
  simp only [mI,mN,List.filter_cons]
  split
  · simp [mI_len (l:=l),mN]
  · exact mI_len
theorem mI_app:∀ {a b:List Letter} {k:Nat},mI k (a ++ b)=mI k a ++ mI (k+a.length) b
 | [],b,k=>by simp [mI]
 | x :: a,b,k=>by
  simp only [List.cons_append,mI,List.length_cons]
  rw [mI_app (a:=a),show k+1+a.length=k+(a.length+1) from by omega]
  split
  · rfl
  · rfl
theorem mI_bd:∀ {l:List Letter} {k y:Nat},y ∈ mI k l→k≤y∧y < k+l.length
 | x :: l,k,y,h=>by
  simp only [mI] at h
  simp only [List.length_cons]
  split at h
  · rcases List.mem_cons.1 h with rfl | h
    · omega
    · have:=mI_bd h;omega
  · have:=mI_bd h;omega
theorem idxF_app {α : Type} {g:α→Bool}:∀ {a b:List α} {k:Nat},(∀ x ∈ a,g x=false)→idxF g (a ++ b) k=idxF g b (k+a.length)
 | [],b,k,_=>by simp
 | x :: a,b,k,h=>by
  simp only [List.cons_append,idxF,h x (by simp),List.length_cons,Bool.false_eq_true,if_false]
  rw [idxF_app fun y hy=>h y (by simp [hy]),show k+1+a.length=k+(a.length+1) from by omega]
theorem idxF_none {α : Type} {g:α→Bool}:∀ {a:List α} {k:Nat},(∀ x ∈ a,g x=false)→idxF g a k = -1
 | [],_,_=>rfl
 | x :: a,k,h=>by
  simp only [idxF,h x (by simp),Bool.false_eq_true,if_false]
  exact idxF_none fun y hy=>h y (by simp [hy])
theorem idx_mI {X:List Letter} {i:Nat} (hi:i < X.length):idxF (fun y:Nat=>decide (y=i)) (mI 0 X) 0=if X[i].mouth=true then (mN (X.take i):Int) else -1:=by
 have e:X=X.take i ++ X[i] :: X.drop (i+1):=by rw [← List.drop_eq_getElem_cons hi,List.take_append_drop]
 have hl:(X.take i).length=i:=by simp;omega
 have e2:mI 0 X=mI 0 (X.take i) ++ mI i (X[i] :: X.drop (i+1)):=by
  conv=>lhs;rw [e]
  rw [mI_app,hl,Nat.zero_add]
 have h1:∀ y ∈ mI 0 (X.take i),decide (y=i)=false:=fun y hy=>by
  have:=mI_bd hy
  rw [hl] at this
  simp;omega
 rw [e2,idxF_app h1,mI_len,Nat.zero_add]
 simp only [mI]
 by_cases hm:X[i].mouth=true
 · rw [if_pos hm,if_pos hm,idxF,decide_eq_true rfl,if_pos rfl]
 · rw [if_neg hm,if_neg hm]
   exact idxF_none fun y hy=>by have:=mI_bd hy;simp;omega
theorem someF_snoc {set:Nat} {x:Letter}:∀ {a:List Letter} {k:Nat},someF set k (a ++ [x])=someF set k a ++ (if x.mouth=true then (if set.testBit (k+mN a)=true then [x] else []) else [x])
 | [],k=>by
  simp only [List.nil_append,someF,mN,List.filter_nil,List.length_nil,Nat.add_zero]
  rfl
 | y :: a,k=>by
  simp only [List.cons_append,someF,mN,List.filter_cons]
  by_cases hy:y.mouth=true
  · have:=someF_snoc (set:=set) (x:=x) (a:=a) (k:=k+1)
    simp only [if_pos hy,List.length_cons]
    rw [this,show k+1+mN a=k+((a.filter (·.mouth)).length+1) from by simp only [mN];omega]
    split<;>rfl
  · have:=someF_snoc (set:=set) (x:=x) (a:=a) (k:=k)
    simp only [if_neg hy]
    rw [this];rfl
theorem some_take {set:Nat} {X:List Letter} {i:Nat} (hi:i < X.length):someF set 0 (X.take (i+1))=someF set 0 (X.take i) ++ (if X[i].mouth=true then (if set.testBit (mN (X.take i))=true then [X[i]] else []) else [X[i]]):=by
 rw [List.take_succ_eq_append_getElem hi,someF_snoc,Nat.zero_add]
theorem mI_take {X:List Letter} {i:Nat} (hi:i < X.length):mI 0 (X.take (i+1))=mI 0 (X.take i) ++ (if X[i].mouth=true then [i] else []):=by
 rw [List.take_succ_eq_append_getElem hi,mI_app]
 have hl:(X.take i).length=i:=by simp;omega
 simp only [mI,hl,Nat.zero_add]
def alR (p:Pact) (X:List Letter):Nat→Nat→Int × Int
 | 0,_=>(0,0)
 | s+1,i=>(minF (someHas p X i) s,maxF (someHas p X i) s)
def alL (p:Pact) (X:List Letter) (set k:Nat):List (Int × Int):=(List.range p.partners.length).map fun i=>if i < k then alR p X (set+1) i else alR p X set i
theorem alL_len {p:Pact} {X:List Letter} {set k:Nat}:(alL p X set k).length=p.partners.length:=by simp [alL]
theorem alL_get {p:Pact} {X:List Letter} {set k i:Nat} (hi:i < (alL p X set k).length):(alL p X set k)[i]=if i < k then alR p X (set+1) i else alR p X set i:=by simp [alL]
theorem alL_set {p:Pact} {X:List Letter} {set k:Nat} (hk:k < p.partners.length):(alL p X set k).set k (alR p X (set+1) k)=alL p X set (k+1):=by
 apply List.ext_getElem
 · simp [alL]
 intro i h1 h2
 rw [List.getElem_set,alL_get,alL_get]
 by_cases e:k=i
 · rw [if_pos e,if_pos (by omega),e]
 · rw [if_neg e]
   by_cases q:i < k
   · rw [if_pos q,if_pos (by omega)]
   · rw [if_neg q,if_neg (by omega)]
theorem alL_next {p:Pact} {X:List Letter} {set:Nat}:alL p X set p.partners.length=alL p X (set+1) 0:=by
 apply List.map_congr_left
 intro i hi
 rw [if_pos (List.mem_range.1 hi),if_neg (by omega)]
theorem alL_done {p:Pact} {X:List Letter}:alL p X (2 ^ mN X) 0=surelyF p X:=by
 have:∃ s,2 ^ mN X=s+1:=⟨2 ^ mN X - 1,by have:=Nat.two_pow_pos (mN X);omega⟩
 obtain ⟨s,hs⟩:=this
 have h2:2 ^ (X.filter (·.mouth)).length - 1=s:=by have:2 ^ (X.filter (·.mouth)).length=s+1:=hs;omega
 simp only [alL,surelyF,hs,h2]
 apply List.map_congr_left
 intro i _
 rw [if_neg (by omega)];rfl
theorem alL_0 {p:Pact} {X:List Letter}:alL p X 0 0=List.replicate p.partners.length (0,0):=by
 rw [List.eq_replicate_iff]
 refine ⟨alL_len,fun b hb=>?_⟩
 obtain ⟨i,_,rfl⟩:=List.mem_map.1 hb
 rw [if_neg (by omega)];rfl
def surelyE (p:Pact) (l:List Letter):Int:=if readE p l=0 then (if mN (readL p l) > 6 then 83 else 0) else readE p l
def surelyR (p:Pact) (l:List Letter):List (Int × Int):=if surelyE p l=0 then surelyF p (readL p l) else []
end Go.Azalai
namespace Go.Proofs.Ythilckbkffjliaa
open Go Go.Sx Go.Azalai
def pairL (x:Int × Int):List SV:=[I x.1,I x.2]
theorem shl_run {m:Nat} (h:m≤6) (w:World):(binOp .shl 3 (.int .i64 1) (.int .i64 m)).run Try.prog w = .ok (.int .i64 ((2 ^ m:Nat):Int)) w:=by
 have:m=0∨m=1∨m=2∨m=3∨m=4∨m=5∨m=6:=by omega
 rcases this with rfl | rfl | rfl | rfl | rfl | rfl | rfl<;>rfl
theorem shr_run {s k:Nat} (h:k≤6) (w:World):(binOp .shr 3 (.int .i64 s) (.int .i64 k)).run Try.prog w = .ok (.int .i64 ((s / 2 ^ k:Nat):Int)) w:=by
 simp only [binOp,Op.shift]
 rw [if_neg (by omega)]
 have h1:(s:Int).fdiv (2 ^ k)=((s / 2 ^ k:Nat):Int):=by
  rw [Int.fdiv_eq_ediv_of_nonneg _ (Int.le_of_lt (Int.pow_pos (by decide)))]
  simp
 show Result.ok (Value.int .i64 ((s:Int).fdiv (2 ^ (min ((k:Nat):Int).toNat IntKind.i64.bits)))) w=_
 rw [show min ((k:Nat):Int).toNat IntKind.i64.bits=k from by show min ((k:Nat):Int).toNat 64=k;omega,h1]
theorem and_run {s:Nat} (h:s < 1000000) (w:World):(binOp .and 3 (.int .i64 s) (.int .i64 1)).run Try.prog w = .ok (.int .i64 ((s % 2:Nat):Int)) w:=by
 have e:(BitVec.ofInt 64 (s:Int) &&& BitVec.ofInt 64 1).toNat=s % 2:=by
  rw [BitVec.toNat_and,show (BitVec.ofInt 64 1).toNat=2 ^ 1 - 1 from by decide,Nat.and_two_pow_sub_one_eq_mod,BitVec.ofInt_natCast,BitVec.toNat_ofNat]
  omega
 show Result.ok (Value.int .i64 (IntKind.i64.wrap (((BitVec.ofInt 64 (s:Int) &&& BitVec.ofInt 64 1).toNat:Nat):Int))) w=_
 rw [e]
 exact congrArg (fun z=>Result.ok (Value.int .i64 z) w) (w64_in (by omega) (by omega))
theorem idx58 (v:Nat) (l:List Nat) (hl:l.length < 1000000) {c:Bool}:Ct Try.prog 58 [.sl c 1 (l.map natL),I (v:Int)] (I (idxF (fun y=>decide (y=v)) l 0)):=by
 refine t58 (by simp [natL,KFR_iff,KFL,KF]) (by simp [KFL,KF]) ?_
 dsimp only [c58,r58,go_sem,rA,rM,rS]
 simp only [List.length_map]
 refine loopO (fun k:Nat=>[(8,I (k:Nat))]) (fun _=>[]) (fun k=>k≤l.length∧idxF (fun y=>decide (y=v)) (l.drop k) k=idxF (fun y=>decide (y=v)) l 0) (fun k=>l.length - k) 0 ⟨Nat.zero_le _,rfl⟩ ?_ ?_
 · (refine ent_id ?_ ?_ ?_ rfl rfl<;>dsimp only [natL,id,go_sem,rA,rM,rS]<;>simp [natL,KFR_iff,KFR_app,KFR,KFL,KF,mtL_same,mtO,nbr])
 intro k ⟨hk,hi⟩
 dsimp only [go_sem,rA,rM,rS]
 by_cases hlt:k < l.length
 · refine br_t (by simpa using hlt) ?_
   dsimp only [go_sem,rA,rM,rS]
   refine ixs_map k hlt rfl ?_
   dsimp only [natL,go_sem,rA,rM,rS]
   rw [← hi,List.drop_eq_getElem_cons hlt]
   by_cases hv:l[k]=v
   · refine br_t (by simp [hv]) ?_
     dsimp only [go_sem,rA,rM,rS]
     simp [idxF,hv]
   · refine br_f (by simp;omega) ?_
     dsimp only [go_sem,rA,rM,rS]
     rw [w64_in (n:=(k:Int)+1) (by omega) (by omega)]
     have e1:idxF (fun y=>decide (y=v)) (l[k] :: l.drop (k+1)) k=idxF (fun y=>decide (y=v)) (l.drop (k+1)) (k+1):=by simp [idxF,hv]
     refine ⟨k+1,⟨hlt,by rw [← e1]⟩,by omega,?_⟩
     (refine ent_id ?_ ?_ ?_ rfl rfl<;>dsimp only [natL,id,go_sem,rA,rM,rS]<;>simp [natL,KFR_iff,KFR_app,KFR,KFL,KF,mtL_same,mtO,nbr])
 refine br_f (by simpa using hlt) ?_
 dsimp only [go_sem,rA,rM,rS]
 rw [← hi,List.drop_eq_nil_of_le (by omega)]
 simp [idxF]
theorem u31 {args:List SV} {res:SV} (ka:KFL args) (kr:KF res) (h:sx Try.prog Y0 0 c31 (st0 args 117) (retW r31 res)) (hA:Nat.ble args.length 117=true:=by rfl):Ct Try.prog 31 args res:=ct_introW Try.func31 rfl b31 c31_ok r31_ok n31 (Nat.le_of_ble_eq_true hA) ka kr h
theorem surely_ok (p:Pact) (l:List Letter) (hs:smallP p) (hl:l.length≤1000) (c:Bool):Ct Try.prog 31 [.agg (pactL p),.sl c 8 (l.map letterL)] (.tup [.sl false 2 ((surelyR p l).map pairL),I (surelyE p l)]):=by
 refine u31 (by simp [pactL,partnerL,letterL,KFR_iff,KFL,KF]) (by simp [KFR_iff,pairL,KFL,KF]) ?_
 have herr:∀ e,surelyE p l=e→e≠0→Weak (.tup [.v (.slice none 0 0),I e]) (.tup [.sl false 2 ((surelyR p l).map pairL),I (surelyE p l)]):=fun e h1 h2=>by
  rw [surelyR,h1,if_neg h2]
  exact weak_tup (weak_cons weak_nil fun _ _ _ _ _ h=>h)
 dsimp only [c31,r31,pactL,go_sem,rA,rM,rS]
 refine call (read_ok p l hs hl c) ?_
 dsimp only [go_sem,rA,rM,rS]
 by_cases h0:readE p l=0
 case neg =>
  refine br_t (by simpa using h0) ?_
  dsimp only [go_sem,rA,rM,rS]
  refine ⟨_,rfl,herr _ (by rw [surelyE,if_neg h0]) h0⟩
 refine br_f (by simpa using h0) ?_
 dsimp only [go_sem,rA,rM,rS]
 obtain ⟨hp,h100,-,-⟩:=readE_0 h0
 have h8:=(okPact_all hp).2.2.2.2.2.2
 have hlen:=readL_len (p:=p) (l:=l)
 have hr:readR p l=readL p l:=by rw [readR,if_pos h0]
 have hsE:surelyE p l=if mN (readL p l) > 6 then 83 else 0:=by rw [surelyE,if_pos h0]
 have hsR:mN (readL p l)≤6→surelyR p l=surelyF p (readL p l):=fun h=>by
  have hz:surelyE p l=0:=by rw [hsE];exact if_neg (by omega)
  rw [surelyR,if_pos hz]
 rw [hr]
 have hX:=readL_ok h0
 generalize readL p l=X at *
 simp only [List.length_map]
 refine loopG (ent_nilslot 8 1 3 rfl rfl) (fun s:Nat=>[(30,I (s:Nat)),(8,.mr 1 (mN (X.take s)))]) (fun s=>[(1,.row (mN (X.take s)) 1 ((mI 0 (X.take s)).map natL) 3)]) (fun s=>s≤X.length) (fun s=>X.length - s) 0 (Nat.zero_le _) ?_ ?_
 · (refine ent_id ?_ ?_ ?_ rfl rfl<;>dsimp only [pactL,partnerL,letterL,mI,mN,id,go_sem,rA,rM,rS]<;>simp [pactL,partnerL,letterL,mI,mN,KFR_iff,KFR_app,KFR,KFL,KF,mtL_same,mtO,nbr])
 intro k hk
 dsimp only [go_sem,rA,rM,rS]
 by_cases hlt:k < X.length
 · refine br_t (by simpa using hlt) ?_
   dsimp only [go_sem,rA,rM,rS]
   refine ixs_map k hlt rfl ?_
   dsimp only [letterL,go_sem,rA,rM,rS]
   have hmI:=mI_take hlt
   have hml:=mI_len (l:=X.take (k+1)) (k:=0)
   have hml0:=mI_len (l:=X.take k) (k:=0)
   by_cases hm:X[k].mouth=true
   · refine br_t hm ?_
     (repeat first | dsimp only [go_sem,rA,rM,rS] | simp only [nbr])
     have hbd:(mI 0 (X.take k)).length≤X.length:=by
      rw [hml0];exact Nat.le_trans (List.length_filter_le _ _) (by simp;omega)
     refine ⟨by simp [allOne,oneS,oneV],by simp;omega,?_⟩
     (repeat first | dsimp only [go_sem,rA,rM,rS] | simp only [nbr])
     rw [if_pos hm] at hmI
     have e1:(mI 0 (X.take k)).map natL ++ [[I (k:Int)]]=(mI 0 (X.take (k+1))).map natL:=by rw [hmI,List.map_append];rfl
     have e2:mN (X.take k)+1=mN (X.take (k+1)):=by rw [← hml,← hml0,hmI];simp
     rw [e1,e2,w64_in (n:=(k:Int)+1) (by omega) (by omega)]
     refine ⟨k+1,hlt,by omega,?_⟩
     (refine ent_id ?_ ?_ ?_ rfl rfl<;>dsimp only [pactL,partnerL,letterL,natL,id,go_sem,rA,rM,rS]<;>simp [pactL,partnerL,letterL,natL,KFR_iff,KFR_app,KFR,KFL,KF,mtL_same,mtO,nbr])
   · refine br_f (by simpa using hm) ?_
     (repeat first | dsimp only [go_sem,rA,rM,rS] | simp only [nbr])
     rw [if_neg hm,List.append_nil] at hmI
     have e2:mN (X.take k)=mN (X.take (k+1)):=by rw [← hml,← hml0,hmI]
     rw [← hmI,e2,w64_in (n:=(k:Int)+1) (by omega) (by omega)]
     refine ⟨k+1,hlt,by omega,?_⟩
     (refine ent_id ?_ ?_ ?_ rfl rfl<;>dsimp only [pactL,partnerL,letterL,natL,id,go_sem,rA,rM,rS]<;>simp [pactL,partnerL,letterL,natL,KFR_iff,KFR_app,KFR,KFL,KF,mtL_same,mtO,nbr])
 refine br_f (by simpa using hlt) ?_
 dsimp only [go_sem,rA,rM,rS]
 have hkl:k=X.length:=by omega
 subst hkl
 rw [List.take_length]
 have hmN:=mI_len (l:=X) (k:=0)
 refine gh (ent_frz 8 1 (mN X) rfl rfl rfl rfl) ?_
 dsimp only [go_sem,rA,rM,rS]
 simp only [List.length_map,hmN]
 by_cases h6:mN X > 6
 · refine br_t (by simp;omega) ?_
   dsimp only [go_sem,rA,rM,rS]
   refine ⟨_,rfl,herr 83 (by rw [hsE,if_pos h6]) (by omega)⟩
 refine br_f (by simp;omega) ?_
 dsimp only [go_sem,rA,rM,rS]
 simp only [List.length_map]
 have hR:=hsR (by omega)
 have hE0:surelyE p l=0:=by rw [hsE];exact if_neg h6
 rw [hR,hE0]
 have hal:∀ set k:Nat,KFR ((alL p X set k).map pairL):=fun set k=>KFR_iff.2 fun x _=>by simp [pairL,KFL,KF]
 refine ⟨p.partners.length,rfl,by omega,?_⟩
 dsimp only [go_sem,rA,rM,rS]
 have e0:List.replicate p.partners.length [SV.v (Value.int IntKind.i64 0),SV.v (Value.int IntKind.i64 0)]=(alL p X 0 0).map pairL:=by rw [alL_0,List.map_replicate];rfl
 rw [e0]
 simp only [List.length_map,hmN]
 refine raw_bin2 rfl rfl (.inr (.inr rfl)) (shl_run (by omega)) ?_
 dsimp only [go_sem,rA,rM,rS]
 have hpow:2 ^ mN X≤64:=by
  have:2 ^ mN X≤2 ^ 6:=Nat.pow_le_pow_right (by omega) (by omega)
  omega
 have hdone:=alL_done (p:=p) (X:=X)
 have h2k:∀ k,k≤mN X→2 ^ k≤2 ^ mN X:=fun k hk=>Nat.pow_le_pow_right (by omega) hk
 generalize hNN:2 ^ mN X=N at *
 refine loopO (fun s:Nat=>[(52,I (s:Nat))]) (fun s=>[(2,.row 0 2 ((alL p X s 0).map pairL) 70)]) (fun s=>s≤N) (fun s=>N - s) 0 (Nat.zero_le _) ?_ ?_
 · (refine ent_id ?_ ?_ ?_ rfl rfl<;>dsimp only [pactL,partnerL,letterL,natL,hal,id,go_sem,rA,rM,rS]<;>simp [pactL,partnerL,letterL,natL,hal,KFR_iff,KFR_app,KFR,KFL,KF,mtL_same,mtO,nbr])
 intro set hset
 dsimp only [go_sem,rA,rM,rS]
 by_cases hlt2:set < N
 case neg =>
  refine br_f (by simpa using hlt2) ?_
  dsimp only [go_sem,rA,rM,rS]
  have hse:set=N:=by omega
  rw [hse,hdone]
  refine gh (ent_frz 11 2 0 rfl rfl rfl rfl) ?_
  dsimp only [go_sem,rA,rM,rS]
  refine ⟨_,rfl,Weak.rfl⟩
 refine br_t (by simpa using hlt2) ?_
 dsimp only [go_sem,rA,rM,rS]
 simp only [List.length_map]
 refine loopG (ent_nilslot 13 8 50 rfl rfl) (fun s:Nat=>[(57,I (s:Nat)),(13,.mr 3 (someF set 0 (X.take s)).length)]) (fun s=>[(3,.row (someF set 0 (X.take s)).length 8 ((someF set 0 (X.take s)).map letterL) 50)]) (fun s=>s≤X.length) (fun s=>X.length - s) 0 (Nat.zero_le _) ?_ ?_
 · (refine ent_id ?_ ?_ ?_ rfl rfl<;>dsimp only [pactL,partnerL,letterL,natL,hal,someF,id,go_sem,rA,rM,rS]<;>simp [pactL,partnerL,letterL,natL,hal,someF,KFR_iff,KFR_app,KFR,KFL,KF,mtL_same,mtO,nbr])
 intro i hi
 dsimp only [go_sem,rA,rM,rS]
 by_cases hlt3:i < X.length
 · refine br_t (by simpa using hlt3) ?_
   dsimp only [go_sem,rA,rM,rS]
   refine ixs_map i hlt3 rfl ?_
   dsimp only [letterL,go_sem,rA,rM,rS]
   have hix:=idx_mI (X:=X) hlt3
   have hst:=some_take (set:=set) (X:=X) hlt3
   have hsl:(someF set 0 (X.take i)).length≤X.length:=Nat.le_trans someF_sub.length_le (by simp;omega)
   have hml:mN (X.take i)≤mN X:=by
    unfold mN;exact ((List.take_sublist i X).filter _).length_le
   refine call (idx58 i (mI 0 X) (by omega)) ?_
   (repeat first | dsimp only [go_sem,rA,rM,rS] | simp only [nbr])
   by_cases hm:X[i].mouth=true
   · rw [if_pos hm] at hix hst
     rw [hix]
     have g:decide (((mN (X.take i):Nat):Int) < 0)=false:=by simp
     simp only [g]
     refine gb_run rfl ?_
     (repeat first | dsimp only [go_sem,rA,rM,rS] | simp only [nbr])
     refine gb_run rfl ?_
     (repeat first | dsimp only [go_sem,rA,rM,rS] | simp only [nbr])
     refine gb_run rfl ?_
     (repeat first | dsimp only [go_sem,rA,rM,rS] | simp only [nbr])
     refine raw_bin2 rfl rfl (.inr (.inl rfl)) (shr_run (by omega)) ?_
     (repeat first | dsimp only [go_sem,rA,rM,rS] | simp only [nbr])
     refine gb_run rfl ?_
     (repeat first | dsimp only [go_sem,rA,rM,rS] | simp only [nbr])
     refine raw_bin2 rfl rfl (.inl rfl) (and_run (Nat.lt_of_le_of_lt (Nat.div_le_self _ _) (by omega))) ?_
     (repeat first | dsimp only [go_sem,rA,rM,rS] | simp only [nbr])
     refine gb_run rfl ?_
     (repeat first | dsimp only [go_sem,rA,rM,rS] | simp only [nbr])
     have htb:set.testBit (mN (X.take i))=decide (set / 2 ^ mN (X.take i) % 2=1):=Nat.testBit_eq_decide_div_mod_eq
     generalize hbit:set / 2 ^ mN (X.take i) % 2=bit at *
     by_cases hb1:bit=1
     · refine br_t (by simp [hb1]) ?_
       (repeat first | dsimp only [go_sem,rA,rM,rS] | simp only [nbr])
       rw [htb,hb1,decide_eq_true rfl,if_pos rfl] at hst
       refine ⟨by simp [allOne,oneS,oneV],by simp;omega,?_⟩
       (repeat first | dsimp only [go_sem,rA,rM,rS] | simp only [nbr])
       have e1:(someF set 0 (X.take i)).map letterL ++ [letterL X[i]]=(someF set 0 (X.take (i+1))).map letterL:=by rw [hst,List.map_append];rfl
       have e2:(someF set 0 (X.take i)).length+1=(someF set 0 (X.take (i+1))).length:=by rw [hst];simp
       simp only [letterL] at e1
       rw [e1,e2,w64_in (n:=(i:Int)+1) (by omega) (by omega)]
       refine ⟨i+1,hlt3,by omega,?_⟩
       (refine ent_id ?_ ?_ ?_ rfl rfl<;>dsimp only [pactL,partnerL,letterL,natL,hal,id,go_sem,rA,rM,rS]<;>simp [pactL,partnerL,letterL,natL,hal,KFR_iff,KFR_app,KFR,KFL,KF,mtL_same,mtO,nbr])
     · refine br_f (by simp;omega) ?_
       (repeat first | dsimp only [go_sem,rA,rM,rS] | simp only [nbr])
       rw [htb,if_neg (by simp [hb1]),List.append_nil] at hst
       rw [← hst,w64_in (n:=(i:Int)+1) (by omega) (by omega)]
       refine ⟨i+1,hlt3,by omega,?_⟩
       (refine ent_id ?_ ?_ ?_ rfl rfl<;>dsimp only [pactL,partnerL,letterL,natL,hal,id,go_sem,rA,rM,rS]<;>simp [pactL,partnerL,letterL,natL,hal,KFR_iff,KFR_app,KFR,KFL,KF,mtL_same,mtO,nbr])
   · rw [if_neg hm] at hix hst
     rw [hix]
     have g:decide ((-1:Int) < 0)=true:=by decide
     simp only [g]
     refine gb_skip (by decide) ?_
     (repeat first | dsimp only [go_sem,rA,rM,rS] | simp only [nbr])
     refine gb_skip (by decide) ?_
     (repeat first | dsimp only [go_sem,rA,rM,rS] | simp only [nbr])
     refine gb_skip (by decide) ?_
     (repeat first | dsimp only [go_sem,rA,rM,rS] | simp only [nbr])
     refine gb_skip (by decide) ?_
     (repeat first | dsimp only [go_sem,rA,rM,rS] | simp only [nbr])
     refine gb_skip (by decide) ?_
     (repeat first | dsimp only [go_sem,rA,rM,rS] | simp only [nbr])
     refine br_t rfl ?_
     (repeat first | dsimp only [go_sem,rA,rM,rS] | simp only [nbr])
     refine ⟨by simp [allOne,oneS,oneV],by simp;omega,?_⟩
     (repeat first | dsimp only [go_sem,rA,rM,rS] | simp only [nbr])
     have e1:(someF set 0 (X.take i)).map letterL ++ [letterL X[i]]=(someF set 0 (X.take (i+1))).map letterL:=by rw [hst,List.map_append];rfl
     have e2:(someF set 0 (X.take i)).length+1=(someF set 0 (X.take (i+1))).length:=by rw [hst];simp
     simp only [letterL] at e1
     rw [e1,e2,w64_in (n:=(i:Int)+1) (by omega) (by omega)]
     refine ⟨i+1,hlt3,by omega,?_⟩
     (refine ent_id ?_ ?_ ?_ rfl rfl<;>dsimp only [pactL,partnerL,letterL,natL,hal,id,go_sem,rA,rM,rS]<;>simp [pactL,partnerL,letterL,natL,hal,KFR_iff,KFR_app,KFR,KFL,KF,mtL_same,mtO,nbr])
 refine br_f (by simpa using hlt3) ?_
 dsimp only [go_sem,rA,rM,rS]
 have hie:i=X.length:=by omega
 subst hie
 rw [List.take_length]
 refine gh (ent_frz 13 3 (someF set 0 X).length rfl rfl rfl rfl) ?_
 dsimp only [go_sem,rA,rM,rS]
 have hsX:∀ x ∈ someF set 0 X,okLetter p x=true:=fun x hx=>hX x (someF_sub.subset hx)
 have hsl:(someF set 0 X).length≤X.length:=someF_sub.length_le
 refine call (settled_ok p hp (someF set 0 X) hsX (by omega) false) ?_
 dsimp only [go_sem,rA,rM,rS]
 simp only [List.length_map]
 have hsh:(settleF p (someF set 0 X)).length=p.partners.length:=hasF_len
 rw [hsh]
 refine loopO (fun s:Nat=>[(83,I (s:Nat))]) (fun s=>[(2,.row 0 2 ((alL p X set s).map pairL) 70)]) (fun s=>s≤p.partners.length) (fun s=>p.partners.length - s) 0 (Nat.zero_le _) ?_ ?_
 · (refine ent_id ?_ ?_ ?_ rfl rfl<;>dsimp only [pactL,partnerL,letterL,natL,hal,intL,id,go_sem,rA,rM,rS]<;>simp [pactL,partnerL,letterL,natL,hal,intL,KFR_iff,KFR_app,KFR,KFL,KF,mtL_same,mtO,nbr])
 intro k hk
 dsimp only [go_sem,rA,rM,rS]
 by_cases hlt4:k < p.partners.length
 · refine br_t (by simpa using hlt4) ?_
   dsimp only [go_sem,rA,rM,rS]
   refine ixs_map k (by rw [hsh];exact hlt4) rfl ?_
   dsimp only [intL,go_sem,rA,rM,rS]
   have hn:(settleF p (someF set 0 X))[k]'(by rw [hsh];exact hlt4)=someHas p X k set:=by
    rw [someHas,List.getD_eq_getElem?_getD,List.getElem?_eq_getElem (by rw [hsh];exact hlt4)];rfl
   rw [hn]
   cases set with
   | zero =>
    refine br_t (by simp) ?_
    (repeat first | dsimp only [go_sem,rA,rM,rS] | simp only [nbr])
    refine ixrm k rfl (by simp [alL_len];omega) ?_
    (repeat first | dsimp only [go_sem,rA,rM,rS] | simp only [nbr])
    refine strm (someHas p X k 0,someHas p X k 0) (by rw [alL_len];exact hlt4) (by simp [pairL]) (by simp [pairL,splice]) ?_
    (repeat first | dsimp only [go_sem,rA,rM,rS] | simp only [nbr])
    have hgl:k < ((alL p X 0 k).set k (someHas p X k 0,someHas p X k 0)).length:=by simp [alL_len];omega
    have hgg:((alL p X 0 k).set k (someHas p X k 0,someHas p X k 0))[k]'hgl=(someHas p X k 0,someHas p X k 0):=by simp
    refine ixrm k rfl (by simp [alL_len];omega) ?_
    (repeat first | dsimp only [go_sem,rA,rM,rS] | simp only [nbr])
    refine ldrm hgl ?_
    rw [hgg]
    (repeat first | dsimp only [pairL,go_sem,rA,rM,rS] | simp only [nbr])
    refine ixrm k rfl (by simp [alL_len];omega) ?_
    (repeat first | dsimp only [go_sem,rA,rM,rS] | simp only [nbr])
    refine ldrm hgl ?_
    rw [hgg]
    (repeat first | dsimp only [pairL,go_sem,rA,rM,rS] | simp only [nbr])
    refine ixrm k rfl (by simp [alL_len];omega) ?_
    (repeat first | dsimp only [go_sem,rA,rM,rS] | simp only [nbr])
    rw [Int.min_self,Int.max_self]
    refine strm (someHas p X k 0,someHas p X k 0) hgl (by simp [pairL]) (by simp [pairL,splice]) ?_
    (repeat first | dsimp only [go_sem,rA,rM,rS] | simp only [nbr])
    have e3:((alL p X 0 k).set k (someHas p X k 0,someHas p X k 0)).set k (someHas p X k 0,someHas p X k 0)=alL p X 0 (k+1):=by
     rw [List.set_set,← alL_set hlt4];rfl
    rw [e3,w64_in (n:=(k:Int)+1) (by omega) (by omega)]
    refine ⟨k+1,hlt4,by omega,?_⟩
    (refine ent_id ?_ ?_ ?_ rfl rfl<;>dsimp only [pactL,partnerL,letterL,natL,hal,intL,id,go_sem,rA,rM,rS]<;>simp [pactL,partnerL,letterL,natL,hal,intL,KFR_iff,KFR_app,KFR,KFL,KF,mtL_same,mtO,nbr])
   | succ t =>
    refine br_f (by simp;omega) ?_
    (repeat first | dsimp only [go_sem,rA,rM,rS] | simp only [nbr])
    have hgl:k < (alL p X (t+1) k).length:=by rw [alL_len];exact hlt4
    have hgg:(alL p X (t+1) k)[k]=(minF (someHas p X k) t,maxF (someHas p X k) t):=by rw [alL_get,if_neg (by omega)];rfl
    refine ixrm k rfl (by simpa using hgl) ?_
    (repeat first | dsimp only [go_sem,rA,rM,rS] | simp only [nbr])
    refine ldrm hgl ?_
    rw [hgg]
    (repeat first | dsimp only [pairL,go_sem,rA,rM,rS] | simp only [nbr])
    refine ixrm k rfl (by simpa using hgl) ?_
    (repeat first | dsimp only [go_sem,rA,rM,rS] | simp only [nbr])
    refine ldrm hgl ?_
    rw [hgg]
    (repeat first | dsimp only [pairL,go_sem,rA,rM,rS] | simp only [nbr])
    refine ixrm k rfl (by simpa using hgl) ?_
    (repeat first | dsimp only [go_sem,rA,rM,rS] | simp only [nbr])
    refine strm (alR p X (t+2) k) hgl (by simp [pairL]) (by simp [pairL,splice,alR,minF,maxF]) ?_
    (repeat first | dsimp only [go_sem,rA,rM,rS] | simp only [nbr])
    rw [alL_set hlt4,w64_in (n:=(k:Int)+1) (by omega) (by omega)]
    refine ⟨k+1,hlt4,by omega,?_⟩
    (refine ent_id ?_ ?_ ?_ rfl rfl<;>dsimp only [pactL,partnerL,letterL,natL,hal,intL,id,go_sem,rA,rM,rS]<;>simp [pactL,partnerL,letterL,natL,hal,intL,KFR_iff,KFR_app,KFR,KFL,KF,mtL_same,mtO,nbr])
 refine br_f (by simpa using hlt4) ?_
 dsimp only [go_sem,rA,rM,rS]
 have hke:k=p.partners.length:=by omega
 subst hke
 rw [alL_next]
 refine gh ent_refl ?_
 (repeat first | dsimp only [go_sem,rA,rM,rS] | simp only [nbr])
 rw [w64_in (n:=(set:Int)+1) (by omega) (by omega)]
 refine ⟨set+1,hlt2,by omega,?_⟩
 (refine ent_id ?_ ?_ ?_ rfl rfl<;>dsimp only [pactL,partnerL,letterL,natL,hal,intL,id,go_sem,rA,rM,rS]<;>simp [pactL,partnerL,letterL,natL,hal,intL,KFR_iff,KFR_app,KFR,KFL,KF,mtL_same,mtO,nbr])
end Go.Proofs.Ythilckbkffjliaa
namespace Go.Sx
open Go
def byS (ns:List Int):ByteArray:=ns.foldl (fun r n=>r.push (UInt8.ofNat n.toNat)) ByteArray.empty
theorem RL_vals {w:World} {E:Env} {n ok:Nat→Prop}:∀ {l ys:List Value},RL w E n ok (l.map SV.v) ys→ys=l
 | [],ys,h=>by simpa [RL] using h
 | x :: l,ys,h=>by
  simp only [List.map_cons,RL] at h
  obtain ⟨y,r,rfl,h1,h2⟩:=h
  simp only [R] at h1
  rw [h1,RL_vals h2]
theorem flat1 {α β : Type} (f:α→β):∀ l:List α,(l.map fun n=>[f n]).flatten=l.map f
 | []=>rfl
 | x :: l=>by simp only [List.map_cons,List.flatten_cons,flat1 f l];rfl
theorem raw_str {P:Program} {d:Option Nat} {u src dst ty e:Nat} {ns:List Int} {s:SV} {σ : St} {r:KT} {K:RK} (hl:lk u σ.fr=s) (hng:∀ j b u,s≠.gd j b u) (hs:sprV 1 s=some (ns.map fun n=>[SV.v (.int .u8 n)]))
 (hsrc:P.underlying src=some (.slice e)) (hdst:P.underlying dst=some .string) (he:P.underlying e=some (.int .u8)) (hk:putK d (.v (.string (byS ns))) none σ r K):RAW P d (.convert src dst (.tmp u)) ty σ r K:=by
 intro o C E a w next Q h1 h2 h3 hS hn hq
 have hR:=FR_R (hS.fr u) (fun j b u' e=>hng j b u' (hl ▸ e))
 rw [hl] at hR
 obtain ⟨cs,⟨ad,cap,y0,y1,y2,y3⟩,hcs,_⟩:=sprV_shows hR hs
 have hflat:(ns.map fun n=>[SV.v (.int .u8 n)]).flatten=(ns.map (Value.int .u8)).map SV.v:=by rw [flat1 (fun n=>SV.v (.int .u8 n)),List.map_map];rfl
 rw [hflat] at hcs
 have hcs:=RL_vals hcs
 subst hcs
 have hrun:(convert src dst (a.tmps.getD u undef)).run P w = .ok (.string (byS ns)) w:=by
  rw [y0,run_convert_bytes_string w src dst e ad _ cap hsrc he hdst]
  cases ad with
  | none =>
   have:ns=[]:=by
    rcases y3 with h | ⟨b,off,h,_⟩
    · simpa using h
    · cases h
   subst this
   simp [Conv.bytesToString,Sem.run_pure,byS]
  | some ad =>
   refine run_bytesToString w ad _ cap ns ?_
   rcases y3 with h | ⟨b,off,h,hc⟩
   · have:ns=[]:=by simpa using h
     subst this
     simp [loadCells,loadCellsFrom,Sem.run_pure]
   · cases h
     have hlen:(ns.map fun n=>[SV.v (.int .u8 n)]).length=(ns.map (Value.int .u8)).length:=by simp
     rw [hlen]
     exact run_loadCells_list w _ _ (fun j v hv=>by rw [addr_add];exact hc j v hv)
 have hx:(execOp a.eval o).run P w = .ok (.value (.string (byS ns))) w:=by
  obtain ⟨dst',op',ty',pos,after,guard⟩:=o
  simp only at h2;subst h2
  simp only [Array.getD_eq_getD_getElem?] at hrun
  simp only [execOp,Act.eval]
  simp [Sem.run_bind,hrun]
 refine wpq_res hx (by simp) ?_
 show next (a.put o.dst _) w
 rcases putK_ex hk with ⟨g1,g2⟩ | ⟨t,g1,g2,g3,g4,g5⟩
 · rw [h1,g1];exact hn _ E _ _ g2 hS
 · rw [h1,g1]
   exact hn _ E _ _ g5 (Sim_put hS (fun b hb _=>⟨hb,rfl⟩) (fun _ _=>Ele.rfl) (Nat.le_refl _) hS.hs g2 g3 (fun j b u e=>by rw [e] at g4;cases g4) (by simp only [R]))
theorem raw_seq {P:Program} {d:Option Nat} {u v t t' ty:Nat} {x y:ByteArray} {σ : St} {r:KT} {K:RK} (hu:lk u σ.fr = .v (.string x)) (hv:lk v σ.fr = .v (.string y))
 (hk:putK d (.v (.bool (x.toList == y.toList))) none σ r K):RAW P d (.binOp .eql t (.tmp u) (.tmp v) t') ty σ r K:=by
 intro o C E a w next Q h1 h2 h3 hS hn hq
 have hx:a.eval (.tmp u) = .string x:=by
  have:=hS.fr u
  rw [hu] at this
  simp only [FR,R] at this
  exact this
 have hy:a.eval (.tmp v) = .string y:=by
  have:=hS.fr v
  rw [hv] at this
  simp only [FR,R] at this
  exact this
 have hrun:(execOp a.eval o).run P w =   .ok (.value (.bool (x.toList == y.toList))) w:=by
  obtain ⟨dst',op',ty',pos,after,guard⟩:=o
  simp only at h2;subst h2
  simp only [execOp,hx,hy]
  simp [Sem.run_bind,eqGuard,binOp,Op.stringOp,Sem.run_pure]
 refine wpq_res hrun (by simp) ?_
 show next (a.put o.dst _) w
 rcases putK_ex hk with ⟨g1,g2⟩ | ⟨t,g1,g2,g3,g4,g5⟩
 · rw [h1,g1];exact hn _ E _ _ g2 hS
 · rw [h1,g1]
   exact hn _ E _ _ g5 (Sim_put hS (fun b hb _=>⟨hb,rfl⟩) (fun _ _=>Ele.rfl) (Nat.le_refl _) hS.hs g2 g3 (fun j b u e=>by rw [e] at g4;cases g4) (by simp only [R]))
theorem raw_seqc {P:Program} {d:Option Nat} {u t t' ty:Nat} {op:BinOp} {q:Bool} {x y:ByteArray} {σ : St} {r:KT} {K:RK} (hu:lk u σ.fr = .v (.string x)) (hq0:(op = .eql∧q=(x.toList == y.toList))∨(op = .neq∧q = !(x.toList == y.toList)))
 (hk:putK d (.v (.bool q)) none σ r K):RAW P d (.binOp op t (.tmp u) (.const (.string y)) t') ty σ r K:=by
 intro o C E a w next Q h1 h2 h3 hS hn hq
 have hx:a.eval (.tmp u) = .string x:=by
  have:=hS.fr u
  rw [hu] at this
  simp only [FR,R] at this
  exact this
 have hrun:(execOp a.eval o).run P w =   .ok (.value (.bool q)) w:=by
  obtain ⟨dst',op',ty',pos,after,guard⟩:=o
  simp only at h2;subst h2
  have hc:a.eval (.const (.string y)) = .string y:=rfl
  simp only [execOp,hx,hc]
  rcases hq0 with ⟨rfl,rfl⟩ | ⟨rfl,rfl⟩<;>simp [Sem.run_bind,eqGuard,binOp,Op.stringOp,Sem.run_pure]
 refine wpq_res hrun (by simp) ?_
 show next (a.put o.dst _) w
 rcases putK_ex hk with ⟨g1,g2⟩ | ⟨t,g1,g2,g3,g4,g5⟩
 · rw [h1,g1];exact hn _ E _ _ g2 hS
 · rw [h1,g1]
   exact hn _ E _ _ g5 (Sim_put hS (fun b hb _=>⟨hb,rfl⟩) (fun _ _=>Ele.rfl) (Nat.le_refl _) hS.hs g2 g3 (fun j b u e=>by rw [e] at g4;cases g4) (by simp only [R]))
theorem raw_seqO {P:Program} {d:Option Nat} {ax bx:Operand} {t t' ty:Nat} {x y:ByteArray} {σ : St} {r:KT} {K:RK} (hu:oprS σ ax = .v (.string x)) (hv:oprS σ bx = .v (.string y))
 (hk:putK d (.v (.bool (x.toList == y.toList))) none σ r K):RAW P d (.binOp .eql t ax bx t') ty σ r K:=by
 intro o C E a w next Q e1 h2 h3 hS hn hq
 have hx:=opr_R hS hu (fun _ _ _=>by simp)
 have hy:=opr_R hS hv (fun _ _ _=>by simp)
 simp only [R] at hx hy
 have hrun:(execOp a.eval o).run P w = .ok (.value (.bool (x.toList == y.toList))) w:=by
  obtain ⟨dst',op',ty',pos,after,guard⟩:=o
  simp only at h2;subst h2
  simp only [execOp,hx,hy]
  simp [Sem.run_bind,eqGuard,binOp,Op.stringOp,Sem.run_pure]
 refine wpq_res hrun (by simp) ?_
 show next (a.put o.dst _) w
 rw [e1]
 exact put_go0 hk hS (by simp only [R]) hn
end Go.Sx
set_option maxRecDepth 100000
set_option maxHeartbeats 4000000
namespace Go.Proofs.Ythilckbkffjliaa
open Go Go.Sx Go.Azalai
theorem same22_ok (a b:List Int) (ha:a.length≤1000000) (hb:b.length≤1000000) (c c':Bool):Ct Try.prog 22 [.sl c 1 (a.map intL),.sl c' 1 (b.map intL)] (B (decide (a=b))):=by
 refine t22 (by simp [KFR_iff,intL,KFL,KF]) (by simp [KFL,KF]) ?_
 dsimp only [c22,r22,go_sem,rA,rM,rS]
 simp only [List.length_map]
 by_cases hl:a.length=b.length
 case neg =>
  refine br_t (by simp;omega) ?_
  dsimp only [go_sem,rA,rM,rS]
  have:a≠b:=fun e=>hl (by rw [e])
  simp [this]
 refine br_f (by simp;omega) ?_
 dsimp only [go_sem,rA,rM,rS]
 refine loopO (fun j:Nat=>[(5,I j)]) (fun _=>[]) (fun j=>j≤a.length∧a.take j=b.take j) (fun j=>a.length - j) 0 ⟨Nat.zero_le _,rfl⟩ ?_ ?_
 · (refine ent_id ?_ ?_ ?_ rfl rfl<;>dsimp only [intL,id,go_sem,rA,rM,rS]<;>simp [intL,KFR_iff,KFR_app,KFR,KFL,KF,mtL_same,mtO,nbr])
 rintro j ⟨hj,ht⟩
 dsimp only [go_sem,rA,rM,rS]
 simp only [List.length_map]
 by_cases hlt:j < a.length
 · refine br_t (by simpa using hlt) ?_
   dsimp only [go_sem,rA,rM,rS]
   have hltb:j < b.length:=by omega
   refine ixs_map j hlt rfl ?_
   dsimp only [go_sem,rA,rM,rS]
   refine ixs_map j hltb rfl ?_
   dsimp only [intL,go_sem,rA,rM,rS]
   by_cases he:a[j]=b[j]
   · refine br_f (by rw [he];simp [ngB]) ?_
     dsimp only [go_sem,rA,rM,rS]
     rw [w64_in (n:=(j:Int)+1) (by omega) (by omega)]
     refine ⟨j+1,⟨hlt,?_⟩,by omega,?_⟩
     · rw [List.take_succ_eq_append_getElem hlt,List.take_succ_eq_append_getElem hltb,ht,he]
     (refine ent_id ?_ ?_ ?_ rfl rfl<;>dsimp only [intL,id,go_sem,rA,rM,rS]<;>simp [intL,KFR_iff,KFR_app,KFR,KFL,KF,mtL_same,mtO,nbr])
   · refine br_t ?_ ?_
     · simpa using he
     dsimp only [go_sem,rA,rM,rS]
     have:a≠b:=fun e=>he (by subst e;rfl)
     simp [this]
 refine br_f (by simp;omega) ?_
 dsimp only [go_sem,rA,rM,rS]
 have:a=b:=by
  rw [List.take_of_length_le (by omega),List.take_of_length_le (by omega)] at ht
  exact ht
 simp [this]
theorem same33_ok (a b:List (Int × Int)) (ha:a.length≤1000000) (hb:b.length≤1000000) (c c':Bool):Ct Try.prog 33 [.sl c 2 (a.map pairL),.sl c' 2 (b.map pairL)] (B (decide (a=b))):=by
 refine t33 (by simp [KFR_iff,pairL,KFL,KF]) (by simp [KFL,KF]) ?_
 dsimp only [c33,r33,go_sem,rA,rM,rS]
 simp only [List.length_map]
 by_cases hl:a.length=b.length
 case neg =>
  refine br_t (by simp;omega) ?_
  dsimp only [go_sem,rA,rM,rS]
  have:a≠b:=fun e=>hl (by rw [e])
  simp [this]
 refine br_f (by simp;omega) ?_
 dsimp only [go_sem,rA,rM,rS]
 refine loopO (fun j:Nat=>[(5,I j)]) (fun _=>[]) (fun j=>j≤a.length∧a.take j=b.take j) (fun j=>a.length - j) 0 ⟨Nat.zero_le _,rfl⟩ ?_ ?_
 · (refine ent_id ?_ ?_ ?_ rfl rfl<;>dsimp only [pairL,id,go_sem,rA,rM,rS]<;>simp [pairL,KFR_iff,KFR_app,KFR,KFL,KF,mtL_same,mtO,nbr])
 rintro j ⟨hj,ht⟩
 dsimp only [go_sem,rA,rM,rS]
 simp only [List.length_map]
 by_cases hlt:j < a.length
 · refine br_t (by simpa using hlt) ?_
   dsimp only [go_sem,rA,rM,rS]
   have hltb:j < b.length:=by omega
   refine ixs_map j hlt rfl ?_
   dsimp only [go_sem,rA,rM,rS]
   refine ixs_map j hltb rfl ?_
   dsimp only [pairL,go_sem,rA,rM,rS]
   by_cases he:a[j]=b[j]
   · refine br_f (by rw [he];simp [ngB]) ?_
     dsimp only [go_sem,rA,rM,rS]
     rw [w64_in (n:=(j:Int)+1) (by omega) (by omega)]
     refine ⟨j+1,⟨hlt,?_⟩,by omega,?_⟩
     · rw [List.take_succ_eq_append_getElem hlt,List.take_succ_eq_append_getElem hltb,ht,he]
     (refine ent_id ?_ ?_ ?_ rfl rfl<;>dsimp only [pairL,id,go_sem,rA,rM,rS]<;>simp [pairL,KFR_iff,KFR_app,KFR,KFL,KF,mtL_same,mtO,nbr])
   · refine br_t ?_ ?_
     · apply Decidable.byContradiction;intro hq;simp at hq;exact he (Prod.ext hq.1 hq.2)
     dsimp only [go_sem,rA,rM,rS]
     have:a≠b:=fun e=>he (by subst e;rfl)
     simp [this]
 refine br_f (by simp;omega) ?_
 dsimp only [go_sem,rA,rM,rS]
 have:a=b:=by
  rw [List.take_of_length_le (by omega),List.take_of_length_le (by omega)] at ht
  exact ht
 simp [this]
theorem same28_ok (a b:List Letter) (ha:a.length≤1000000) (hb:b.length≤1000000) (c c':Bool):Ct Try.prog 28 [.sl c 8 (a.map letterL),.sl c' 8 (b.map letterL)] (B (decide (a=b))):=by
 refine t28 (by simp [KFR_iff,letterL,KFL,KF]) (by simp [KFL,KF]) ?_
 dsimp only [c28,r28,go_sem,rA,rM,rS]
 simp only [List.length_map]
 by_cases hl:a.length=b.length
 case neg =>
  refine br_t (by simp;omega) ?_
  dsimp only [go_sem,rA,rM,rS]
  have:a≠b:=fun e=>hl (by rw [e])
  simp [this]
 refine br_f (by simp;omega) ?_
 dsimp only [go_sem,rA,rM,rS]
 refine loopO (fun j:Nat=>[(5,I j)]) (fun _=>[]) (fun j=>j≤a.length∧a.take j=b.take j) (fun j=>a.length - j) 0 ⟨Nat.zero_le _,rfl⟩ ?_ ?_
 · (refine ent_id ?_ ?_ ?_ rfl rfl<;>dsimp only [letterL,id,go_sem,rA,rM,rS]<;>simp [letterL,KFR_iff,KFR_app,KFR,KFL,KF,mtL_same,mtO,nbr])
 rintro j ⟨hj,ht⟩
 dsimp only [go_sem,rA,rM,rS]
 simp only [List.length_map]
 by_cases hlt:j < a.length
 · refine br_t (by simpa using hlt) ?_
   dsimp only [go_sem,rA,rM,rS]
   have hltb:j < b.length:=by omega
   refine ixs_map j hlt rfl ?_
   dsimp only [go_sem,rA,rM,rS]
   refine ixs_map j hltb rfl ?_
   dsimp only [letterL,go_sem,rA,rM,rS]
   by_cases he:a[j]=b[j]
   · refine br_f (by rw [he];simp [ngB]) ?_
     dsimp only [go_sem,rA,rM,rS]
     rw [w64_in (n:=(j:Int)+1) (by omega) (by omega)]
     refine ⟨j+1,⟨hlt,?_⟩,by omega,?_⟩
     · rw [List.take_succ_eq_append_getElem hlt,List.take_succ_eq_append_getElem hltb,ht,he]
     (refine ent_id ?_ ?_ ?_ rfl rfl<;>dsimp only [letterL,id,go_sem,rA,rM,rS]<;>simp [letterL,KFR_iff,KFR_app,KFR,KFL,KF,mtL_same,mtO,nbr])
   · refine br_t ?_ ?_
     · rw [eqLt];simp [ngB,he]
     dsimp only [go_sem,rA,rM,rS]
     have:a≠b:=fun e=>he (by subst e;rfl)
     simp [this]
 refine br_f (by simp;omega) ?_
 dsimp only [go_sem,rA,rM,rS]
 have:a=b:=by
  rw [List.take_of_length_le (by omega),List.take_of_length_le (by omega)] at ht
  exact ht
 simp [this]
def greatF (p:Pact) (l:List Letter):Bool:=decide (p.partners.length > 12) || decide (l.length > 150)
theorem great_ok (p:Pact) (l:List Letter) (c:Bool):Ct Try.prog 16 [.agg (pactL p),.sl c 8 (l.map letterL)] (B (greatF p l)):=by
 refine t16 (by simp [pactL,partnerL,letterL,KFR_iff,KFL,KF]) (by simp [KFL,KF]) ?_
 dsimp only [c16,r16,pactL,go_sem,rA,rM,rS]
 repeat (refine gb ?_;dsimp only [go_sem,rA,rM,rS])
 simp only [List.length_map]
 simp only [greatF,Option.some.injEq,SV.v.injEq,Value.bool.injEq]
 rw [Bool.eq_iff_iff]
 simp
 omega
theorem span60 (a b:Int):Ct Try.prog 60 [I a,I b] (.agg (pairL (a,b))):=by
 refine t60 (by simp [KFL,KF]) (by simp [pairL,KFL,KF]) ?_
 dsimp only [c60,r60,pairL,go_sem,rA,rM,rS]
theorem Divide_ok (p:Pact) (r:Int) (hs:smallP p):Ct Try.prog 18 [.agg (pactL p),I r] (.tup [if okPact p=true∧inR (-10000000000) 10000000000 r=true then .sl false 1 ((divideF p r).map intL) else .v (.slice none 0 0),I (if okPact p=true then (if inR (-10000000000) 10000000000 r=true then 0 else 2) else 80)]):=by
 refine t18 (by simp [pactL,partnerL,letterL,KFR_iff,KFL,KF]) ⟨by split<;>simp [KF,KFR_iff,intL,KFL],by simp [KF],trivial⟩ ?_
 dsimp only [c18,r18,pactL,go_sem,rA,rM,rS]
 refine call (check_ok p hs) ?_
 dsimp only [go_sem,rA,rM,rS]
 by_cases hp:okPact p=true
 case neg =>
  refine br_t (by simp [errP,hp]) ?_
  dsimp only [go_sem,rA,rM,rS]
  simp [errP,hp]
 refine br_f (by simp [errP,hp]) ?_
 dsimp only [go_sem,rA,rM,rS]
 refine call (in1 (-10000000000) 10000000000 _ _) ?_
 dsimp only [go_sem,rA,rM,rS]
 by_cases hr:inR (-10000000000) 10000000000 r=true
 case neg =>
  refine br_t (by simpa using hr) ?_
  dsimp only [go_sem,rA,rM,rS]
  simp [hp,hr]
 refine br_f (by simpa using hr) ?_
 dsimp only [go_sem,rA,rM,rS]
 have hb:=hr
 simp only [inR,decide_eq_true_eq] at hb
 refine call (divide_ok p hp (by omega) (by omega)) ?_
 dsimp only [go_sem,rA,rM,rS]
 simp [hp,hr]
theorem letter_ext {a b:Letter} (h1:a.id=b.id) (h2:a.day=b.day) (h3:a.kind=b.kind) (h4:a.who=b.who) (h5:a.other=b.other) (h6:a.animal=b.animal) (h7:a.rials=b.rials) (h8:a.mouth=b.mouth):a=b:=by
 cases a;cases b;simp_all
theorem rletter_ok (p:Pact) (x:Letter) (hs:smallP p):Ct Try.prog 36 [.agg (pactL p),.agg (letterL x)] (B (okLetter p x)):=by
 refine t36 (by simp [pactL,partnerL,letterL,KFR_iff,KFL,KF]) (by simp [KFL,KF]) ?_
 dsimp only [c36,r36,pactL,letterL,go_sem,rA,rM,rS]
 refine call (within_ok _ _ _) ?_
 dsimp only [go_sem,rA,rM,rS]
 repeat (first | (refine gb ?_;dsimp only [go_sem,rA,rM,rS]) | (refine call (within_ok _ _ _) ?_;dsimp only [go_sem,rA,rM,rS]))
 by_cases h1:(inR 0 9999 x.id && inR 0 100000 x.day)=true
 case neg =>
  refine br_t (by grind) ?_
  dsimp only [go_sem,rA,rM,rS]
  rw [Bool.not_eq_true] at h1
  simp only [okLetter,h1,Bool.false_and]
 refine br_f (by grind) ?_
 dsimp only [go_sem,rA,rM,rS]
 refine call (rat_ok p x.who hs) ?_
 dsimp only [go_sem,rA,rM,rS]
 refine call (within_ok _ _ _) ?_
 dsimp only [go_sem,rA,rM,rS]
 refine call (within_ok _ _ _) ?_
 dsimp only [go_sem,rA,rM,rS]
 rw [atF_ge p x.who]
 by_cases k1:x.kind=1
 · simp only [k1]
   repeat (first | (refine br_t rfl ?_;dsimp only [go_sem,rA,rM,rS]) | (refine br_f rfl ?_;dsimp only [go_sem,rA,rM,rS]))
   repeat (first | (refine gb ?_;dsimp only [go_sem,rA,rM,rS]) | (refine call (within_ok _ _ _) ?_;dsimp only [go_sem,rA,rM,rS]) | (refine call (rat_ok p x.other hs) ?_;dsimp only [go_sem,rA,rM,rS]))
   have g2:=atF_ge p x.other
   simp only [Option.some.injEq,SV.v.injEq,Value.bool.injEq]
   rw [Bool.eq_iff_iff]
   obtain ⟨id',day,kind,who,other,animal,rials,mouth⟩:=x
   simp only at k1
   subst k1
   simp only [okLetter] at h1 ⊢
   simp only [h1]
   try rw [g2]
   simp
   try grind
 by_cases k2:x.kind=2
 · simp only [k2]
   repeat (first | (refine br_t rfl ?_;dsimp only [go_sem,rA,rM,rS]) | (refine br_f rfl ?_;dsimp only [go_sem,rA,rM,rS]))
   repeat (first | (refine gb ?_;dsimp only [go_sem,rA,rM,rS]) | (refine call (within_ok _ _ _) ?_;dsimp only [go_sem,rA,rM,rS]) | (refine call (rat_ok p x.other hs) ?_;dsimp only [go_sem,rA,rM,rS]))
   have g2:=atF_ge p x.other
   simp only [Option.some.injEq,SV.v.injEq,Value.bool.injEq]
   rw [Bool.eq_iff_iff]
   obtain ⟨id',day,kind,who,other,animal,rials,mouth⟩:=x
   simp only at k2
   subst k2
   simp only [okLetter] at h1 ⊢
   simp only [h1]
   try rw [g2]
   simp
   try grind
 by_cases k3:x.kind=3
 · simp only [k3]
   repeat (first | (refine br_t rfl ?_;dsimp only [go_sem,rA,rM,rS]) | (refine br_f rfl ?_;dsimp only [go_sem,rA,rM,rS]))
   repeat (first | (refine gb ?_;dsimp only [go_sem,rA,rM,rS]) | (refine call (within_ok _ _ _) ?_;dsimp only [go_sem,rA,rM,rS]) | (refine call (rat_ok p x.other hs) ?_;dsimp only [go_sem,rA,rM,rS]))
   have g2:=atF_ge p x.other
   simp only [Option.some.injEq,SV.v.injEq,Value.bool.injEq]
   rw [Bool.eq_iff_iff]
   obtain ⟨id',day,kind,who,other,animal,rials,mouth⟩:=x
   simp only at k3
   subst k3
   simp only [okLetter] at h1 ⊢
   simp only [h1]
   try rw [g2]
   simp
   try grind
 by_cases k4:x.kind=4
 · simp only [k4]
   repeat (first | (refine br_t rfl ?_;dsimp only [go_sem,rA,rM,rS]) | (refine br_f rfl ?_;dsimp only [go_sem,rA,rM,rS]))
   repeat (first | (refine gb ?_;dsimp only [go_sem,rA,rM,rS]) | (refine call (within_ok _ _ _) ?_;dsimp only [go_sem,rA,rM,rS]) | (refine call (rat_ok p x.other hs) ?_;dsimp only [go_sem,rA,rM,rS]))
   have g2:=atF_ge p x.other
   simp only [Option.some.injEq,SV.v.injEq,Value.bool.injEq]
   rw [Bool.eq_iff_iff]
   obtain ⟨id',day,kind,who,other,animal,rials,mouth⟩:=x
   simp only at k4
   subst k4
   simp only [okLetter] at h1 ⊢
   simp only [h1]
   try rw [g2]
   simp
   try grind
 by_cases k5:x.kind=5
 · simp only [k5]
   repeat (first | (refine br_t rfl ?_;dsimp only [go_sem,rA,rM,rS]) | (refine br_f rfl ?_;dsimp only [go_sem,rA,rM,rS]))
   repeat (first | (refine gb ?_;dsimp only [go_sem,rA,rM,rS]) | (refine call (within_ok _ _ _) ?_;dsimp only [go_sem,rA,rM,rS]) | (refine call (rat_ok p x.other hs) ?_;dsimp only [go_sem,rA,rM,rS]))
   have g2:=atF_ge p x.other
   simp only [Option.some.injEq,SV.v.injEq,Value.bool.injEq]
   rw [Bool.eq_iff_iff]
   obtain ⟨id',day,kind,who,other,animal,rials,mouth⟩:=x
   simp only at k5
   subst k5
   simp only [okLetter] at h1 ⊢
   simp only [h1]
   try rw [g2]
   simp
   try grind
 by_cases k6:x.kind=6
 · simp only [k6]
   repeat (first | (refine br_t rfl ?_;dsimp only [go_sem,rA,rM,rS]) | (refine br_f rfl ?_;dsimp only [go_sem,rA,rM,rS]))
   repeat (first | (refine gb ?_;dsimp only [go_sem,rA,rM,rS]) | (refine call (within_ok _ _ _) ?_;dsimp only [go_sem,rA,rM,rS]) | (refine call (rat_ok p x.other hs) ?_;dsimp only [go_sem,rA,rM,rS]))
   have g2:=atF_ge p x.other
   simp only [Option.some.injEq,SV.v.injEq,Value.bool.injEq]
   rw [Bool.eq_iff_iff]
   obtain ⟨id',day,kind,who,other,animal,rials,mouth⟩:=x
   simp only at k6
   subst k6
   simp only [okLetter] at h1 ⊢
   simp only [h1]
   try rw [g2]
   simp
   try grind
 by_cases k7:x.kind=7
 · simp only [k7]
   repeat (first | (refine br_t rfl ?_;dsimp only [go_sem,rA,rM,rS]) | (refine br_f rfl ?_;dsimp only [go_sem,rA,rM,rS]))
   repeat (first | (refine gb ?_;dsimp only [go_sem,rA,rM,rS]) | (refine call (within_ok _ _ _) ?_;dsimp only [go_sem,rA,rM,rS]) | (refine call (rat_ok p x.other hs) ?_;dsimp only [go_sem,rA,rM,rS]))
   have g2:=atF_ge p x.other
   simp only [Option.some.injEq,SV.v.injEq,Value.bool.injEq]
   rw [Bool.eq_iff_iff]
   obtain ⟨id',day,kind,who,other,animal,rials,mouth⟩:=x
   simp only at k7
   subst k7
   simp only [okLetter] at h1 ⊢
   simp only [h1]
   try rw [g2]
   simp
   try grind
 by_cases k8:x.kind=8
 · simp only [k8]
   repeat (first | (refine br_t rfl ?_;dsimp only [go_sem,rA,rM,rS]) | (refine br_f rfl ?_;dsimp only [go_sem,rA,rM,rS]))
   repeat (first | (refine gb ?_;dsimp only [go_sem,rA,rM,rS]) | (refine call (within_ok _ _ _) ?_;dsimp only [go_sem,rA,rM,rS]) | (refine call (rat_ok p x.other hs) ?_;dsimp only [go_sem,rA,rM,rS]))
   have g2:=atF_ge p x.other
   simp only [Option.some.injEq,SV.v.injEq,Value.bool.injEq]
   rw [Bool.eq_iff_iff]
   obtain ⟨id',day,kind,who,other,animal,rials,mouth⟩:=x
   simp only at k8
   subst k8
   simp only [okLetter] at h1 ⊢
   simp only [h1]
   try rw [g2]
   simp
   try grind
 repeat (refine br_f (by simp [k1,k2,k3,k4,k5,k6,k7,k8]) ?_;dsimp only [go_sem,rA,rM,rS])
 repeat (refine gb ?_;dsimp only [go_sem,rA,rM,rS])
 simp [okLetter,k1,k2,k3,k4,k5,k6,k7,k8]
end Go.Proofs.Ythilckbkffjliaa
set_option maxRecDepth 100000
namespace Go.Proofs.Ythilckbkffjliaa
open Go Go.Sx
def c34:SC:=(.seq (.reg [
 o1 0 (.mv (.c (.bool false)))])
 (.seq (.reg [
 o1 15 (.call 38 []),
 o1 16 (.call 18 [.t 15,.c (.int .i64 1001)]),
 m1 14 16,
 o1 17 (.ext (.t 14) 0),
 o1 18 (.ext (.t 14) 1),
 m1 1 17,
 m1 2 18])
 (.seq (.reg [
 o1 20 (.call 38 []),
 o1 21 (.call 18 [.t 20,.c (.int .i64 (-100))]),
 m1 19 21,
 o1 22 (.ext (.t 19) 0),
 o1 23 (.ext (.t 19) 1),
 m1 3 22,
 m1 4 23])
 (.seq (.reg [
 o1 25 (.call 38 []),
 o1 26 (.call 39 []),
 o1 27 (.call 29 [.t 25,.t 26]),
 m1 24 27,
 o1 28 (.ext (.t 24) 0),
 o1 29 (.ext (.t 24) 1),
 m1 5 28,
 m1 6 29])
 (.seq (.reg [
 o1 31 (.call 38 []),
 o1 32 (.call 39 []),
 o1 33 (.call 41 []),
 o1 34 (.app 8 64 50 (.t 32) (.t 33)),
 o1 35 (.call 29 [.t 31,.t 34]),
 m1 30 35,
 o1 36 (.ext (.t 30) 0),
 o1 37 (.ext (.t 30) 1),
 m1 7 36,
 m1 8 37])
 (.seq (.reg [
 o1 39 (.call 38 []),
 o1 40 (.call 39 []),
 o1 41 (.call 40 []),
 o1 42 (.bsl 8 50 [.t 41]),
 o1 43 (.app 8 64 50 (.t 40) (.t 42)),
 o1 44 (.call 24 [.t 39,.t 43]),
 m1 38 44,
 o1 45 (.ext (.t 38) 0),
 o1 46 (.ext (.t 38) 1),
 o1 47 (.ext (.t 38) 2),
 m1 9 45,
 m1 10 46,
 m1 11 47])
 (.seq (.reg [
 o1 49 (.call 38 []),
 o1 50 (.call 59 []),
 o1 51 (.call 31 [.t 49,.t 50]),
 m1 48 51,
 o1 52 (.ext (.t 48) 0),
 o1 53 (.ext (.t 48) 1),
 m1 12 52,
 m1 13 53])
 (.seq (.reg [
 m1 54 2,
 o1 55 (.bin .eql (.t 54) (.c (.int .i64 0))),
 m1 56 55,
 ⟨some 57,.mv (.t 1),some (56,true),[]⟩,
 ⟨some 58,.bsl 1 3 [.c (.int .i64 501),.c (.int .i64 200),.c (.int .i64 300)],some (56,true),[]⟩,
 ⟨some 59,.call 22 [.t 57,.t 58],some (56,true),[]⟩,
 o1 60 (.pick (.t 56) (.t 59) (.c (.bool false))),
 m1 61 60,
 ⟨some 62,.mv (.t 4),some (61,true),[]⟩,
 ⟨some 63,.bin .eql (.t 62) (.c (.int .i64 0)),some (61,true),[]⟩,
 o1 64 (.pick (.t 61) (.t 63) (.c (.bool false))),
 m1 65 64,
 ⟨some 66,.mv (.t 3),some (65,true),[]⟩,
 ⟨some 67,.bsl 1 3 [.c (.int .i64 (-67)),.c (.int .i64 (-33)),.c (.int .i64 0)],some (65,true),[]⟩,
 ⟨some 68,.call 22 [.t 66,.t 67],some (65,true),[]⟩,
 o1 69 (.pick (.t 65) (.t 68) (.c (.bool false))),
 m1 70 69,
 ⟨some 71,.mv (.t 6),some (70,true),[]⟩,
 ⟨some 72,.bin .eql (.t 71) (.c (.int .i64 0)),some (70,true),[]⟩,
 o1 73 (.pick (.t 70) (.t 72) (.c (.bool false))),
 m1 74 73,
 ⟨some 75,.mv (.t 5),some (74,true),[]⟩,
 ⟨some 76,.bsl 1 3 [.c (.int .i64 951),.c (.int .i64 440),.c (.int .i64 310)],some (74,true),[]⟩,
 ⟨some 77,.call 22 [.t 75,.t 76],some (74,true),[]⟩,
 o1 78 (.pick (.t 74) (.t 77) (.c (.bool false))),
 m1 79 78,
 ⟨some 80,.mv (.t 8),some (79,true),[]⟩,
 ⟨some 81,.bin .eql (.t 80) (.c (.int .i64 0)),some (79,true),[]⟩,
 o1 82 (.pick (.t 79) (.t 81) (.c (.bool false))),
 m1 83 82,
 ⟨some 84,.mv (.t 7),some (83,true),[]⟩,
 ⟨some 85,.bsl 1 3 [.c (.int .i64 941),.c (.int .i64 450),.c (.int .i64 310)],some (83,true),[]⟩,
 ⟨some 86,.call 22 [.t 84,.t 85],some (83,true),[]⟩,
 o1 87 (.pick (.t 83) (.t 86) (.c (.bool false))),
 m1 88 87,
 ⟨some 89,.mv (.t 11),some (88,true),[]⟩,
 ⟨some 90,.bin .eql (.t 89) (.c (.int .i64 0)),some (88,true),[]⟩,
 o1 91 (.pick (.t 88) (.t 90) (.c (.bool false))),
 m1 92 91,
 ⟨some 93,.mv (.t 10),some (92,true),[]⟩,
 ⟨some 94,.raw (Go.Op.convert 39 9 (Go.Operand.tmp 93)) 9,some (92,true),[]⟩,
 ⟨some 95,.raw (Go.Op.binOp Go.BinOp.eql 9 (Go.Operand.tmp 94) (Go.Operand.const (Go.Value.string { data:=#[0,0,4,0,0,0] })) 9) 4,some (92,true),[]⟩,
 o1 96 (.pick (.t 92) (.t 95) (.c (.bool false))),
 m1 97 96,
 ⟨some 98,.mv (.t 13),some (97,true),[]⟩,
 ⟨some 99,.bin .eql (.t 98) (.c (.int .i64 0)),some (97,true),[]⟩,
 o1 100 (.pick (.t 97) (.t 99) (.c (.bool false))),
 m1 101 100,
 ⟨some 102,.mv (.t 12),some (101,true),[]⟩,
 ⟨some 103,.call 60 [.c (.int .i64 881),.c (.int .i64 951)],some (101,true),[]⟩,
 ⟨some 104,.call 60 [.c (.int .i64 412),.c (.int .i64 440)],some (101,true),[]⟩,
 ⟨some 105,.call 60 [.c (.int .i64 310),.c (.int .i64 408)],some (101,true),[]⟩,
 ⟨some 106,.bsl 2 70 [.t 103,.t 104,.t 105],some (101,true),[]⟩,
 ⟨some 107,.call 33 [.t 102,.t 106],some (101,true),[]⟩,
 o1 108 (.pick (.t 101) (.t 107) (.c (.bool false))),
 m1 0 108])
 .ret))))))))
def r34:List RV:=[.tmp 0]
theorem n34:Try.f34.ntmps=109:=by kernel_rfl
theorem b34:bodyB Try.prog 34=true:=by kernel_rfl
theorem c34_ok:cmpC Try.prog c34 ((Try.f34.body).getD .skip)=true:=by kernel_rfl
theorem r34_ok:cmpR Try.prog r34 Try.f34.results.toList=true:=by kernel_rfl
theorem t34 {args:List SV} {res:SV} (ka:KFL args) (kr:KF res) (h:sx Try.prog Y0 0 c34 (st0 args 109) (retK r34 res)) (hA:Nat.ble args.length 109=true:=by rfl):Ct Try.prog 34 args res:=ct_intro Try.func34 rfl b34 c34_ok r34_ok n34 (Nat.le_of_ble_eq_true hA) ka kr h
def c35:SC:=(.seq (.reg [
 o1 2 (.box (.t 0) 0 24),
 o1 4 (.mv (.c (.bool false)))])
 (.seq (.reg [
 o1 5 (.ld (.t 2) 4 true),
 m1 6 1,
 o1 7 (.call 16 [.t 5,.t 6]),
 o1 8 (.un .not (.t 7)),
 m1 9 8,
 ⟨some 10,.ld (.t 2) 4 true,some (9,true),[]⟩,
 ⟨some 11,.call 21 [.t 10],some (9,true),[]⟩,
 ⟨some 12,.bin .eql (.t 11) (.c (.int .i64 0)),some (9,true),[]⟩,
 o1 13 (.pick (.t 9) (.t 12) (.c (.bool false))),
 m1 14 13,
 ⟨some 15,.ld (.t 2) 4 true,some (14,true),[]⟩,
 ⟨some 16,.mv (.t 1),some (14,true),[]⟩,
 ⟨some 17,.call 51 [.t 15,.t 16],some (14,true),[]⟩,
 ⟨some 18,.bin .eql (.t 17) (.c (.int .i64 0)),some (14,true),[]⟩,
 o1 19 (.pick (.t 14) (.t 18) (.c (.bool false))),
 m1 4 19])
 .ret))
def r35:List RV:=[.tmp 4]
theorem n35:Try.f35.ntmps=20:=by kernel_rfl
theorem b35:bodyB Try.prog 35=true:=by kernel_rfl
theorem c35_ok:cmpC Try.prog c35 ((Try.f35.body).getD .skip)=true:=by kernel_rfl
theorem r35_ok:cmpR Try.prog r35 Try.f35.results.toList=true:=by kernel_rfl
theorem t35 {args:List SV} {res:SV} (ka:KFL args) (kr:KF res) (h:sx Try.prog Y0 0 c35 (st0 args 20) (retK r35 res)) (hA:Nat.ble args.length 20=true:=by rfl):Ct Try.prog 35 args res:=ct_intro Try.func35 rfl b35 c35_ok r35_ok n35 (Nat.le_of_ble_eq_true hA) ka kr h
def c8:SC:=(.seq (.reg [
 o1 2 (.box (.t 0) 0 24),
 o1 4 (.mv (.c (.bool false)))])
 (.seq (.reg [
 o1 18 (.call 34 []),
 m1 5 18])
 (.seq (.seq (.reg [
 o1 19 (.ld (.t 2) 4 true),
 m1 20 1,
 o1 21 (.call 35 [.t 19,.t 20]),
 o1 22 (.un .not (.t 21)),
 m1 23 22,
 ⟨some 24,.mv (.t 5),some (23,false),[]⟩,
 ⟨some 25,.un .not (.t 24),some (23,false),[]⟩,
 o1 26 (.pick (.t 23) (.c (.bool true)) (.t 25))])
 (.cond (.t 26)
 (.seq (.reg [
  m1 27 5,
  m1 4 27])
  .ret)
 .skip))
 (.seq (.reg [
 o1 29 (.ld (.t 2) 4 true),
 m1 30 1,
 o1 31 (.call 24 [.t 29,.t 30]),
 m1 28 31,
 o1 32 (.ext (.t 28) 0),
 o1 33 (.ext (.t 28) 1),
 o1 34 (.ext (.t 28) 2),
 m1 6 32,
 m1 7 33,
 m1 8 34])
 (.seq (.reg [
 o1 36 (.ld (.t 2) 4 true),
 m1 37 1,
 o1 38 (.call 29 [.t 36,.t 37]),
 m1 35 38,
 o1 39 (.ext (.t 35) 0),
 o1 40 (.ext (.t 35) 1),
 m1 9 39,
 m1 10 40])
 (.seq (.seq (.reg [
 m1 41 8,
 o1 42 (.bin .neq (.t 41) (.c (.int .i64 0))),
 m1 43 42,
 ⟨some 44,.mv (.t 10),some (43,false),[]⟩,
 ⟨some 45,.bin .neq (.t 44) (.c (.int .i64 0)),some (43,false),[]⟩,
 o1 46 (.pick (.t 43) (.c (.bool true)) (.t 45)),
 m1 47 46,
 ⟨some 48,.mv (.t 7),some (47,false),[]⟩,
 ⟨some 49,.len (.t 48),some (47,false),[]⟩,
 ⟨some 50,.mv (.t 6),some (47,false),[]⟩,
 ⟨some 51,.len (.t 50),some (47,false),[]⟩,
 ⟨some 52,.bin .neq (.t 49) (.t 51),some (47,false),[]⟩,
 o1 53 (.pick (.t 47) (.c (.bool true)) (.t 52)),
 m1 54 53,
 ⟨some 55,.mv (.t 9),some (54,false),[]⟩,
 ⟨some 56,.len (.t 55),some (54,false),[]⟩,
 ⟨some 57,.addo (.t 2) 0,some (54,false),[]⟩,
 ⟨some 58,.ld (.t 57) 1 false,some (54,false),[]⟩,
 ⟨some 59,.len (.t 58),some (54,false),[]⟩,
 ⟨some 60,.bin .neq (.t 56) (.t 59),some (54,false),[]⟩,
 o1 61 (.pick (.t 54) (.c (.bool true)) (.t 60))])
 (.cond (.t 61)
 (.seq (.reg [
  o1 4 (.mv (.c (.bool false)))])
  .ret)
 .skip))
 (.seq (.reg [
 o1 11 (.mv (.c (.int .i64 0)))])
 (.seq (.seq (.reg [
 o1 62 (.addo (.t 2) 0),
 o1 63 (.ld (.t 62) 1 false),
 o1 64 (.len (.t 63)),
 o1 65 (.mv (.c (.int .i64 0)))])
 (.block 0 (.loop (.seq (.reg [
  o1 66 (.bin .lss (.t 65) (.t 64))])
  (.seq (.cond (.t 66)
  .skip
  (.exit 0))
  (.seq (.block 1 (.seq (.reg [
   o1 67 (.ixs (.t 63) (.t 65) 3),
   o1 68 (.ld (.t 67) 3 true),
   o1 13 (.alloc [.int .i64 0,.int .i64 0,.int .i64 0] 64),
   ⟨none,.st (.t 13) (.t 68) 3,none,[]⟩])
   (.reg [
   m1 69 11,
   o1 70 (.addo (.t 13) 1),
   o1 71 (.ld (.t 70) 1 false),
   o1 72 (.bin .add (.t 69) (.t 71)),
   m1 11 72])))
  (.reg [
  o1 73 (.bin .add (.t 65) (.c (.int .i64 1))),
  m1 65 73])))))))
 (.seq (.seq (.reg [
 m1 74 6,
 o1 75 (.len (.t 74)),
 o1 76 (.mv (.c (.int .i64 0)))])
 (.block 2 (.loop (.seq (.reg [
  o1 77 (.bin .lss (.t 76) (.t 75))])
  (.seq (.cond (.t 77)
  .skip
  (.exit 2))
  (.seq (.block 3 (.seq (.reg [
   m1 78 76,
   o1 79 (.ixs (.t 74) (.t 76) 8),
   o1 80 (.ld (.t 79) 8 true),
   o1 15 (.alloc [.int .i64 0,.int .i64 0,.int .u8 0,.int .i64 0,.int .i64 0,.int .i64 0,.int .i64 0,.bool false] 50),
   m1 14 78,
   ⟨none,.st (.t 15) (.t 80) 8,none,[]⟩])
   (.seq (.seq (.reg [
   m1 81 7,
   m1 82 14,
   o1 83 (.ixs (.t 81) (.t 82) 1),
   o1 84 (.ld (.t 83) 1 false),
   o1 85 (.bin .neq (.t 84) (.c (.int .u8 0)))])
   (.cond (.t 85)
   (.exit 3)
   .skip))
   (.seq (.reg [
   o1 86 (.addo (.t 15) 2),
   o1 87 (.ld (.t 86) 1 false)])
   (.block 4 (.seq (.seq (.reg [
    o1 89 (.bin .eql (.t 87) (.c (.int .u8 1))),
    m1 88 89])
    (.cond (.t 88)
    .skip
    (.reg [
     o1 90 (.bin .eql (.t 87) (.c (.int .u8 6))),
     m1 88 90])))
    (.cond (.t 88)
    (.reg [
     m1 91 11,
     o1 92 (.addo (.t 15) 6),
     o1 93 (.ld (.t 92) 1 false),
     o1 94 (.bin .add (.t 91) (.t 93)),
     m1 11 94])
    (.seq (.reg [
     o1 96 (.bin .eql (.t 87) (.c (.int .u8 2))),
     m1 95 96])
     (.cond (.t 95)
     (.reg [
      m1 97 11,
      o1 98 (.addo (.t 15) 6),
      o1 99 (.ld (.t 98) 1 false),
      o1 100 (.bin .sub (.t 97) (.t 99)),
      m1 11 100])
     .skip)))))))))
  (.reg [
  o1 101 (.bin .add (.t 76) (.c (.int .i64 1))),
  m1 76 101])))))))
 (.seq (.seq (.reg [
 m1 102 9,
 o1 103 (.len (.t 102)),
 o1 104 (.mv (.c (.int .i64 0)))])
 (.block 5 (.loop (.seq (.reg [
  o1 105 (.bin .lss (.t 104) (.t 103))])
  (.seq (.cond (.t 105)
  .skip
  (.exit 5))
  (.seq (.block 6 (.seq (.reg [
   o1 106 (.ixs (.t 102) (.t 104) 1),
   o1 107 (.ld (.t 106) 1 false),
   m1 17 107])
   (.reg [
   m1 108 11,
   m1 109 17,
   o1 110 (.bin .sub (.t 108) (.t 109)),
   m1 11 110])))
  (.reg [
  o1 111 (.bin .add (.t 104) (.c (.int .i64 1))),
  m1 104 111])))))))
 (.seq (.reg [
 m1 112 5,
 m1 113 112,
 ⟨some 114,.mv (.t 11),some (113,true),[]⟩,
 ⟨some 115,.bin .eql (.t 114) (.c (.int .i64 0)),some (113,true),[]⟩,
 o1 116 (.pick (.t 113) (.t 115) (.c (.bool false))),
 m1 4 116])
 .ret)))))))))))
end Go.Proofs.Ythilckbkffjliaa
namespace Go.Sx
open Go Go.RowKit
theorem Ct.res {P:Program} {f:FuncId} {args:List SV} {res res0:SV} (h:Ct P f args res) (kr:KF res0) (hw:Weak res res0):Ct P f args res0 :=
 ⟨h.1,h.2,kr,fun w ok vs hR=>Calls.mono (h.4 w ok vs hR) fun e w' q=>by
  obtain ⟨y,h1,h2,h3⟩:=q
  exact ⟨y,h1,hw _ _ _ _ _ h2,h3⟩⟩
theorem rl_rfl {l:List SV}:∀ (w:World) (E:Env) (n ok:Nat→Prop) (ys:List Value),RL w E n ok l ys→RL w E n ok l ys:=fun _ _ _ _ _ h=>h
def keepF (fr:List (Nat × SV)):List Nat→List (Nat × SV)
 | []=>[]
 | t :: ts=>(t,lk t fr) :: keepF fr ts
theorem keepF_nil (fr:List (Nat × SV)):keepF fr []=[]:=rfl
theorem keepF_cons (fr:List (Nat × SV)) (t:Nat) (ts:List Nat):keepF fr (t :: ts)=(t,lk t fr) :: keepF fr ts:=rfl
attribute [go_sem] keepF_nil keepF_cons
theorem keepF_ent (fr:List (Nat × SV)):∀ ts,entF (keepF fr ts) fr
 | []=>trivial
 | _ :: ts=>⟨rfl,keepF_ent fr ts⟩
theorem ent_keep {m:Nat} {σ : St} (ts:List Nat) (hg:nogd (keepF σ.fr ts)=true):Ent m σ ⟨keepF σ.fr ts,σ.hp,σ.n,σ.N,[]⟩:=by
 intro C E a w _ h
 refine ⟨E,fun t=>?_,h.sz,h.df,fun t j b s ht=>absurd ht (nogd_lk hg t j b s),h.hs⟩
 have hfr:=h.fr t
 rcases entF_lk (keepF_ent σ.fr ts) t with h1 | h1
 · rw [h1];exact trivial
 · rw [h1]
   have:=nogd_lk hg t
   rw [h1] at this
   cases hq:lk t σ.fr<;>rw [hq] at hfr this<;>first | exact hfr | exact absurd rfl (this _ _ _)
theorem loopK {m:Nat} {f:CT} {σ : St} {K:Ex→St→Prop} {S:Type} (ts:List Nat) (hg:nogd (keepF σ.fr ts)=true) (ov:S→List (Nat × SV)) (hv:S→List (Nat × HB)) (rel:S→Prop) (μ : S→Nat) (s0:S) (h0:rel s0)
 (he:Ent m ⟨keepF σ.fr ts,σ.hp,σ.n,σ.N,[]⟩ (stO ⟨keepF σ.fr ts,σ.hp,σ.n,σ.N,[]⟩ ov hv s0))
 (hb:∀ s,rel s→f (stO ⟨keepF σ.fr ts,σ.hp,σ.n,σ.N,[]⟩ ov hv s) (lopK m (stO ⟨keepF σ.fr ts,σ.hp,σ.n,σ.N,[]⟩ ov hv) rel μ s K)):LOOP m f σ K :=
 loopG (ent_keep ts hg) ov hv rel μ s0 h0 he hb
end Go.Sx
set_option maxRecDepth 100000
set_option maxHeartbeats 4000000
namespace Go.Azalai
def lettersE (p:Pact) (l:List Letter):Int:=if l.length > 100 then 4 else if l.all (okLetter p)=false then 81 else if twoB l=true then 82 else 0
theorem readE_of {p:Pact} {l:List Letter} (h:okPact p=true):readE p l=lettersE p l:=by simp [readE,lettersE,h]
end Go.Azalai
namespace Go.Proofs.Ythilckbkffjliaa
open Go Go.Sx Go.Azalai
theorem letters_ok (p:Pact) (l:List Letter) (hs:smallP p) (hl:l.length≤1000) (c:Bool):Ct Try.prog 51 [.agg (pactL p),.sl c 8 (l.map letterL)] (I (lettersE p l)):=by
 refine t51 (by simp [pactL,partnerL,letterL,KFR_iff,KFL,KF]) (by simp [KFL,KF]) ?_
 dsimp only [c51,r51,pactL,go_sem,rA,rM,rS]
 simp only [List.length_map]
 by_cases h100:l.length > 100
 · refine br_t (by simp;omega) ?_
   dsimp only [go_sem,rA,rM,rS]
   simp [lettersE,h100]
 refine br_f (by simp;omega) ?_
 dsimp only [go_sem,rA,rM,rS]
 refine loopO (fun s:Nat=>[(5,I (s:Nat))]) (fun _=>[]) (fun s=>s≤l.length∧∀ i (hi:i < l.length),i < s→okLetter p l[i]=true) (fun s=>l.length - s) 0 ⟨Nat.zero_le _,fun i _ h=>by omega⟩ ?_ ?_
 · (refine ent_id ?_ ?_ ?_ rfl rfl<;>dsimp only [pactL,partnerL,letterL,id,go_sem,rA,rM,rS]<;>simp [pactL,partnerL,letterL,KFR_iff,KFR_app,KFR,KFL,KF,mtL_same,mtO,nbr])
 intro k ⟨hk,hok⟩
 dsimp only [go_sem,rA,rM,rS]
 simp only [List.length_map]
 by_cases hlt:k < l.length
 · refine br_t (by simpa using hlt) ?_
   dsimp only [go_sem,rA,rM,rS]
   refine ixs_map k hlt rfl ?_
   dsimp only [letterL,go_sem,rA,rM,rS]
   refine call (rletter_ok p l[k] hs) ?_
   dsimp only [go_sem,rA,rM,rS]
   by_cases hb:okLetter p l[k]=true
   case neg =>
    refine br_t (by simpa using hb) ?_
    dsimp only [go_sem,rA,rM,rS]
    have:l.all (okLetter p)=false:=by
     rw [← Bool.not_eq_true,List.all_eq_true]
     exact fun h=>hb (h _ (List.getElem_mem _))
    simp [lettersE,h100,this]
   refine br_f (by simpa using hb) ?_
   dsimp only [go_sem,rA,rM,rS]
   rw [w64_in (n:=(k:Int)+1) (by omega) (by omega)]
   refine ⟨k+1,⟨hlt,fun i hi h=>?_⟩,by omega,?_⟩
   · by_cases e:i=k
     · subst e;exact hb
     · exact hok i hi (by omega)
   (refine ent_id ?_ ?_ ?_ rfl rfl<;>dsimp only [pactL,partnerL,letterL,id,go_sem,rA,rM,rS]<;>simp [pactL,partnerL,letterL,KFR_iff,KFR_app,KFR,KFL,KF,mtL_same,mtO,nbr])
 refine br_f (by simpa using hlt) ?_
 dsimp only [go_sem,rA,rM,rS]
 have hall:l.all (okLetter p)=true:=by
  rw [List.all_eq_true]
  intro x hx
  obtain ⟨i,hi,rfl⟩:=List.getElem_of_mem hx
  exact hok i hi (by omega)
 refine loopO (fun s:Nat=>[(6,I (s:Nat))]) (fun _=>[]) (fun s=>s≤l.length∧∀ i j (hi:i < l.length) (hj:j < l.length),i < s→j < i→l[i].id=l[j].id→l[i]=l[j]) (fun s=>l.length - s) 0 ⟨Nat.zero_le _,fun i j _ _ h=>by omega⟩ ?_ ?_
 · (refine ent_id ?_ ?_ ?_ rfl rfl<;>dsimp only [pactL,partnerL,letterL,id,go_sem,rA,rM,rS]<;>simp [pactL,partnerL,letterL,KFR_iff,KFR_app,KFR,KFL,KF,mtL_same,mtO,nbr])
 intro a ⟨ha,hI⟩
 dsimp only [go_sem,rA,rM,rS]
 simp only [List.length_map]
 by_cases hlta:a < l.length
 · refine br_t (by simpa using hlta) ?_
   dsimp only [go_sem,rA,rM,rS]
   refine loopO (fun s:Nat=>[(7,I (s:Nat))]) (fun _=>[]) (fun s=>s≤a∧∀ j (hj:j < l.length),j < s→l[a].id=l[j].id→l[a]=l[j]) (fun s=>a - s) 0 ⟨Nat.zero_le _,fun j _ h=>by omega⟩ ?_ ?_
   · (refine ent_id ?_ ?_ ?_ rfl rfl<;>dsimp only [pactL,partnerL,letterL,id,go_sem,rA,rM,rS]<;>simp [pactL,partnerL,letterL,KFR_iff,KFR_app,KFR,KFL,KF,mtL_same,mtO,nbr])
   intro b ⟨hb,hJ⟩
   dsimp only [go_sem,rA,rM,rS]
   by_cases hltb:b < a
   · refine br_t (by simpa using hltb) ?_
     dsimp only [go_sem,rA,rM,rS]
     have hbl:b < l.length:=by omega
     refine ixs_map a hlta rfl ?_
     dsimp only [letterL,go_sem,rA,rM,rS]
     refine ixs_map b hbl rfl ?_
     dsimp only [letterL,go_sem,rA,rM,rS]
     by_cases hid:l[a].id=l[b].id
     · have g:(l[a].id == l[b].id)=true:=by simp [hid]
       simp only [g]
       repeat (first | (refine gb_run rfl ?_;dsimp only [go_sem,rA,rM,rS]) | (refine ixs_map a hlta rfl ?_;dsimp only [letterL,go_sem,rA,rM,rS]) | (refine ixs_map b hbl rfl ?_;dsimp only [letterL,go_sem,rA,rM,rS]))
       by_cases he:l[a]=l[b]
       · refine br_f ?_ ?_
         · rw [eqLt];simp [ngB,he]
         dsimp only [go_sem,rA,rM,rS]
         rw [w64_in (n:=(b:Int)+1) (by omega) (by omega)]
         refine ⟨b+1,⟨hltb,fun j hj h q=>?_⟩,by omega,?_⟩
         · by_cases e:j=b
           · subst e;exact he
           · exact hJ j hj (by omega) q
         (refine ent_id ?_ ?_ ?_ rfl rfl<;>dsimp only [pactL,partnerL,letterL,id,go_sem,rA,rM,rS]<;>simp [pactL,partnerL,letterL,KFR_iff,KFR_app,KFR,KFL,KF,mtL_same,mtO,nbr])
       · refine br_t ?_ ?_
         · rw [eqLt];simp [ngB,he]
         dsimp only [go_sem,rA,rM,rS]
         have:twoB l=true:=by
          rw [← Bool.not_eq_false]
          exact fun h=>he (twoB_false h _ (List.getElem_mem _) _ (List.getElem_mem _) hid)
         simp [lettersE,h100,hall,this]
     · have g:(l[a].id == l[b].id)=false:=by simp [hid]
       simp only [g]
       repeat (refine gb_skip (by decide) ?_;dsimp only [go_sem,rA,rM,rS])
       refine br_f rfl ?_
       dsimp only [go_sem,rA,rM,rS]
       rw [w64_in (n:=(b:Int)+1) (by omega) (by omega)]
       refine ⟨b+1,⟨hltb,fun j hj h q=>?_⟩,by omega,?_⟩
       · by_cases e:j=b
         · subst e;exact absurd q hid
         · exact hJ j hj (by omega) q
       (refine ent_id ?_ ?_ ?_ rfl rfl<;>dsimp only [pactL,partnerL,letterL,id,go_sem,rA,rM,rS]<;>simp [pactL,partnerL,letterL,KFR_iff,KFR_app,KFR,KFL,KF,mtL_same,mtO,nbr])
   refine br_f (by simpa using hltb) ?_
   dsimp only [go_sem,rA,rM,rS]
   rw [w64_in (n:=(a:Int)+1) (by omega) (by omega)]
   refine ⟨a+1,⟨hlta,fun i j hi hj h1 h2 q=>?_⟩,by omega,?_⟩
   · by_cases e:i=a
     · subst e;exact hJ j hj (by omega) q
     · exact hI i j hi hj (by omega) h2 q
   (refine ent_id ?_ ?_ ?_ rfl rfl<;>dsimp only [pactL,partnerL,letterL,id,go_sem,rA,rM,rS]<;>simp [pactL,partnerL,letterL,KFR_iff,KFR_app,KFR,KFL,KF,mtL_same,mtO,nbr])
 refine br_f (by simpa using hlta) ?_
 dsimp only [go_sem,rA,rM,rS]
 have h2:twoB l=false:=twoB_of fun x hx y hy q=>by
  obtain ⟨i,hi,rfl⟩:=List.getElem_of_mem hx
  obtain ⟨j,hj,rfl⟩:=List.getElem_of_mem hy
  rcases Nat.lt_trichotomy i j with h | h | h
  · exact (hI j i hj hi (by omega) h q.symm).symm
  · subst h;rfl
  · exact hI i j hi hj (by omega) h q
 simp [lettersE,h100,hall,h2]
theorem ready_ok (p:Pact) (l:List Letter) (hs:smallP p) (hl:l.length≤1000) (c:Bool):Ct Try.prog 35 [.agg (pactL p),.sl c 8 (l.map letterL)] (B (decide (readE p l=0))):=by
 refine t35 (by simp [pactL,partnerL,letterL,KFR_iff,KFL,KF]) (by simp [KFL,KF]) ?_
 dsimp only [c35,r35,pactL,go_sem,rA,rM,rS]
 refine call (great_ok p l c) ?_
 dsimp only [go_sem,rA,rM,rS]
 repeat (first | (refine gb ?_;dsimp only [go_sem,rA,rM,rS]) | (refine call (rcheck_ok p hs) ?_;dsimp only [go_sem,rA,rM,rS]) | (refine call (letters_ok p l hs hl c) ?_;dsimp only [go_sem,rA,rM,rS]))
 simp only [Option.some.injEq,SV.v.injEq,Value.bool.injEq]
 by_cases hp:okPact p=true
 · rw [readE_of hp]
   have h8:=(okPact_all hp).2.2.2.2.2.2
   simp only [errP,hp,if_true]
   by_cases h100:l.length > 100
   · simp [lettersE,h100]
   · have hg:greatF p l=false:=by simp [greatF];omega
     simp only [hg]
     rw [Bool.eq_iff_iff]
     simp
 · have:readE p l=80:=by simp [readE,hp]
   simp [errP,hp,this]
def pactX:Pact:=⟨[⟨1,600,500⟩,⟨2,300,200⟩,⟨3,0,300⟩],500,2,100⟩
def lettersX:List Letter:=[⟨10,5,3,3,0,7,0,false⟩,⟨11,20,6,0,8,7,101,false⟩,⟨12,30,5,0,0,7,0,false⟩,⟨13,50,1,0,0,0,1000,false⟩,⟨14,60,2,0,0,0,300,false⟩]
def againX:Letter:=⟨15,25,6,0,8,7,90,false⟩
def debtsX:List Letter:=[⟨16,21,7,1,2,0,40,false⟩,⟨17,22,8,1,2,0,50,false⟩,⟨18,23,8,1,2,0,30,false⟩]
def mouthedX:List Letter:=[⟨10,5,3,3,0,7,0,false⟩,⟨11,20,6,0,8,7,101,false⟩,⟨12,30,5,0,0,7,0,true⟩,⟨13,50,1,0,0,0,1000,false⟩,⟨14,60,2,0,0,0,300,false⟩]
theorem weak_agg {l l':List SV} (h:∀ (w:World) (E:Env) (n ok:Nat→Prop) (ys:List Value),RL w E n ok l ys→RL w E n ok l' ys):Weak (.agg l) (.agg l'):=fun w E n ok y hy=>by
 simp only [R] at hy ⊢
 obtain ⟨cs,h1,h2⟩:=hy
 exact ⟨cs,h1,h _ _ _ _ _ h2⟩
theorem pactX_ok:Ct Try.prog 38 [] (.agg (pactL pactX)):=by
 refine Ct.res (res:=.agg [.sl true 3 (pactX.partners.map partnerL),I pactX.calf,I pactX.hire,I pactX.ends]) ?_ (by simp [pactL,pactX,partnerL,KFR,KFL,KF]) (weak_agg (weak_cons weak_c rl_rfl))
 refine t38 (by simp [KFL,KF]) (by simp [pactL,pactX,partnerL,KFR,KFL,KF]) ?_
 dsimp only [c38,r38,go_sem,rA,rM,rS]
 simp [pactX,partnerL]
theorem lettersX_ok:Ct Try.prog 39 [] (.sl true 8 (lettersX.map letterL)):=by
 refine t39 (by simp [KFL,KF]) (by simp [lettersX,letterL,KFR,KFL,KF]) ?_
 dsimp only [c39,r39,go_sem,rA,rM,rS]
 simp [lettersX,letterL]
theorem againX_ok:Ct Try.prog 40 [] (.agg (letterL againX)):=by
 refine t40 (by simp [KFL,KF]) (by simp [againX,letterL,KFR,KFL,KF]) ?_
 dsimp only [c40,r40,go_sem,rA,rM,rS]
 simp [againX,letterL]
theorem debtsX_ok:Ct Try.prog 41 [] (.sl true 8 (debtsX.map letterL)):=by
 refine t41 (by simp [KFL,KF]) (by simp [debtsX,letterL,KFR,KFL,KF]) ?_
 dsimp only [c41,r41,go_sem,rA,rM,rS]
 simp [debtsX,letterL]
end Go.Proofs.Ythilckbkffjliaa
namespace Go.Sx
open Go Go.RowKit
section
variable {P:Program} {C:Cx} {E:Env} {σ : St} {a:Act} {w:World} {n:Nat→Prop} {hp:List (Nat × HB)} {r:KT} {K:RK}
theorem bsl_run2 {t T m len:Nat} {parts:Array (Nat × Operand)} {ps:List X} {rows:List (List SV)} {ρ : X→SV} (hρ : ∀ x ∈ ps,R w E n (okS C E hp) (ρ x) (evX a x))
 (hu:P.underlying t=some (.slice T)) (hm:szOf P T=some m) (hl:len * m≤2 ^ 24) (hpl:ps.length=len) (hm0:m≠0) (hz:∃ z,zeroOf P T=some z∧z.cells.size=m)
 (hx:cmpXs ps (parts.toList.map (·.2))=true) (hi:parts.toList.map (·.1)=List.range len) (hrows:bslR ρ m ps=some rows) :
 ∃ cs:List Value,(Instr.buildSlice t len (parts.map fun (i,x)=>(i,a.eval x))).run P w = .ok (.slice (some ⟨w.heap.size,0,none⟩) len len) (w.alloc (.cells cs.toArray T))∧cs.length=len * m∧rows.length=len ∧
  (∀ r ∈ rows,r.length=m)∧RL w E n (okS C E hp) rows.flatten cs:=by
 obtain ⟨z,hz1,hz2⟩:=hz
 obtain ⟨hr1,hr2⟩:=bslR_run (a:=a) hρ hrows
 let vs:=ps.map (evX a)
 have hvs:∀ v ∈ vs,v.cells.size=m:=by
  intro v hv
  obtain ⟨i,hi',rfl⟩:=List.getElem_of_mem hv
  simp only [vs,List.length_map] at hi'
  obtain ⟨row,k1,k2,k3⟩:=hr2 i hi'
  have:=RL_length k3
  simp only [vs,List.getElem_map]
  rw [← Array.length_toList,this,k2]
 have hparts:(parts.map fun (i,x)=>(i,a.eval x)).toList=(List.range len).zip vs:=by
  rw [← hi]
  have h2:=cmpXs_sound hx a
  apply List.ext_getElem?
  intro j
  simp only [vs,← h2,Array.toList_map,List.zip,List.getElem?_zipWith,List.getElem?_map]
  cases parts.toList[j]?<;>simp
 let Z:=(Array.range (len * m)).map (fun i=>z.cells[i % z.cells.size]!)
 have hZ:Z.toList.length=(0+vs.length) * m:=by simp [Z,vs,hpl]
 have hf:=fill_eq (fun i=>some (i * m,m)) ((List.range len).zip vs) (rowsF m 0 vs) Z (by simp [rowsF_length,vs,hpl]) (fun i h h'=>by
  have hlt:i < vs.length:=by rw [rowsF_length] at h';exact h'
  refine ⟨m,?_,?_,?_,?_⟩
  · have:=rowsF_get m vs 0 i
    rw [List.getElem?_eq_getElem hlt,List.getElem?_eq_getElem h'] at this
    simp at this
    simp [this]
  · have:=rowsF_get m vs 0 i
    rw [List.getElem?_eq_getElem hlt,List.getElem?_eq_getElem h'] at this
    simp at this
    simp [this]
  · simp;exact hvs _ (List.getElem_mem _)
  · have:=rowsF_get m vs 0 i
    rw [List.getElem?_eq_getElem hlt,List.getElem?_eq_getElem h'] at this
    simp at this
    rw [this];simp only [Z,Array.size_map,Array.size_range]
    have:i+1≤len:=by simp [vs,hpl] at hlt;omega
    calc i * m+m=(i+1) * m:=by rw [Nat.add_mul];omega
     _≤len * m:=Nat.mul_le_mul_right m this)
 rw [fillV_rows m vs 0 _ hZ hvs] at hf
 simp only [Nat.zero_mul,List.take_zero,List.nil_append] at hf
 let cs:=vs.flatMap (·.cells.toList)
 have hflat:∀ (qs:List X) (rs:List (List SV)),rs.length=qs.length→(∀ i (h:i < qs.length),∃ row,rs[i]? = some row∧row.length=m∧RL w E n (okS C E hp) row (evX a qs[i]).cells.toList) →
  RL w E n (okS C E hp) rs.flatten ((qs.map (evX a)).flatMap (·.cells.toList))∧((qs.map (evX a)).flatMap (·.cells.toList)).length=qs.length * m∧∀ r ∈ rs,r.length=m:=by
  intro qs
  induction qs with
  | nil=>intro rs h _;have:=List.eq_nil_of_length_eq_zero h;subst this;exact ⟨by simp [RL],by simp,by simp⟩
  | cons x qs ih =>
   intro rs h hq
   cases rs with
   | nil=>simp at h
   | cons y rs =>
    obtain ⟨q1,q2,q3⟩:=ih rs (by simpa using h) (fun i hi'=>by have:=hq (i+1) (by simp;omega);simpa using this)
    obtain ⟨row,k1,k2,k3⟩:=hq 0 (by simp)
    simp only [List.getElem?_cons_zero,Option.some.injEq] at k1
    subst k1
    simp only [List.getElem_cons_zero] at k3
    refine ⟨?_,?_,fun r hr=>?_⟩
    · simp only [List.flatten_cons,List.map_cons,List.flatMap_cons]
      exact RL_append k3 q1
    · simp only [List.map_cons,List.flatMap_cons,List.length_append,q2,List.length_cons]
      have:=RL_length k3
      rw [this,k2,Nat.add_mul];omega
    · rcases List.mem_cons.1 hr with rfl | hr
      · exact k2
      · exact q3 r hr
 obtain ⟨f1,f2,f3⟩:=hflat ps rows hr1 hr2
 refine ⟨cs,?_,by rw [show cs=(ps.map (evX a)).flatMap (·.cells.toList) from rfl,f2,hpl],by rw [hr1,hpl],f3,f1⟩
 have hlm:¬ len * m > 2 ^ 24:=by omega
 simp only [Instr.buildSlice,Sem.run_bind,run_underlying hu,Result.andThen_ok,run_sizeOf hm,if_neg hlm]
 by_cases h0:len * m=0
 · have hlen0:len=0:=by rcases Nat.mul_eq_zero.1 h0 with h | h<;>first | exact h | exact absurd h hm0
   have hps:ps=[]:=by cases ps<;>simp_all
   subst hps;subst hlen0
   have hpn:parts = #[]:=by
    apply Array.toList_inj.1;cases hq:parts.toList<;>simp_all
   subst hpn
   have e0:(Array.map (fun _=>(default:Value)) (Array.range 0)) = #[]:=by apply Array.toList_inj.1;simp
   simp [Instr.fill,newRow,cs,vs,e0]
 · simp only [if_neg h0,Sem.run_bind,run_zeroOf hz1,Result.andThen_ok,Sem.run_pure]
   rw [show ((Array.range (len * m)).map fun i=>z.cells[i % z.cells.size]!)=Z from rfl,hparts,hf]
   simp [newRow];rfl
theorem raw_bslO {u t T m len ty:Nat} {parts:Array (Nat × Operand)} {rows:List (List SV)} (ps:List X) (h1:memb u σ.gs=false) (h2:Nat.blt u σ.N=true)
 (hu:P.underlying t=some (.slice T)) (hm:szOf P T=some m) (hl:len * m≤2 ^ 24) (hpl:ps.length=len) (hm0:m≠0) (hl0:len≠0) (hz:∃ z,zeroOf P T=some z∧z.cells.size=m)
 (hx:cmpXs ps (parts.toList.map (·.2))=true) (hi:parts.toList.map (·.1)=List.range len) (hrows:bslR (rdG none σ.fr) m ps=some rows)
 (h:r ⟨(u,.mr σ.n 0) :: σ.fr,(σ.n,.row 0 m rows T) :: σ.hp,σ.n+1,σ.N,σ.gs⟩ K):RAW P (some u) (.buildSlice t len parts) ty σ r K:=by
 intro o C E a w next Q e1 e2 e3 hS hn hq
 obtain ⟨cs,g1,g2,g3,g4,g5⟩:=bsl_run2 (P:=P) (a:=a) (w:=w) (E:=E) (n:=ltn σ.n) (C:=C) (hp:=σ.hp) (fun x _=>rdG_ok hS.fr (g:=none) trivial x) hu hm hl hpl hm0 hz hx hi hrows
 have hbel:Below w.heap.size w (w.alloc (.cells cs.toArray T)):=(Below.refl _ _).alloc (Nat.le_refl _) _
 have hle:len≤len * m:=Nat.le_mul_of_pos_right _ (by omega)
 obtain ⟨E',k1,k2,k3,k4,k5⟩:=HSim_newrow (q:=σ.n) (m:=m) (xs:=rows) (T:=T) (v:=.slice (some ⟨w.heap.size,0,none⟩) len len) hS.hs (by simp [ltn]) hbel
  (.inr ⟨len,cs.toArray,by rw [g3],heap_alloc_new _ _,by simp [g2],⟨by omega,hl0⟩,by omega,g4,by rw [g3,← g2];simpa using g5⟩)
 have hV:(fun k=>ltn σ.n k∨k = σ.n)=ltn (σ.n+1):=by funext k;simp only [ltn,eq_iff_iff];omega
 rw [hV] at k4
 have hrun:(execOp a.eval o).run P w = .ok (.value (.slice (some ⟨w.heap.size,0,none⟩) len len)) (w.alloc (.cells cs.toArray T)):=by
  obtain ⟨dst',op',ty',pos,after,guard⟩:=o
  simp only at e2;subst e2
  simp [execOp,Sem.run_bind,g1,Sem.run_pure]
 refine wpq_res hrun (by simp) ?_
 show next (a.put o.dst _) _
 rw [e1]
 refine hn _ E' _ _ h (Sim_put hS k5 k1 (by omega) k4 (fun hh=>?_) (by simpa [Nat.blt_eq] using h2) (fun _ _ _ e=>by cases e) ?_)
 · rw [memb_iff.2 hh] at h1;cases h1
 · simp only [R];exact ⟨by simp [ltn],by omega,by rw [k2];exact ⟨rfl,rfl⟩⟩
end
end Go.Sx
set_option maxRecDepth 100000
namespace Go.Proofs.Ythilckbkffjliaa
open Go Go.Sx
def cx39:SC:=(.seq (.reg [
 o1 0 (.mv (.c (.slice none 0 0)))])
 (.seq (.reg [
 o1 1 (.build [.int .i64 0,.int .i64 0,.int .u8 0,.int .i64 0,.int .i64 0,.int .i64 0,.int .i64 0,.bool false] [(0,1,.c (.int .i64 10)),(1,1,.c (.int .i64 5)),(2,1,.c (.int .u8 3)),(3,1,.c (.int .i64 3)),(5,1,.c (.int .i64 7))]),
 o1 2 (.build [.int .i64 0,.int .i64 0,.int .u8 0,.int .i64 0,.int .i64 0,.int .i64 0,.int .i64 0,.bool false] [(0,1,.c (.int .i64 11)),(1,1,.c (.int .i64 20)),(2,1,.c (.int .u8 6)),(5,1,.c (.int .i64 7)),(4,1,.c (.int .i64 8)),(6,1,.c (.int .i64 101))]),
 o1 3 (.build [.int .i64 0,.int .i64 0,.int .u8 0,.int .i64 0,.int .i64 0,.int .i64 0,.int .i64 0,.bool false] [(0,1,.c (.int .i64 12)),(1,1,.c (.int .i64 30)),(2,1,.c (.int .u8 5)),(5,1,.c (.int .i64 7))]),
 o1 4 (.build [.int .i64 0,.int .i64 0,.int .u8 0,.int .i64 0,.int .i64 0,.int .i64 0,.int .i64 0,.bool false] [(0,1,.c (.int .i64 13)),(1,1,.c (.int .i64 50)),(2,1,.c (.int .u8 1)),(6,1,.c (.int .i64 1000))]),
 o1 5 (.build [.int .i64 0,.int .i64 0,.int .u8 0,.int .i64 0,.int .i64 0,.int .i64 0,.int .i64 0,.bool false] [(0,1,.c (.int .i64 14)),(1,1,.c (.int .i64 60)),(2,1,.c (.int .u8 2)),(6,1,.c (.int .i64 300))]),
 o1 6 (.raw (Go.Op.buildSlice 38 5 #[(0,(Go.Operand.tmp 1)),(1,(Go.Operand.tmp 2)),(2,(Go.Operand.tmp 3)),(3,(Go.Operand.tmp 4)),(4,(Go.Operand.tmp 5))]) 38),
 m1 0 6])
 .ret))
def rx39:List RV:=[.tmp 0]
theorem nx39:Try.f39.ntmps=7:=by kernel_rfl
theorem bx39:bodyB Try.prog 39=true:=by kernel_rfl
theorem cx39_ok:cmpC Try.prog cx39 ((Try.f39.body).getD .skip)=true:=by kernel_rfl
theorem rx39_ok:cmpR Try.prog rx39 Try.f39.results.toList=true:=by kernel_rfl
theorem mx39 {n0:Nat} {hp0:List (Nat × HB)} {args:List SV} {Post:Ot→Prop} (hh:hpb n0 hp0) (hx:∀ o,Post o→KX o.res∧KXP o.hp) (h:sx Try.prog Y0 n0 cx39 ⟨enum 0 args,hp0,n0,7,[]⟩ (retM rx39 fun o=>∃ o',Post o'∧EntO n0 o o')) (hA:Nat.ble args.length 7=true:=by rfl):CtM Try.prog 39 hp0 n0 args Post:=ctm_intro Try.func39 rfl bx39 cx39_ok rx39_ok nx39 (Nat.le_of_ble_eq_true hA) hh hx h
def cx59:SC:=(.seq (.reg [
 o1 0 (.mv (.c (.slice none 0 0)))])
 (.seq (.reg [
 o1 2 (.callm 39 []),
 m1 1 2])
 (.seq (.reg [
 m1 3 1,
 o1 4 (.ixs (.t 3) (.c (.int .i64 2)) 8),
 o1 5 (.addo (.t 4) 7),
 ⟨none,.st (.t 5) (.c (.bool true)) 1,none,[]⟩])
 (.seq (.reg [
 m1 6 1,
 m1 0 6])
 .ret))))
def rx59:List RV:=[.tmp 0]
theorem nx59:Try.f59.ntmps=7:=by kernel_rfl
theorem bx59:bodyB Try.prog 59=true:=by kernel_rfl
theorem cx59_ok:cmpC Try.prog cx59 ((Try.f59.body).getD .skip)=true:=by kernel_rfl
theorem rx59_ok:cmpR Try.prog rx59 Try.f59.results.toList=true:=by kernel_rfl
theorem tx59 {args:List SV} {res:SV} (ka:KFL args) (kr:KF res) (h:sx Try.prog Y0 0 cx59 (st0 args 7) (retK rx59 res)) (hA:Nat.ble args.length 7=true:=by rfl):Ct Try.prog 59 args res:=ct_intro Try.func59 rfl bx59 cx59_ok rx59_ok nx59 (Nat.le_of_ble_eq_true hA) ka kr h
end Go.Proofs.Ythilckbkffjliaa
set_option maxRecDepth 100000
set_option maxHeartbeats 4000000
namespace Go.Proofs.Ythilckbkffjliaa
open Go Go.Sx Go.Azalai
theorem u38:Try.prog.underlying 38=some (.slice 50):=by kernel_rfl
theorem s50:szOf Try.prog 50=some 8:=by kernel_rfl
def ltO:Ot:=⟨false,.mr 0 0,[(0,.row 0 8 (lettersX.map letterL) 50)],1⟩
theorem lettersM_ok:CtM Try.prog 39 [] 0 [] (fun o=>o=ltO):=by
 refine mx39 (by simp [hpb]) (fun o ho=>by subst ho;simp [ltO,KX,KXL,KXP,KXH,KFR_iff,KFL,KF,letterL]) ?_
 dsimp only [cx39,rx39,go_sem,rA,rM,rS]
 refine raw_bslO [.t 1,.t 2,.t 3,.t 4,.t 5] rfl rfl u38 s50 (by decide) rfl (by decide) (by decide) ⟨_,rfl,by kernel_rfl⟩ rfl rfl rfl ?_
 dsimp only [go_sem,rA,rM,rS]
 refine ⟨_,rfl,?_⟩
 simp only [ltO,lettersX,List.map]
 (refine entO_id ?_ ?_ ?_ rfl<;>dsimp only [letterL,id,go_sem,rA,rM,rS]<;>simp [letterL,KFR_iff,KFR_app,KFR,KFL,KF,mtL_same,mtO,nbr])
theorem mouthed_ok:Ct Try.prog 59 [] (.sl false 8 (mouthedX.map letterL)):=by
 refine tx59 (by simp [KFL,KF]) (by simp [mouthedX,letterL,KFR,KFL,KF]) ?_
 dsimp only [cx59,rx59,go_sem,rA,rM,rS]
 refine callmP [] lettersM_ok rfl rfl rfl ?_ ?_ ?_
 · (repeat first | dsimp only [go_sem,rA,rM,rS] | simp only [nbr])
   try simp [mtL,mtB,mtS]
 · trivial
 rintro _ rfl
 (repeat first | dsimp only [ltO,go_sem,rA,rM,rS] | simp only [nbr])
 refine ixrm 2 rfl (by decide) ?_
 (repeat first | dsimp only [go_sem,rA,rM,rS] | simp only [nbr])
 refine strm ⟨12,30,5,0,0,7,0,true⟩ (by decide) (by simp [letterL]) (by simp [letterL,splice,lettersX]) ?_
 (repeat first | dsimp only [go_sem,rA,rM,rS] | simp only [nbr])
 rfl
end Go.Proofs.Ythilckbkffjliaa
set_option maxRecDepth 100000
set_option maxHeartbeats 4000000
namespace Go.Azalai
theorem owedF_eq {p:Pact} {c d:Co} (h:c.debts=d.debts) (id:Int):owedF p c id=owedF p d id:=by simp only [owedF,h]
theorem hasF_eq {p:Pact} {c d:Co} (h1:endR p c=endR p d) (h2:∀ w,endX p c w=endX p d w) (h3:c.debts=d.debts):hasF p c=hasF p d:=by
 simp only [hasF,h1,h2,owedF_eq h3]
def end1 (p:Pact) (c:Co) (a:Int):Co:=match c.loans a with
 | none=>c
 | some l=>homeF p c a p.ends l
theorem hasF_end1 {p:Pact} {c:Co} {a:Int} (h0:0≤a) (h1:a≤9999):hasF p (end1 p c a)=hasF p c:=by
 unfold end1
 split
 · rfl
 · rename_i l hl
   exact hasF_eq (endR_home hl h0 h1) (endX_home hl h0 h1) rfl
def hasN (p:Pact) (c:Co):List Int :=
 (List.range p.partners.length).map fun i=>optF (fun x=>x.put+(divideF p c.result).getD i 0+c.extra x.id+owedF p c x.id) p.partners[i]?
theorem hasF_none {p:Pact} {c:Co} (h:∀ a,c.loans a=none):hasF p c=hasN p c:=by
 simp only [hasF,hasN,endR_none h,endX_none h]
theorem loans_one {p:Pact} {a:Int}:∀ {l:List Letter} {c:Co},(∀ b,b≠a→c.loans b=none)→(∀ x ∈ l,x.kind=3→x.animal=a)→∀ b,b≠a→(runF p c l).loans b=none
 | [],c,h,_,b,hb=>h b hb
 | x :: l,c,h,hl,b,hb=>by
  refine loans_one (l:=l) (c:=(stepF p c x).1) (fun b hb=>?_) (fun y hy=>hl y (by simp [hy])) b hb
  have h0:=h b hb
  have h3:=hl x (by simp)
  unfold stepF
  repeat' split
  all_goals first | exact h0 | (simp only [upd,homeF];split<;>first | rfl | exact h0 | (rename_i q;exact absurd (q.trans (h3 (by assumption))) hb))
theorem settle_one {p:Pact} {l:List Letter} {a:Int} (h0:0≤a) (h1:a≤9999) (hl:∀ x ∈ l,x.kind=3→x.animal=a):settleF p l=hasN p (end1 p (runF p co0 l) a):=by
 rw [settleF,← hasF_end1 h0 h1]
 refine hasF_none fun b=>?_
 have ho:=loans_one (p:=p) (c:=co0) (fun _ _=>rfl) hl
 by_cases e:b=a
 · subst e
   unfold end1
   split
   · assumption
   · simp [homeF,upd]
 · have:=ho b e
   unfold end1
   split
   · exact this
   · simp only [homeF,upd,if_neg e];exact this
end Go.Azalai
namespace Go.Proofs.Ythilckbkffjliaa
open Go Go.Sx Go.Azalai
theorem v1:divideF pactX 1001=[501,200,300]:=by decide +kernel
theorem v2:divideF pactX (-100)=[-67,-33,0]:=by decide +kernel
theorem e3:readE pactX lettersX=0:=by decide +kernel
theorem e4:readE pactX (lettersX ++ debtsX)=0:=by decide +kernel
theorem e5:readE pactX (lettersX ++ [againX])=0:=by decide +kernel
theorem e6:readE pactX mouthedX=0:=by decide +kernel
theorem v3:settleR pactX lettersX=[951,440,310]:=by
 rw [settleR,if_pos e3,settle_one (a:=7) (by decide) (by decide) (by decide +kernel)];decide +kernel
theorem v4:settleR pactX (lettersX ++ debtsX)=[941,450,310]:=by
 rw [settleR,if_pos e4,settle_one (a:=7) (by decide) (by decide) (by decide +kernel)];decide +kernel
theorem v5:whyRR pactX (lettersX ++ [againX])=[0,0,4,0,0,0]:=by
 rw [whyRR,if_pos e5];decide +kernel
theorem v60:settleF pactX (someF 0 0 mouthedX)=[881,412,408]:=by
 rw [settle_one (a:=7) (by decide) (by decide) (by decide +kernel)];decide +kernel
theorem v61:settleF pactX (someF 1 0 mouthedX)=[951,440,310]:=by
 rw [settle_one (a:=7) (by decide) (by decide) (by decide +kernel)];decide +kernel
theorem rd6:readL pactX mouthedX=mouthedX:=by decide +kernel
theorem v6:surelyE pactX mouthedX=0∧surelyR pactX mouthedX=[(881,951),(412,440),(310,408)]:=by
 have h0:surelyE pactX mouthedX=0:=by rw [surelyE,if_pos e6,rd6];decide +kernel
 refine ⟨h0,?_⟩
 rw [surelyR,if_pos h0,rd6]
 have hm:(mouthedX.filter (·.mouth)).length=1:=by decide +kernel
 simp only [surelyF,hm]
 rw [show List.range pactX.partners.length=[0,1,2] from by decide]
 simp only [List.map_cons,List.map_nil,show 2 ^ 1 - 1=1 from rfl,minF,maxF,someHas,v60,v61]
 decide
theorem sm_pact:smallP pactX:=by show pactX.partners.length≤1000;decide
theorem alive_ok:Ct Try.prog 34 [] (B true):=by
 refine t34 (by simp [KFL,KF]) (by simp [KFL,KF]) ?_
 dsimp only [c34,r34,go_sem,rA,rM,rS]
 refine call pactX_ok ?_
 dsimp only [go_sem,rA,rM,rS]
 have hd1:=Divide_ok pactX 1001 sm_pact
 have hd2:=Divide_ok pactX (-100) sm_pact
 have hp:okPact pactX=true:=by decide +kernel
 simp only [hp,show inR (-10000000000) 10000000000 1001=true from by decide,show inR (-10000000000) 10000000000 (-100)=true from by decide,and_self,if_true,v1,v2] at hd1 hd2
 refine call hd1 ?_
 dsimp only [go_sem,rA,rM,rS]
 refine call pactX_ok ?_
 dsimp only [go_sem,rA,rM,rS]
 refine call hd2 ?_
 dsimp only [go_sem,rA,rM,rS]
 refine call pactX_ok ?_
 dsimp only [go_sem,rA,rM,rS]
 refine call lettersX_ok ?_
 dsimp only [go_sem,rA,rM,rS]
 refine call (settle_ok pactX lettersX sm_pact (by decide) true) ?_
 dsimp only [go_sem,rA,rM,rS]
 rw [v3,e3]
 refine call pactX_ok ?_
 dsimp only [go_sem,rA,rM,rS]
 refine call lettersX_ok ?_
 dsimp only [go_sem,rA,rM,rS]
 refine call debtsX_ok ?_
 dsimp only [go_sem,rA,rM,rS]
 refine app0 (by simp [lettersX,debtsX]) ?_
 dsimp only [go_sem,rA,rM,rS]
 rw [← List.map_append]
 refine call (settle_ok pactX (lettersX ++ debtsX) sm_pact (by decide) false) ?_
 dsimp only [go_sem,rA,rM,rS]
 rw [v4,e4]
 refine call pactX_ok ?_
 dsimp only [go_sem,rA,rM,rS]
 refine call lettersX_ok ?_
 dsimp only [go_sem,rA,rM,rS]
 refine call againX_ok ?_
 dsimp only [letterL,go_sem,rA,rM,rS]
 refine app0 (by simp [lettersX]) ?_
 dsimp only [go_sem,rA,rM,rS]
 have ea:lettersX.map letterL ++ [letterL againX]=(lettersX ++ [againX]).map letterL:=by rw [List.map_append];rfl
 simp only [letterL] at ea
 rw [ea]
 refine call (Read_ok pactX (lettersX ++ [againX]) sm_pact (by decide) false) ?_
 dsimp only [go_sem,rA,rM,rS]
 rw [v5,e5]
 refine call pactX_ok ?_
 dsimp only [go_sem,rA,rM,rS]
 refine call mouthed_ok ?_
 dsimp only [go_sem,rA,rM,rS]
 refine call (surely_ok pactX mouthedX sm_pact (by decide) false) ?_
 dsimp only [go_sem,rA,rM,rS]
 rw [v6.1,v6.2]
 have q1:=same22_ok [501,200,300] [501,200,300] (by decide) (by decide) false true
 have q2:=same22_ok [-67,-33,0] [-67,-33,0] (by decide) (by decide) false true
 have q3:=same22_ok [951,440,310] [951,440,310] (by decide) (by decide) false true
 have q4:=same22_ok [941,450,310] [941,450,310] (by decide) (by decide) false true
 have q5:=same33_ok [(881,951),(412,440),(310,408)] [(881,951),(412,440),(310,408)] (by decide) (by decide) false true
 simp only [decide_true] at q1 q2 q3 q4 q5
 repeat (first | (refine call q1 ?_;dsimp only [go_sem,rA,rM,rS]) | (refine call q2 ?_;dsimp only [go_sem,rA,rM,rS]) | (refine call q3 ?_;dsimp only [go_sem,rA,rM,rS]) | (refine call q4 ?_;dsimp only [go_sem,rA,rM,rS]) | (refine gb_run rfl ?_;dsimp only [go_sem,rA,rM,rS]))
 refine raw_str (e:=5) (ns:=[0,0,4,0,0,0]) rfl (fun _ _ _ e=>by cases e) rfl (by kernel_rfl) (by kernel_rfl) (by kernel_rfl) ?_
 dsimp only [go_sem,rA,rM,rS]
 refine gb_run rfl ?_
 dsimp only [go_sem,rA,rM,rS]
 refine raw_seqc (q:=true) rfl (.inl ⟨rfl,by decide +kernel⟩) ?_
 dsimp only [go_sem,rA,rM,rS]
 repeat (first | (refine call q5 ?_;dsimp only [go_sem,rA,rM,rS]) | (refine call (span60 _ _) ?_;dsimp only [pairL,go_sem,rA,rM,rS]) | (refine gb_run rfl ?_;dsimp only [go_sem,rA,rM,rS]))
 rfl
def readyF (p:Pact) (l:List Letter):Bool:=!greatF p l && decide (readE p l=0)
theorem readyF_t {p:Pact} {l:List Letter} (h:readyF p l=true):smallP p∧l.length≤100∧readE p l=0:=by
 simp only [readyF,greatF,Bool.and_eq_true,Bool.not_eq_true',Bool.or_eq_false_iff,decide_eq_false_iff_not,decide_eq_true_eq] at h
 have:=(readE_0 h.2).2.1
 exact ⟨by show p.partners.length≤1000;omega,this,h.2⟩
theorem readyA_ok (p:Pact) (l:List Letter) (c:Bool):Ct Try.prog 35 [.agg (pactL p),.sl c 8 (l.map letterL)] (B (readyF p l)):=by
 by_cases hg:greatF p l=true
 · have hr:readyF p l=false:=by simp [readyF,hg]
   rw [hr]
   refine t35 (by simp [pactL,partnerL,letterL,KFR_iff,KFL,KF]) (by simp [KFL,KF]) ?_
   dsimp only [c35,r35,pactL,go_sem,rA,rM,rS]
   refine call (great_ok p l c) ?_
   rw [hg]
   dsimp only [go_sem,rA,rM,rS]
   repeat (refine gb_skip (by decide) ?_;dsimp only [go_sem,rA,rM,rS])
   try rfl
 · rw [Bool.not_eq_true] at hg
   have hr:readyF p l=decide (readE p l=0):=by simp [readyF,hg]
   rw [hr]
   simp only [greatF,Bool.or_eq_false_iff,decide_eq_false_iff_not] at hg
   exact ready_ok p l (by show p.partners.length≤1000;omega) (by omega) c
end Go.Proofs.Ythilckbkffjliaa
set_option maxRecDepth 100000
set_option maxHeartbeats 4000000
namespace Go.Azalai
structure Bd (n:Nat) (c:Co):Prop where
 rb:-(n * 100000000:Int)≤c.result∧c.result≤n * 100000000
 eb:∀ i,-(n * 100000000:Int)≤c.extra i∧c.extra i≤n * 100000000
 bb:∀ x y,-(n * 100000000:Int)≤c.debts x y∧c.debts x y≤n * 100000000
 sb:∀ a l,c.loans a=some l→0≤l.2∧l.2≤100000
theorem Bd.co0:Bd 0 co0:=⟨by simp [Go.Azalai.co0],fun i=>by simp [Go.Azalai.co0],fun x y=>by simp [Go.Azalai.co0],fun a l h=>by simp [Go.Azalai.co0] at h⟩
theorem Bd.next {n:Nat} {c:Co} (h:Bd n c):Bd (n+1) c:=⟨by have:=h.rb;omega,fun i=>by have:=h.eb i;omega,fun x y=>by have:=h.bb x y;omega,h.sb⟩
theorem Bd.home {p:Pact} {n:Nat} {c:Co} (h:Bd n c) (hp:0≤p.hire∧p.hire≤1000) {a d:Int} {l:Int × Int} (hl:c.loans a=some l) (hd:0≤d∧d≤100000):Bd (n+1) (homeF p c a d l):=by
 have hs:=h.sb a l hl
 have hb:=hire_bd (h:=p.hire) (t:=d - l.2) hp.1 hp.2 (by omega) (by omega)
 refine ⟨?_,fun i=>?_,fun x y=>?_,fun i m hi=>?_⟩
 · have:=h.rb
   simp only [homeF];omega
 · have h1:=h.eb i
   have h2:=h.eb l.1
   simp only [homeF,upd]
   split<;>omega
 · have:=h.bb x y
   simp only [homeF];omega
 · simp only [homeF,upd] at hi
   split at hi
   · cases hi
   · exact h.sb i m hi
theorem Bd.deb {n:Nat} {c:Co} (h:Bd n c) {who other v:Int} (hv:-100000000≤v - c.debts who other∧v - c.debts who other≤100000000):Bd (n+1) { c with debts:=upd c.debts who (upd (c.debts who) other v) }:=by
 refine ⟨by have:=h.rb;simp only;omega,fun i=>by have:=h.eb i;simp only;omega,fun x y=>?_,h.sb⟩
 have h1:=h.bb x y
 have h2:=h.bb who other
 simp only [upd]
 by_cases hx:x=who
 · subst hx
   rw [if_pos rfl]
   simp only [upd]
   split
   · rename_i q;subst q;omega
   · omega
 · rw [if_neg hx];omega
theorem Bd.step {p:Pact} {n:Nat} {c:Co} (h:Bd n c) (hp:okPact p=true) {x:Letter} (hx:okLetter p x=true):Bd (n+1) (stepF p c x).1:=by
 have hpp:(0≤p.hire∧p.hire≤1000)∧(0≤p.calf∧p.calf≤1000):=by
  simp only [okPact,Bool.and_eq_true,inR,decide_eq_true_eq] at hp
  omega
 have hday:0≤x.day∧x.day≤100000:=by
  simp only [okLetter,Bool.and_eq_true,inR,decide_eq_true_eq] at hx
  exact hx.1.2
 have hrb:=h.rb
 unfold stepF
 split
 · rename_i k
   have hr:0≤x.rials∧x.rials≤10000000:=by simp only [okLetter,k,Bool.and_eq_true] at hx;simp [inR] at hx;omega
   exact ⟨by simp only;omega,h.next.eb,h.next.bb,h.sb⟩
 split
 · rename_i k
   have hr:0≤x.rials∧x.rials≤10000000:=by simp only [okLetter,k,Bool.and_eq_true] at hx;simp [inR] at hx;omega
   exact ⟨by simp only;omega,h.next.eb,h.next.bb,h.sb⟩
 split
 · split
   · exact h.next
   split
   · exact h.next
   · refine ⟨h.next.rb,h.next.eb,h.next.bb,fun a l hl=>?_⟩
     simp only [upd] at hl
     split at hl
     · cases hl;exact hday
     · exact h.sb a l hl
 split
 · split
   · exact h.next
   · rename_i l hl;exact h.home hpp.1 hl hday
 split
 · split
   · exact h.next
   split
   · exact h.next
   · rename_i l hl
     have:=h.home hpp.1 hl hday
     exact ⟨this.rb,this.eb,this.bb,this.sb⟩
 split
 · rename_i k
   have hr:0≤x.rials∧x.rials≤10000000:=by simp only [okLetter,k,Bool.and_eq_true] at hx;simp [inR] at hx;omega
   split
   · exact h.next
   split
   · exact h.next
   · rename_i l hl
     have hb:=Go.Proofs.Ythilckbkffjliaa.part_bd hr.1 hr.2 hpp.2.1 hpp.2.2
     refine ⟨by simp only;omega,fun i=>?_,h.next.bb,h.sb⟩
     have h1:=h.eb i
     have h2:=h.eb l.1
     simp only [upd]
     split<;>omega
 split
 · rename_i k
   have hr:0≤x.rials∧x.rials≤10000000:=by simp only [okLetter,k,Bool.and_eq_true] at hx;simp [inR] at hx;omega
   exact h.deb (by omega)
 split
 · rename_i k
   have hr:0≤x.rials∧x.rials≤10000000:=by simp only [okLetter,k,Bool.and_eq_true] at hx;simp [inR] at hx;omega
   split
   · exact h.next
   · exact h.deb (by omega)
 · exact h.next
theorem Bd.run {p:Pact} (hp:okPact p=true):∀ {l:List Letter} {n:Nat} {c:Co},Bd n c→(∀ x ∈ l,okLetter p x=true)→Bd (n+l.length) (runF p c l)
 | [],_,_,h,_=>h
 | x :: l,n,c,h,hl=>by
  have:=Bd.run (l:=l) hp (h.step hp (hl x (by simp))) fun y hy=>hl y (by simp [hy])
  rw [List.length_cons,show n+(l.length+1)=n+1+l.length from by omega]
  exact this
theorem last_bd {p:Pact} {n:Nat} {c:Co} (h:Bd n c) (hp:okPact p=true) (a:Nat) (w:Int):(-100000000≤lastHire p c a∧lastHire p c a≤100000000)∧(-100000000≤lastFor p c w a∧lastFor p c w a≤100000000):=by
 have hpp:(0≤p.hire∧p.hire≤1000)∧(0≤p.ends∧p.ends≤100000):=by
  simp only [okPact,Bool.and_eq_true,inR,decide_eq_true_eq] at hp
  omega
 unfold lastHire lastFor
 split
 · simp
 · rename_i l hl
   have hs:=h.sb _ l hl
   have hb:=hire_bd (h:=p.hire) (t:=p.ends - l.2) hpp.1.1 hpp.1.2 (by omega) (by omega)
   refine ⟨hb,?_⟩
   split
   · exact hb
   · omega
theorem end_bd {p:Pact} {n:Nat} {c:Co} (h:Bd n c) (hn:n≤400) (hp:okPact p=true) (w:Int):(-1040000000000≤endR p c∧endR p c≤1040000000000)∧(-1040000000000≤endX p c w∧endX p c w≤1040000000000):=by
 have h1:=sumL_abs (b:=100000000) (l:=(List.range 10000).map (lastHire p c)) fun x hx=>by
  obtain ⟨a,_,rfl⟩:=List.mem_map.1 hx;exact (last_bd h hp a w).1
 have h2:=sumL_abs (b:=100000000) (l:=(List.range 10000).map (lastFor p c w)) fun x hx=>by
  obtain ⟨a,_,rfl⟩:=List.mem_map.1 hx;exact (last_bd h hp a w).2
 rw [List.length_map,List.length_range] at h1 h2
 have h3:=h.rb
 have h4:=h.eb w
 simp only [endR,endX]
 omega
theorem owed_bd {p:Pact} {n:Nat} {c:Co} (h:Bd n c) (hn:n≤400) (hp:okPact p=true) (id:Int):-640000000000≤owedF p c id∧owedF p c id≤640000000000:=by
 have h8:=(okPact_all hp).2.2.2.2.2.2
 have h1:=sumL_abs (b:=80000000000) (l:=p.partners.map fun y=>c.debts y.id id - c.debts id y.id) fun x hx=>by
  obtain ⟨y,_,rfl⟩:=List.mem_map.1 hx
  have:=h.bb y.id id
  have:=h.bb id y.id
  omega
 rw [List.length_map] at h1
 simp only [owedF]
 omega
theorem mem_le_sum:∀ {l:List Int} {x:Int},(∀ y ∈ l,0≤y)→x ∈ l→x≤sumL l
 | y :: l,x,h,hx=>by
  have h1:=h y (by simp)
  have h2:=sumL_nonneg (l:=l) fun z hz=>h z (by simp [hz])
  simp only [sumL]
  rcases List.mem_cons.1 hx with rfl | hx
  · omega
  · have:=mem_le_sum (l:=l) (fun z hz=>h z (by simp [hz])) hx;omega
theorem divd_bd {amount:Int} {by':List Int} (ha:0≤amount) (hb:∀ x ∈ by',0≤x) (hs:0 < sumL by') {i:Nat} (hi:i < (dividedF amount by').length):0≤(dividedF amount by')[i]∧(dividedF amount by')[i]≤amount+1:=by
 have hi':i < by'.length:=by simpa [dividedF] using hi
 have h0:=hb _ (List.getElem_mem hi')
 have h1:=mem_le_sum hb (List.getElem_mem hi')
 have hp:0≤partF amount by' i∧partF amount by' i≤amount:=by
  unfold partF
  rw [byF_get hi']
  have hm:0≤amount * by'[i]:=Int.mul_nonneg ha h0
  refine ⟨Int.tdiv_nonneg hm (by omega),?_⟩
  rw [Int.tdiv_eq_ediv_of_nonneg hm]
  have h2:amount * by'[i]≤amount * sumL by':=Int.mul_le_mul_of_nonneg_left h1 ha
  exact Int.ediv_le_of_le_mul hs h2
 simp only [dividedF,List.getElem_map,List.getElem_range]
 split<;>omega
theorem divF_bd {p:Pact} (hp:okPact p=true) (r:Int) (i:Nat) (hi:i < (divideF p r).length):-((if 0≤r then r else -r)+1)≤(divideF p r)[i]∧(divideF p r)[i]≤(if 0≤r then r else -r)+1:=by
 have hA:=okPact_all hp
 by_cases hr:0≤r
 · have e:divideF p r=dividedF r (p.partners.map (·.share)):=by rw [divideF,if_pos hr]
   have hi':i < (dividedF r (p.partners.map (·.share))).length:=by rw [← e];exact hi
   have:=divd_bd hr hA.2.1 (by omega) hi'
   simp only [e,if_pos hr];omega
 · have e:divideF p r=(dividedF (-r) (p.partners.map (·.put))).map fun n=>-n:=by rw [divideF,if_neg hr]
   have hi':i < (dividedF (-r) (p.partners.map (·.put))).length:=by rw [e] at hi;simpa using hi
   have:=divd_bd (amount:=-r) (by omega) hA.2.2.1 hA.2.2.2.1 hi'
   simp only [e,if_neg hr,List.getElem_map];omega
theorem has_bd {p:Pact} {n:Nat} {c:Co} (h:Bd n c) (hn:n≤400) (hp:okPact p=true):∀ x ∈ hasF p c,-10000000000000≤x∧x≤10000000000000:=by
 intro x hx
 obtain ⟨k,hk,rfl⟩:=List.getElem_of_mem hx
 have hk':k < p.partners.length:=by rw [hasF_len] at hk;exact hk
 have hd:k < (divideF p (endR p c)).length:=by rw [divideF_len];exact hk'
 rw [hasF_get hk' hk hd]
 have h1:=end_bd h hn hp p.partners[k].id
 have h2:=owed_bd h hn hp p.partners[k].id
 have h3:=divF_bd hp (endR p c) k hd
 have h4:okPartners (-1) p.partners=true:=by
  simp only [okPact,Bool.and_eq_true] at hp;exact hp.1.1.2
 have h5:=(okPartners_ids h4).2.2 _ (List.getElem_mem hk')
 split at h3<;>omega
theorem settle_bd {p:Pact} {l:List Letter} (hp:okPact p=true) (hl:∀ x ∈ l,okLetter p x=true) (hn:l.length≤400):∀ x ∈ settleF p l,-10000000000000≤x∧x≤10000000000000:=by
 have h:=Bd.run hp Bd.co0 hl
 rw [Nat.zero_add] at h
 exact has_bd h hn hp
end Go.Azalai
set_option maxRecDepth 100000
set_option maxHeartbeats 4000000
namespace Go.Azalai
theorem readL_nodup {p:Pact} {l:List Letter}:((readL p l).map (·.id)).Nodup:=by
 rw [readL]
 exact ((srtL_perm.map (·.id)).nodup_iff).2 onceL_nodup
theorem twoB_nodup {O:List Letter} (h:(O.map (·.id)).Nodup):twoB O=false:=twoB_of fun x hx y hy e=>by
 obtain ⟨i,hi,rfl⟩:=List.getElem_of_mem hx
 obtain ⟨j,hj,rfl⟩:=List.getElem_of_mem hy
 have hp:=List.pairwise_iff_getElem.1 (List.nodup_iff_pairwise_ne.1 h)
 rcases Nat.lt_trichotomy i j with q | q | q
 · have:=hp i j (by simpa using hi) (by simpa using hj) q
   rw [List.getElem_map,List.getElem_map] at this
   exact absurd e this
 · subst q;rfl
 · have:=hp j i (by simpa using hj) (by simpa using hi) q
   rw [List.getElem_map,List.getElem_map] at this
   exact absurd e.symm this
theorem read_self {p:Pact} {O:List Letter} (hp:okPact p=true) (hl:O.length≤100) (hok:∀ x ∈ O,okLetter p x=true) (ho:O.Pairwise fun a b=>lt2 a b=true) (hd:∀ x ∈ O,x.day≤p.ends) (hn:(O.map (·.id)).Nodup):readE p O=0∧readL p O=O:=by
 have h2:=twoB_nodup hn
 refine ⟨?_,readL_id ho hd h2⟩
 have ha:O.all (okLetter p)=true:=List.all_eq_true.2 hok
 rw [readE_of hp]
 simp only [lettersE,ha,h2]
 simp;omega
theorem read_sub {p:Pact} {l few:List Letter} (h0:readE p l=0) (hs:few.Sublist (readL p l)):readE p few=0∧readL p few=few:=by
 obtain ⟨hp,h100,hok,h2⟩:=readE_0 h0
 have hlen:=hs.length_le
 have hlr:=readL_len (p:=p) (l:=l)
 refine ⟨?_,readL_some h2 hs⟩
 have h3:=twoB_sub (readL_twoB h2) fun _ hx=>hs.subset hx
 have ha:few.all (okLetter p)=true:=List.all_eq_true.2 fun x hx=>readL_ok h0 x (hs.subset hx)
 rw [readE_of hp]
 simp only [lettersE,ha,h3]
 simp;omega
theorem read_days {p:Pact} {l:List Letter} (h0:readE p l=0):∀ x ∈ readL p l,x.day≤p.ends:=fun _ hx=>((readL_mem (readE_0 h0).2.2.2).1 hx).2
theorem settleR_of {p:Pact} {O:List Letter} (h:readE p O=0∧readL p O=O):settleR p O=settleF p O:=by rw [settleR,if_pos h.1,h.2]
theorem nat_tmod (a b:Nat):(a:Int).tmod (b:Int)=((a % b:Nat):Int):=by
 rw [Int.tmod_eq_emod_of_nonneg (by omega)]
 exact (Int.natCast_emod a b).symm
end Go.Azalai
