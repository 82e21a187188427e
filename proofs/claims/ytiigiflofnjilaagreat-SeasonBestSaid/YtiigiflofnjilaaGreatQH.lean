/- Walks and plain laws that lead to the given statement, part 8 of 11. -/
import Derived.Test.YtiigiflofnjilaaGreatQG
import Derived.Test.YtiigiflofnjilaaGreatProg
import Derived.WideLaws
set_option maxRecDepth 100000
set_option maxHeartbeats 8000000
set_option linter.all false
open Nat renaming beq_refl->nbr
namespace Go.Proofs.YtiigiflofnjilaaGreat
open Go Go.Sx Go.Azalai
theorem Zbe {α : Type} (p:α->Bool) {l:List α} {k:Nat} (h:k < l.length):(l.drop k).all p=(p l[k] && (l.drop (k+1)).all p):=by
 rw [List.drop_eq_getElem_cons h,List.all_cons]
theorem ibne (a b:Nat):((a:Int) != (b:Int)) = !decide (a=b):=by
 rw [Bool.eq_iff_iff];simp [bne];omega
theorem okX1 (n:Nat) (x:Scene):(!Yl 0 60 x.heat || !Yl 0 1000000 x.grass || (x.yields.length:Int) != (n:Int) || !x.yields.all (Yl 0 10000000) || (x.prices.length:Int) != (n:Int) || !x.prices.all (inR 0 1000000)) = !YB n x:=by
 simp only [ibne,YB];generalize Yl 0 60 x.heat=a;generalize Yl 0 1000000 x.grass=b;generalize decide (x.yields.length=n)=c;generalize decide (x.prices.length=n)=d;generalize x.yields.all (Yl 0 10000000)=e;generalize x.prices.all (inR 0 1000000)=f
 revert a b c d e f;decide
theorem okX2 (n:Nat) (x:Scene) (h:(!Yl 0 60 x.heat || !Yl 0 1000000 x.grass || (x.yields.length:Int) != (n:Int) || (x.prices.length:Int) != (n:Int))=true):YB n x=false:=by
 simp only [ibne] at h;simp only [YB]
 revert h
 generalize Yl 0 60 x.heat=a;generalize Yl 0 1000000 x.grass=b;generalize decide (x.yields.length=n)=c;generalize decide (x.prices.length=n)=d;generalize x.yields.all (Yl 0 10000000)=e;generalize x.prices.all (inR 0 1000000)=f
 revert a b c d e f;decide
theorem okX3 (n:Nat) (x:Scene) (h:(!Yl 0 60 x.heat || !Yl 0 1000000 x.grass || (x.yields.length:Int) != (n:Int) || (x.prices.length:Int) != (n:Int))=false) :
 YB n x=(x.yields.all (Yl 0 10000000) && x.prices.all (inR 0 1000000))/\x.yields.length=n/\x.prices.length=n:=by
 simp only [ibne,Bool.or_eq_false_iff,Bool.not_eq_false',decide_eq_true_eq] at h;obtain ⟨⟨⟨h1,h2⟩,h3⟩,h4⟩:=h;refine ⟨?_,h3,h4⟩;simp only [YB,h1,h2,h3,h4,decide_true,Bool.true_and]
theorem Zm5 (s:Season) (hs:SmallS s):∃ xs:List (List SV),KFR xs/\Ct Tryz.prog 52 [.agg (Zt s.land),I s.start,I s.day,.agg (Zc s.pace)] (.tup [.sl false 2 xs,I (Xb s.land s.pace s.start s.day)]):=by
 have h:=Zek s.land hs.land s.start s.day s.pace;unfold YM at h;split at h
 . exact ⟨_,by simp [Za,Zc],h⟩
 . exact ⟨[],trivial,h.res (res0:=.tup [.sl false 2 [],I (Xb s.land s.pace s.start s.day)]) (by simp [Za,KFR]) (W7 (ZC Yk XK))⟩
theorem Zfw {s:Season}:Xb s.land s.pace s.start s.day=0↔ZX s.land=true/\ZY s.pace=true/\inR 0 (s.land.wells.length - 1) s.start=true/\inR 0 100000 s.day=true:=by
 unfold Xb Ul;cases ZX s.land<;>cases ZY s.pace<;>cases inR 0 (s.land.wells.length - 1) s.start<;>cases inR 0 100000 s.day<;>simp
theorem Zgv (s:Season):ZZ s=((decide (Xb s.land s.pace s.start s.day=0) && decide (ZaG s.breed s.camel=0) && Zba s && inR 1 4 s.scenes.length) && s.scenes.all (YB s.land.wells.length)):=by
 have hd:Zba s=true->inR 0 100000 s.day=true:=λh=>by
  simp only [Zba,inR,Bool.and_eq_true,decide_eq_true_eq] at h ⊢;omega
 have hr:decide (Xb s.land s.pace s.start s.day=0)=(ZX s.land && ZY s.pace && inR 0 (s.land.wells.length - 1) s.start && inR 0 100000 s.day):=by
  rw [Bool.eq_iff_iff,decide_eq_true_eq,Zfw];simp only [Bool.and_eq_true,and_assoc]
 rw [hr];simp only [ZZ];cases hn:Zba s
 . simp
 . rw [hd hn];cases ZX s.land<;>cases ZY s.pace<;>cases inR 0 (s.land.wells.length - 1) s.start<;>simp
theorem Zez (s:Season) (hs:SmallS s):Ct Tryz.prog 16 [.agg (Zs s)] (I (if ZZ s=true then 0 else 90)):=by
 have hw:=hs.land.1;have hsc:=hs.sc;refine t16.1 (by simp [Zs,Zi,Zf,Zl,Zg,Zc,Zn,Za]) (by simp) ?_;dsimp only [c16,r16,Zs,go_sem];obtain ⟨x,hx0,hc⟩:=Zm5 s hs;refine call hc ?_;dsimp only [go_sem];repeat (first | (refine gb ?_;dsimp only [go_sem]) | (refine call (Zz1 _ _ _ _) ?_;dsimp only [go_sem]) | (refine call (Ztr _ _ _ _ _) ?_;dsimp only [go_sem]) | (refine call (Cm.checkCamel_ok s.breed s.camel) ?_;dsimp only [go_sem]))
 simp only [List.length_map];by_cases hA:(decide (Xb s.land s.pace s.start s.day=0) && decide (ZaG s.breed s.camel=0) && Zba s && inR 1 4 s.scenes.length)=true
 case neg =>
  refine Zq ?_ ?_
  . simp only [Zba] at hA;grind
  dsimp only [go_sem];rw [Zgv,Bool.eq_false_iff.2 hA,Bool.false_and];rfl
 refine Zr ?_ ?_
 . simp only [Zba] at hA;grind
 dsimp only [go_sem];rw [Zgv,hA,Bool.true_and];simp only [List.length_map];refine XE [1,3,85,86,87] rfl (λk:Nat=>[(87,I k)]) (λ_=>[]) (λk=>k<=s.scenes.length/\(s.scenes.drop k).all (YB s.land.wells.length)=s.scenes.all (YB s.land.wells.length)) (λk=>s.scenes.length - k) 0 ⟨Nat.zero_le _,rfl⟩ ?_ ?_
 . (refine Zj ?_ ?_ ?_ rfl rfl<;>dsimp only [Zg,Zf,Zl,Zi,Zc,Zn,hx0,id,go_sem]<;>simp [Zg,Zf,Zl,Zi,Zc,Zn,hx0,Za])
 intro k ⟨hk,hi⟩;dsimp only [go_sem];by_cases hlt:k < s.scenes.length
 . refine Zq (by simpa using hlt) ?_;dsimp only [go_sem];have hx:=hs.each _ (List.getElem_mem hlt);refine Zo k hlt rfl ?_;dsimp only [Zi,go_sem];repeat (first | (refine gb ?_;dsimp only [go_sem]) | (refine call (Zeo _ _ s.scenes[k].heat _) ?_;dsimp only [go_sem]) | (refine call (Zeo _ _ s.scenes[k].grass _) ?_;dsimp only [go_sem]) | (refine call (ZaU _ _ s.scenes[k].yields (by omega) _) ?_;dsimp only [go_sem]) | (refine call (Zbw _ _ s.scenes[k].prices (by omega) _) ?_;dsimp only [go_sem]))
   simp only [List.length_map];rw [Zbe _ hlt] at hi;rw [okX1];refine br ?_ ?_
   . intro hb;dsimp only [go_sem];rw [<- hi,(by simpa using hb:YB s.land.wells.length s.scenes[k]=false)];rfl
   intro hb;dsimp only [go_sem];rw [Zh (n:=(k:Int)+1) (by omega) (by omega)];rw [(by simpa using hb:YB s.land.wells.length s.scenes[k]=true),Bool.true_and] at hi;refine ⟨k+1,⟨hlt,hi⟩,by omega,?_⟩;(refine Zj ?_ ?_ ?_ rfl rfl<;>dsimp only [Zg,Zf,Zl,Zi,Zc,Zn,hx0,id,go_sem]<;>simp [Zg,Zf,Zl,Zi,Zc,Zn,hx0,Za])
 refine Zr (by simp;omega) ?_;dsimp only [go_sem];rw [<- hi,List.drop_eq_nil_of_le (by omega)];rfl
theorem Zem (s:Season) (hs:SmallS s):Ct Tryz.prog 50 [.agg (Zs s)] (B (ZZ s)):=by
 refine t50.1 (by simp [Zs,Zi,Zf,Zl,Zg,Zc,Zn,Za]) (by simp) ?_;dsimp only [c50,r50,Zs,go_sem];refine call (ZjA s.land hs.land) ?_;dsimp only [go_sem];repeat (first | (refine gb ?_;dsimp only [go_sem]) | (refine call (ZgH s.pace) ?_;dsimp only [go_sem]) | (refine call (Cm.checkCamelR_ok s.breed s.camel) ?_;dsimp only [go_sem]))
 have hw:=hs.land.1;have hsc:=hs.sc;refine br ?_ ?_
 . intro h;dsimp only [go_sem]
   (simp only [ZZ,Option.some.injEq,SV.v.injEq,Value.bool.injEq]<;>grind)
 intro h;dsimp only [go_sem];repeat (first | (refine gb ?_;dsimp only [go_sem]) | (refine call (WI _ _ _) ?_;dsimp only [go_sem]))
 refine br ?_ ?_
 . intro h2;dsimp only [go_sem]
   (simp only [ZZ,Zba,Option.some.injEq,SV.v.injEq,Value.bool.injEq]<;>grind)
 intro h2;dsimp only [go_sem];simp only [List.length_map];rw [Zh (n:=(s.land.wells.length:Int) - 1) (by omega) (by omega)];repeat (first | (refine gb ?_;dsimp only [go_sem]) | (refine call (WI _ _ _) ?_;dsimp only [go_sem]))
 simp only [List.length_map];refine br ?_ ?_
 . intro h3;dsimp only [go_sem]
   (simp only [ZZ,Zba,Option.some.injEq,SV.v.injEq,Value.bool.injEq]<;>grind)
 intro h3;dsimp only [go_sem];have hO:ZZ s=s.scenes.all (YB s.land.wells.length):=by simp only [ZZ,Zba];grind
 rw [hO];refine XE [1,3] rfl (λk:Nat=>[(3,I k)]) (λ_=>[]) (λk=>k<=s.scenes.length/\(s.scenes.drop k).all (YB s.land.wells.length)=s.scenes.all (YB s.land.wells.length)) (λk=>s.scenes.length - k) 0 ⟨Nat.zero_le _,rfl⟩ ?_ ?_
 . (refine Zj ?_ ?_ ?_ rfl rfl<;>dsimp only [Zg,Zf,Zl,Zi,Zc,Zn,id,go_sem]<;>simp [Zg,Zf,Zl,Zi,Zc,Zn,Za])
 intro k ⟨hk,hi⟩;dsimp only [go_sem];simp only [List.length_map];by_cases hlt:k < s.scenes.length
 . refine Zq (by simpa using hlt) ?_;dsimp only [go_sem];have hx:=hs.each _ (List.getElem_mem hlt);refine Zo k hlt rfl ?_;dsimp only [Zi,go_sem];rw [Zbe _ hlt] at hi;repeat (first | (refine gb ?_;dsimp only [go_sem]) | (refine call (Us s.scenes[k].heat _ _) ?_;dsimp only [go_sem]) | (refine call (Us s.scenes[k].grass _ _) ?_;dsimp only [go_sem]))
   simp only [List.length_map];refine br ?_ ?_
   . intro hb;dsimp only [go_sem];rw [<- hi,okX2 _ _ hb];rfl
   intro hb;dsimp only [go_sem];obtain ⟨hy,hx1,hx2⟩:=okX3 _ _ hb;rw [hy] at hi;refine XE [1,3,4,5] rfl (λj:Nat=>[(5,I j)]) (λ_=>[]) (λj=>j<=s.scenes[k].yields.length/\((s.scenes[k].yields.drop j).all (Yl 0 10000000) && (s.scenes[k].prices.drop j).all (inR 0 1000000))=(s.scenes[k].yields.all (Yl 0 10000000) && s.scenes[k].prices.all (inR 0 1000000))) (λj=>s.scenes[k].yields.length - j) 0 ⟨Nat.zero_le _,rfl⟩ ?_ ?_
   . (refine Zj ?_ ?_ ?_ rfl rfl<;>dsimp only [Zg,Zf,Zl,Zi,Zc,Zn,id,go_sem]<;>simp [Zg,Zf,Zl,Zi,Zc,Zn,Za])
   intro j ⟨hj,hij⟩;dsimp only [go_sem];simp only [List.length_map];by_cases hlj:j < s.scenes[k].yields.length
   . refine Zq (by simpa using hlj) ?_;dsimp only [go_sem];refine Zo j hlj rfl ?_;dsimp only [Zc,go_sem];refine call (Us s.scenes[k].yields[j] _ _) ?_;dsimp only [go_sem];have hlp:j < s.scenes[k].prices.length:=by omega
     rw [Zbe _ hlj,Zbe _ hlp] at hij;repeat (first | (refine gb ?_;dsimp only [go_sem]) | (refine Zo j hlp rfl ?_;dsimp only [Zn,go_sem]) | (refine ZgB j hlp rfl ?_;dsimp only [Zn,go_sem]) | (refine call (WI _ _ _) ?_;dsimp only [go_sem]))
     refine br ?_ ?_
     . intro hc;dsimp only [go_sem];rw [<- hi,<- hij];cases h1:Yl 0 10000000 s.scenes[k].yields[j]<;>cases h2:inR 0 1000000 s.scenes[k].prices[j]<;>simp [h1,h2] at hc ⊢
     intro hc;dsimp only [go_sem];rw [Zh (n:=(j:Int)+1) (by omega) (by omega)];simp only [Bool.or_eq_false_iff,Bool.not_eq_false'] at hc;rw [hc.1,hc.2,Bool.true_and,Bool.true_and] at hij;refine ⟨j+1,⟨hlj,hij⟩,by omega,?_⟩;(refine Zj ?_ ?_ ?_ rfl rfl<;>dsimp only [Zg,Zf,Zl,Zi,Zc,Zn,id,go_sem]<;>simp [Zg,Zf,Zl,Zi,Zc,Zn,Za])
   refine Zr (by simp;omega) ?_;dsimp only [go_sem];rw [List.drop_eq_nil_of_le (by omega),List.drop_eq_nil_of_le (by omega)] at hij;rw [<- hij] at hi;rw [Zh (n:=(k:Int)+1) (by omega) (by omega)];refine ⟨k+1,⟨hlt,by simpa using hi⟩,by omega,?_⟩;(refine Zj ?_ ?_ ?_ rfl rfl<;>dsimp only [Zg,Zf,Zl,Zi,Zc,Zn,id,go_sem]<;>simp [Zg,Zf,Zl,Zi,Zc,Zn,Za])
 refine Zr (by simp;omega) ?_;dsimp only [go_sem];rw [<- hi,List.drop_eq_nil_of_le (by omega)];rfl
end Go.Proofs.YtiigiflofnjilaaGreat
namespace Go.Azalai
open Go.Sx
def XW (l:Land) (p:Span) (to till:Int):Nat->List Int->Int->Int->List (List Nat)
 | 0,_,_,_=>[]
 | f+1,been,v,t =>
  if t > till then []
  else if v=to then [[]]
  else (List.range l.legs.length).flatMap λi=>match l.legs[i]? with
   | none=>[]
   | some x=>if Zm x v < 0\/Zm x v ∈ v :: been then [] else (XW l p to till f (v :: been) (Zm x v) (ZB true x p t)).map (i :: ·)
def Wh (l:Land) (p:Span) (to till:Int) (f:Nat) (been:List Int) (v t:Int) (i:Nat):List (List Nat) :=
 match l.legs[i]? with
 | none=>[]
 | some x=>if Zm x v < 0\/Zm x v ∈ v :: been then [] else (XW l p to till f (v :: been) (Zm x v) (ZB true x p t)).map (i :: ·)
def Yq (l:Land) (p:Span) (to till:Int) (f:Nat) (been:List Int) (v t:Int) (j:Nat):List (List Nat):=(List.range j).flatMap (Wh l p to till f been v t)
theorem ZeO {l:Land} {p:Span} {to till:Int} {f:Nat} {been:List Int} {v t:Int}:Yq l p to till f been v t 0=[]:=rfl
theorem Ya {l:Land} {p:Span} {to till:Int} {f:Nat} {been:List Int} {v t:Int} {j:Nat}:Yq l p to till f been v t (j+1)=Yq l p to till f been v t j ++ Wh l p to till f been v t j:=by
 simp [Yq,List.range_succ]
theorem Xk {l:Land} {p:Span} {to till:Int} {f:Nat} {been:List Int} {v t:Int}:XW l p to till (f+1) been v t=if t > till then [] else if v=to then [[]] else Yq l p to till f been v t l.legs.length:=rfl
theorem V9 {l:Land} {p:Span} {to till:Int} {f:Nat} {been:List Int} {v t:Int} (h:t > till):XW l p to till f been v t=[]:=by
 cases f with
 | zero=>rfl
 | succ f=>rw [Xk,if_pos h]
def cap (L:List (List Nat)):List (List Nat):=L.take 201
theorem Zf0 {A B:List (List Nat)} (h:A.length > 200):cap (A ++ B)=cap A:=by
 unfold cap;rw [List.take_append_of_le_length (by omega)]
theorem Zai {A:List (List Nat)} (h:A.length<=201):cap A=A:=List.take_of_length_le h
def ZiH (l:Land) (f:Nat) (been:List Int):Prop:=been.Nodup/\(∀ v ∈ been,0<=v/\v < l.wells.length)/\f+been.length=l.wells.length+1
theorem ZeV {n:Nat}:∀ {been:List Int},been.Nodup->(∀ v ∈ been,0<=v/\v < n)->been.length<=n:=by
 intro been hn hb;have h1:(been.map Int.toNat).Nodup:=by
  rw [List.Nodup,List.pairwise_map];refine List.Pairwise.imp_of_mem (λ{a b} ha hb' hab=>?_) hn;have:=hb a ha;have:=hb b hb';omega
 have h2:∀ x ∈ been.map Int.toNat,x ∈ List.range n:=λx hx=>by
  obtain ⟨v,hv,rfl⟩:=List.mem_map.1 hx;have:=hb v hv;simp only [List.mem_range];omega
 have:=List.Nodup.length_le_of_subset h1 h2;simpa using this
theorem ZiH.pos {l:Land} {f:Nat} {been:List Int} {v:Int} (h:ZiH l f been) (hv:v ∉ been) (hi:0<=v/\v < l.wells.length):∃ g,f=g+1/\ZiH l g (v :: been):=by
 obtain ⟨h1,h2,h3⟩:=h;have hn:(v :: been).Nodup:=List.nodup_cons.2 ⟨hv,h1⟩;have hb:∀ u ∈ v :: been,0<=u/\u < l.wells.length:=λu hu=>by
  rcases List.mem_cons.1 hu with rfl | hu
  . exact hi
  . exact h2 u hu
 have:=ZeV hn hb;simp only [List.length_cons] at this;exact ⟨f - 1,by omega,hn,hb,by simp only [List.length_cons];omega⟩
theorem ZiH.start {l:Land}:ZiH l (l.wells.length+1) []:=⟨List.nodup_nil,λv h=>(by cases h),by simp⟩
def Wn (l:Land) (p:Span) (s to day till:Int):Int :=
 if Ul l p≠0 then Ul l p
 else if (inR 0 (l.wells.length - 1) s && inR 0 (l.wells.length - 1) to && inR 0 100000 day && inR 0 100000 till)=false then 2
 else if (XW l p to till (l.wells.length+1) [] s day).length > 200 then 9 else 0
def XB (l:Land) (p:Span) (s to day till:Int):List (List Nat):=XW l p to till (l.wells.length+1) [] s day
end Go.Azalai
namespace Go.Proofs.YtiigiflofnjilaaGreat
open Go Go.Sx Go.Azalai
def ZI (n:Nat):List SV:=[I (n:Int)]
def ZS (a:List Nat):SV:=.sl false 1 (a.map ZI)
theorem ZtH (a:Int):Ct Tryz.prog 171 [I a] (B false):=by
 refine t171.1 (by simp [KFR]) (by simp) ?_;dsimp only [c171,r171,go_sem];simp
def Zni (a b:Int):Int:=if a < b then -1 else if a > b then 1 else 0
theorem ZtO (a b:Int):Ct Tryz.prog 157 [I a,I b] (I (Zni a b)):=by
 refine t157.1 (by simp [KFR]) (by simp) ?_;dsimp only [c157,r157,go_sem];refine call (ZtH a) ?_;dsimp only [go_sem];refine call (ZtH b) ?_;dsimp only [go_sem];refine Zr rfl ?_;dsimp only [go_sem];refine Zr rfl ?_;dsimp only [go_sem];by_cases h:a < b
 . refine Zq (by simpa using h) ?_;dsimp only [go_sem];simp [Zni,h]
 refine Zr (by simpa using h) ?_;dsimp only [go_sem];by_cases h':a > b
 . refine Zq (by simpa using h') ?_;dsimp only [go_sem];simp only [Zni,if_neg h,if_pos h']
 refine Zr (by simpa using h') ?_;dsimp only [go_sem];simp only [Zni,if_neg h,if_neg h']
def ZaY:List Nat->List Nat->Int
 | [],[]=>0
 | [],_ :: _=>-1
 | _ :: _,[]=>1
 | x :: a,y :: b=>if x < y then -1 else if x > y then 1 else ZaY a b
theorem Zg2:∀ {a b:List Nat},decide (ZaY a b < 0)=Wm a b
 | [],[]=>rfl
 | [],_ :: _=>rfl
 | _ :: _,[]=>rfl
 | x :: a,y :: b=>by
  have ih:=Zg2 (a:=a) (b:=b);have e:ZaY (x :: a) (y :: b)=if x < y then -1 else if x > y then 1 else ZaY a b:=rfl
  generalize ZaY (x :: a) (y :: b)=c at e;subst e;simp only [Wm];by_cases h:x < y
  . simp [h]
  . by_cases h':x > y
    . have:(x == y)=false:=by simp;omega
      rw [this];simp [h,h']
    . have:(x == y)=true:=by simp;omega
      rw [this];simp [h,h',<- ih]
theorem Zis (a b:List Nat) (ha:a.length<=1000000) (hb:b.length<=1000000):Ct Tryz.prog 114 [ZS a,ZS b] (I (ZaY a b)):=by
 refine t114.1 (by simp [Za,ZS,ZI]) (by simp) ?_;dsimp only [c114,r114,ZS,go_sem];simp only [List.length_map];refine Yy (λj:Nat=>[(11,I j)]) (λ_=>[]) (λj=>j<=a.length/\ZaY (a.drop j) (b.drop j)=ZaY a b/\j<=b.length) (λj=>a.length - j) 0 ⟨Nat.zero_le _,rfl,Nat.zero_le _⟩ ?_ ?_
 . (refine Zj ?_ ?_ ?_ rfl rfl<;>dsimp only [ZI,id,go_sem]<;>simp [ZI,Za])
 rintro j ⟨hj,hi,hjb⟩;dsimp only [go_sem];by_cases hlt:j < a.length
 . refine Zq (by simpa using hlt) ?_;dsimp only [go_sem];refine Zo j hlt rfl ?_;dsimp only [ZI,go_sem];simp only [List.length_map];rw [List.drop_eq_getElem_cons hlt] at hi;by_cases hb:j < b.length
   . refine Zr (by simpa using hb) ?_;dsimp only [go_sem];refine Zo j hb rfl ?_;dsimp only [ZI,go_sem];refine call (ZtO _ _) ?_;dsimp only [go_sem];rw [List.drop_eq_getElem_cons hb] at hi;simp only [ZaY] at hi;by_cases h:a[j] < b[j]
     . rw [if_pos h] at hi;have e:Zni (a[j]:Int) (b[j]:Int) = -1:=by simp only [Zni];rw [if_pos (by omega)]
       rw [e];refine Zq rfl ?_;dsimp only [go_sem];rw [<- hi]
     rw [if_neg h] at hi;by_cases h':a[j] > b[j]
     . rw [if_pos h'] at hi;have e:Zni (a[j]:Int) (b[j]:Int)=1:=by simp only [Zni];rw [if_neg (by omega),if_pos (by omega)]
       rw [e];refine Zq rfl ?_;dsimp only [go_sem];rw [<- hi]
     rw [if_neg h'] at hi;have e:Zni (a[j]:Int) (b[j]:Int)=0:=by simp only [Zni];rw [if_neg (by omega),if_neg (by omega)]
     rw [e];refine Zr rfl ?_;dsimp only [go_sem];rw [Zh (n:=(j:Int)+1) (by omega) (by omega)];refine ⟨j+1,⟨hlt,hi,hb⟩,by omega,?_⟩;(refine Zj ?_ ?_ ?_ rfl rfl<;>dsimp only [ZI,id,go_sem]<;>simp [ZI,Za])
   . refine Zq (by simp;omega) ?_;dsimp only [go_sem];rw [List.drop_of_length_le (l:=b) (i:=j) (by omega)] at hi;simp only [ZaY] at hi;rw [<- hi]
 refine Zr (by simp;omega) ?_;dsimp only [go_sem];simp only [List.length_map];rw [List.drop_of_length_le (by omega)] at hi;have hje:j=a.length:=by omega
 subst hje;by_cases hb:a.length < b.length
 . refine Zq (by simpa using hb) ?_;dsimp only [go_sem];rw [List.drop_eq_getElem_cons hb] at hi;simp only [ZaY] at hi;rw [<- hi]
 . refine Zr (by simpa using hb) ?_;dsimp only [go_sem];rw [List.drop_of_length_le (by omega)] at hi;simp only [ZaY] at hi;rw [<- hi]
theorem u78 {args:List SV} {res:SV} (ka:KFL args) (kr:KF res) (h:sx Tryz.prog Y0 0 c110 (st0 args 8) (ZvT r110 res)) (hA:Nat.ble args.length 8=true:=by rfl):Ct Tryz.prog 110 args res:=US Tryz.func110 rfl b110 ZxB Zt6 n110 (Nat.le_of_ble_eq_true hA) ka kr h
theorem ZlB (a:List Nat) (ha:a.length<=1000000):Ct Tryz.prog 110 [ZS a] (ZS a):=by
 refine u78 (by simp [Za,ZS,ZI]) (by simp [Za,ZS,ZI]) ?_;dsimp only [c110,r110,ZS,go_sem];intro b hb;dsimp only [go_sem];refine br ?_ ?_
 . intro h;have:=hb h;dsimp only [go_sem];rw [List.map_eq_nil_iff.1 this];exact ⟨_,rfl,Yk⟩
 . intro h;dsimp only [go_sem];refine Zsj (by simp;omega) ?_;dsimp only [go_sem];exact ⟨_,rfl,ZdU.rfl⟩
theorem ZxK (a:List Nat) (ha:a.length<=1000000):Ct Tryz.prog 154 [ZS a] (.sl true 1 (a.map ZI)):=by
 refine t154.1 (by simp [Za,ZS,ZI]) (by simp [Za,ZS,ZI]) ?_;dsimp only [c154,r154,ZS,go_sem];refine ⟨ZQ.2 λ_=>⟨rfl,rfl⟩,?_⟩;dsimp only [go_sem]
theorem ZmO (a:List Nat) (i:Nat) (ha:a.length<=1000000):Ct Tryz.prog 112 [ZS a,I i] (ZS (a ++ [i])):=by
 refine t112.1 (by simp [Za,ZS,ZI]) (by simp [KFL,KF,ZS,Za,ZI,Ze,KFR]) ?_;dsimp only [c112,r112,go_sem];refine call (ZlB a ha) ?_;dsimp only [go_sem];refine call (ZxK a ha) ?_;dsimp only [go_sem];refine Zsj (by simp;omega) ?_;dsimp only [ZS,go_sem];simp [ZI]
abbrev kS:Int × Int->Value:=λn=>.agg #[.int .i64 n.1,.int .i64 n.2]
theorem Yf {K V:Type} {key:K->Value} {val:V->SV}:mpS key val ([]:List (Nat × K × V))=[]:=rfl
theorem ZlP (l:Land) (hs:Xu l) (s day:Int) (p:Span):Ct Tryz.prog 72 [.agg (Zt l),I s,I day,.agg (Zc p)] (.tup [YM (Xb l p s day) 2 ((Xl l p s day).map Zc),I (Xb l p s day)]):=by
 have hw:=hs.1;have hleg:=hs.2.1;refine t72.1 (by simp [Zt,Zf,Zl,Zg,Zc,Za]) (by unfold YM;split<;>simp [KFL,KF,Za,Zc]) ?_;dsimp only [c72,r72,Zt,Zc,go_sem];refine call (Zbk l hs p) ?_;dsimp only [go_sem];by_cases ha:Ul l p=0
 case neg =>
  refine Zq (by simpa using ha) ?_;dsimp only [go_sem];simp [Xb,ha,YM]
 have hok:=Zc1 ha;refine Zr (by simpa using ha) ?_;dsimp only [go_sem];simp only [List.length_map];have h1:=XD hok.land;rw [Zh (n:=(l.wells.length:Int) - 1) (by omega) (by omega)];refine call (ZW s 0 (l.wells.length - 1)) ?_;dsimp only [go_sem];repeat (first | (refine gb ?_;dsimp only [go_sem]) | (refine call (ZW day 0 100000) ?_;dsimp only [go_sem]))
 by_cases hr:(inR 0 (l.wells.length - 1) s && inR 0 100000 day)=true
 case neg =>
  refine Zq (by simpa [Bool.and_eq_true,<- Bool.not_and] using hr) ?_;dsimp only [go_sem];simp [Xb,ha,YM,hr]
 refine Zr (by simpa [<- Bool.not_and] using hr) ?_;dsimp only [go_sem];have he:Xb l p s day=0:=by simp [Xb,ha,hr]
 rw [he];simp only [Bool.and_eq_true,inR,decide_eq_true_eq] at hr;obtain ⟨hr1,hd⟩:=hr;obtain ⟨s0,hs0,rfl⟩:∃ s0:Nat,s0 < l.wells.length/\s=(s0:Int):=⟨s.toNat,by omega,by omega⟩
 have hgs:∀ k,Gone k l p s0 day ((List.replicate l.wells.length (100001:Int)).set s0 day):=λk=>Zda (k:=k) (l:=l) (p:=p) (s:=s0) (day:=day) hs0 hd.2;refine Zau (Yg 11 2 27 rfl rfl) (λq:Nat × Nat=>[(12,I q.1),(11,.mr 2 q.2)]) (λq=>[(2,.row q.2 2 ((List.replicate q.1 (⟨100001,100001⟩:Span)).map Zc) 27)]) (λq=>q.1<=l.wells.length) (λq=>l.wells.length - q.1) (0,0) (Nat.zero_le _) ?_ ?_
 . (refine Zj ?_ ?_ ?_ rfl rfl<;>dsimp only [Zc,Zf,Zl,Zg,Zn,id,go_sem]<;>simp [Zc,Zf,Zl,Zg,Zn,Za])
 rintro ⟨j,v⟩ hj;simp only at hj;dsimp only [go_sem];simp only [List.length_map];by_cases hlt:j < l.wells.length
 . refine Zq (by simpa using hlt) ?_;dsimp only [go_sem];simp only [nbr];dsimp only [go_sem];refine ⟨(by intro c hc;simp only [List.mem_singleton] at hc;subst hc;rfl),by simp;omega,?_⟩;dsimp only [go_sem];rw [Zh (n:=(j:Int)+1) (by omega) (by omega)];have e:(List.replicate j (⟨100001,100001⟩:Span)).map Zc ++ [[SV.v (.int .i64 100001),SV.v (.int .i64 100001)]]=(List.replicate (j+1) (⟨100001,100001⟩:Span)).map Zc:=by
    rw [List.replicate_succ',List.map_append];rfl
   rw [e];refine ⟨(j+1,v+1),hlt,by simp only;omega,?_⟩;have hk:=Vn (r:=[I 100001,I 100001]) (by simp) (j+1);(refine Zj ?_ ?_ ?_ rfl rfl<;>dsimp only [Zc,Zf,Zl,Zg,Zn,hk,id,go_sem]<;>simp [Zc,Zf,Zl,Zg,Zn,hk,Za])
 refine Zr (by simp;omega) ?_;dsimp only [go_sem];have hje:j=l.wells.length:=by omega
 subst hje;simp only [nbr];dsimp only [go_sem];refine Wi s0 rfl (by simpa using hs0) ?_;dsimp only [go_sem];simp only [nbr];dsimp only [go_sem];refine ZdM (⟨day,day⟩:Span) (by simpa using hs0) (by simp [Zc]) (by simp [Zc,Zu]) ?_;dsimp only [go_sem];have hR0:RI l p s0 day ((List.replicate l.wells.length (⟨100001,100001⟩:Span)).set s0 ⟨day,day⟩) ((List.replicate l.wells.length (⟨100001,100001⟩:Span)).set s0 ⟨day,day⟩) false 0 :=
  .start (by simpa [Ze8,List.map_set] using hgs false) (by simpa [Zfl,List.map_set] using hgs true)
 generalize (List.replicate l.wells.length (⟨100001,100001⟩:Span)).set s0 ⟨day,day⟩=S0 at hR0;have hS0len:=hR0.len;refine Yy (λq:Bool × List Span=>[(13,B q.1)]) (λq=>[(2,.row v 2 (q.2.map Zc) 27)])
  (λq=>RI l p s0 day q.2 q.2 false 0/\(q.1=false->q.2=Xl l p s0 day)) (λq=>2 * Zm0 q.2+(if q.1=true then 1 else 0)) (true,S0) ⟨hR0,λh=>by cases h⟩ ?_ ?_
 . (refine Zj ?_ ?_ ?_ rfl rfl<;>dsimp only [Zc,Zf,Zl,Zg,Zn,id,go_sem]<;>simp [Zc,Zf,Zl,Zg,Zn,Za])
 rintro ⟨go,S0⟩ ⟨hR0,hgo⟩;simp only at hR0 hgo;dsimp only [go_sem];cases go with
 | false =>
  refine Zr rfl ?_;dsimp only [go_sem];simp only [nbr];dsimp only [go_sem];rw [hgo rfl];simp [YM,vwN]
 | true =>
 refine Zq rfl ?_;dsimp only [go_sem];refine Yy (λq:Nat × Bool × List Span=>[(14,I q.1),(13,B q.2.1)]) (λq=>[(2,.row v 2 (q.2.2.map Zc) 27)])
  (λq=>q.1<=l.legs.length/\RI l p s0 day S0 q.2.2 q.2.1 (2 * q.1)) (λq=>l.legs.length - q.1) (0,false,S0) ⟨Nat.zero_le _,hR0⟩ ?_ ?_
 . (refine Zj ?_ ?_ ?_ rfl rfl<;>dsimp only [Zc,Zf,Zl,Zg,Zn,id,go_sem]<;>simp [Zc,Zf,Zl,Zg,Zn,Za])
 rintro ⟨i,ch,S⟩ ⟨hi,hI⟩;simp only at hi hI;dsimp only [go_sem];simp only [List.length_map];by_cases hlt:i < l.legs.length
 . refine Zq (by simpa using hlt) ?_;dsimp only [go_sem];refine Zo i hlt rfl ?_;dsimp only [Zl,go_sem];have hgl:GoodLeg l.legs[i]:=Y4 hok.land _ (List.getElem_mem _);have hends:=hok.ends (List.getElem_mem hlt);obtain ⟨wa,hwae⟩:∃ w:Nat,l.legs[i].a=(w:Int):=⟨l.legs[i].a.toNat,by omega⟩
   obtain ⟨wb,hwbe⟩:∃ w:Nat,l.legs[i].b=(w:Int):=⟨l.legs[i].b.toNat,by omega⟩
   have hx:l.legs[i]? = some l.legs[i]:=List.getElem?_eq_getElem hlt;have howawb:Zm l.legs[i] wa=wb:=by rw [Zm,if_pos hwae,hwbe]
   have howbwa:Zm l.legs[i] wb=wa:=by rw [Zm,if_neg (by omega),if_pos hwbe,hwae]
   refine Yy (λq:Nat × Bool × List Span=>[(16,I q.1),(13,B q.2.1)]) (λq=>[(2,.row v 2 (q.2.2.map Zc) 27)])
    (λq=>q.1<=2/\RI l p s0 day S0 q.2.2 q.2.1 (2 * i+q.1)) (λq=>2 - q.1) (0,ch,S) ⟨by omega,hI⟩ ?_ ?_
   . (refine Zj ?_ ?_ ?_ rfl rfl<;>dsimp only [Zc,Zf,Zl,Zg,Zn,id,go_sem]<;>simp [Zc,Zf,Zl,Zg,Zn,Za])
   clear hI;rintro ⟨side,ch,S⟩ ⟨hsd,hI⟩;simp only at hsd hI;dsimp only [go_sem];have hSl:=hI.len;have hwa:wa < S.length:=by omega
   have hwb:wb < S.length:=by omega
   have ina:=hI.in hok hd.1 hd.2 (by omega) (by omega) hwa;have inb:=hI.in hok hd.1 hd.2 (by omega) (by omega) hwb;have hx:l.legs[(2 * i+side) / 2]? = some l.legs[i]\/side=2:=by
    by_cases h2:side=2
    . exact .inr h2
    . rw [show (2 * i+side) / 2=i by omega];exact .inl hx
   by_cases h2:side=2
   . subst h2;refine Zr (by decide) ?_;dsimp only [go_sem];rw [Zh (n:=(i:Int)+1) (by omega) (by omega)];refine ⟨(i+1,ch,S),⟨hlt,hI⟩,by simp only;omega,?_⟩;(refine Zj ?_ ?_ ?_ rfl rfl<;>dsimp only [Zc,Zf,Zl,Zg,Zn,id,go_sem]<;>simp [Zc,Zf,Zl,Zg,Zn,Za])
   have hx:=hx.resolve_right h2;rcases (show side=0\/side=1 by omega) with rfl | rfl
   . refine Zq (by decide) ?_;dsimp only [go_sem];refine Zr (by decide) ?_;dsimp only [go_sem];simp only [hwae,hwbe,nbr];dsimp only [go_sem];try simp only [List.length_map]
     refine Wi wa rfl hwa ?_
     (repeat first | dsimp only [go_sem] | simp only [nbr])
     refine Zan hwa ?_
     (repeat first | dsimp only [Zc,go_sem] | simp only [nbr])
     have harr:=VW l.legs[i] p S[wa].lo S[wa].hi hgl hok.pace (by simp only [inR,decide_eq_true_eq];omega) (by simp only [inR,decide_eq_true_eq];omega);simp only [Zl,hwae,hwbe] at harr;refine call harr ?_
     (repeat first | dsimp only [go_sem] | simp only [nbr])
     try simp only [List.length_map]
     refine Wi wb rfl hwb ?_
     (repeat first | dsimp only [go_sem] | simp only [nbr])
     refine Zan hwb ?_
     (repeat first | dsimp only [Zc,go_sem] | simp only [nbr])
     repeat (refine gb ?_;(repeat first | dsimp only [go_sem] | simp only [nbr]))
     try simp only [List.length_map]
     refine Wi wb rfl hwb ?_
     (repeat first | dsimp only [go_sem] | simp only [nbr])
     repeat (refine gb ?_;(repeat first | dsimp only [go_sem] | simp only [nbr]))
     refine Zan hwb ?_
     (repeat first | dsimp only [Zc,go_sem] | simp only [nbr])
     repeat (refine gb ?_;(repeat first | dsimp only [go_sem] | simp only [nbr]))
     by_cases hn:ZB false l.legs[i] p S[wa].lo < S[wb].lo\/ZB true l.legs[i] p S[wa].hi < S[wb].hi
     . refine Zq (by simpa [Bool.or_eq_true] using hn) ?_
       (repeat first | dsimp only [go_sem] | simp only [nbr])
       try simp only [List.length_map]
       refine Wi wb rfl hwb ?_
       (repeat first | dsimp only [go_sem] | simp only [nbr])
       refine Zan hwb ?_
       (repeat first | dsimp only [Zc,go_sem] | simp only [nbr])
       try simp only [List.length_map]
       refine Wi wb rfl hwb ?_
       (repeat first | dsimp only [go_sem] | simp only [nbr])
       refine Zan hwb ?_
       (repeat first | dsimp only [Zc,go_sem] | simp only [nbr])
       try simp only [List.length_map]
       refine Wi wb rfl hwb ?_
       (repeat first | dsimp only [go_sem] | simp only [nbr])
       refine ZdM (⟨min S[wb].lo (ZB false l.legs[i] p S[wa].lo),min S[wb].hi (ZB true l.legs[i] p S[wa].hi)⟩:Span) hwb (by simp [Zc]) (by simp [Zc,Zu]) ?_
       (repeat first | dsimp only [go_sem] | simp only [nbr])
       have hst:=hI.improve hok hd.1 hd.2 (by omega) (by omega) hx (v:=wa) (w:=wb) howawb hwa hwb hn;generalize S.set wb ⟨min S[wb].lo (ZB false l.legs[i] p S[wa].lo),min S[wb].hi (ZB true l.legs[i] p S[wa].hi)⟩=S2 at hst ⊢;rw [Zh (n:=((0:Nat):Int)+1) (by omega) (by omega)];refine ⟨(0+1,true,S2),⟨by simp only;omega,hst⟩,by simp only;omega,?_⟩;(refine Zj ?_ ?_ ?_ rfl rfl<;>dsimp only [Zc,Zf,Zl,Zg,Zn,id,go_sem]<;>simp [Zc,Zf,Zl,Zg,Zn,Za])
     . refine Zr (by simpa [Bool.or_eq_false_iff,not_or] using hn) ?_
       (repeat first | dsimp only [go_sem] | simp only [nbr])
       have hst:=hI.calm hx (v:=wa) (w:=wb) (by simp [Zmb,hwae]) howawb hwa hwb hn;rw [Zh (n:=((0:Nat):Int)+1) (by omega) (by omega)];refine ⟨(0+1,ch,S),⟨by simp only;omega,hst⟩,by simp only;omega,?_⟩;(refine Zj ?_ ?_ ?_ rfl rfl<;>dsimp only [Zc,Zf,Zl,Zg,Zn,id,go_sem]<;>simp [Zc,Zf,Zl,Zg,Zn,Za])
   . refine Zq (by decide) ?_;dsimp only [go_sem];refine Zq (by decide) ?_;dsimp only [go_sem];simp only [hwae,hwbe,nbr];dsimp only [go_sem];try simp only [List.length_map]
     refine Wi wb rfl hwb ?_
     (repeat first | dsimp only [go_sem] | simp only [nbr])
     refine Zan hwb ?_
     (repeat first | dsimp only [Zc,go_sem] | simp only [nbr])
     have harr:=VW l.legs[i] p S[wb].lo S[wb].hi hgl hok.pace (by simp only [inR,decide_eq_true_eq];omega) (by simp only [inR,decide_eq_true_eq];omega);simp only [Zl,hwae,hwbe] at harr;refine call harr ?_
     (repeat first | dsimp only [go_sem] | simp only [nbr])
     try simp only [List.length_map]
     refine Wi wa rfl hwa ?_
     (repeat first | dsimp only [go_sem] | simp only [nbr])
     refine Zan hwa ?_
     (repeat first | dsimp only [Zc,go_sem] | simp only [nbr])
     repeat (refine gb ?_;(repeat first | dsimp only [go_sem] | simp only [nbr]))
     try simp only [List.length_map]
     refine Wi wa rfl hwa ?_
     (repeat first | dsimp only [go_sem] | simp only [nbr])
     repeat (refine gb ?_;(repeat first | dsimp only [go_sem] | simp only [nbr]))
     refine Zan hwa ?_
     (repeat first | dsimp only [Zc,go_sem] | simp only [nbr])
     repeat (refine gb ?_;(repeat first | dsimp only [go_sem] | simp only [nbr]))
     by_cases hn:ZB false l.legs[i] p S[wb].lo < S[wa].lo\/ZB true l.legs[i] p S[wb].hi < S[wa].hi
     . refine Zq (by simpa [Bool.or_eq_true] using hn) ?_
       (repeat first | dsimp only [go_sem] | simp only [nbr])
       try simp only [List.length_map]
       refine Wi wa rfl hwa ?_
       (repeat first | dsimp only [go_sem] | simp only [nbr])
       refine Zan hwa ?_
       (repeat first | dsimp only [Zc,go_sem] | simp only [nbr])
       try simp only [List.length_map]
       refine Wi wa rfl hwa ?_
       (repeat first | dsimp only [go_sem] | simp only [nbr])
       refine Zan hwa ?_
       (repeat first | dsimp only [Zc,go_sem] | simp only [nbr])
       try simp only [List.length_map]
       refine Wi wa rfl hwa ?_
       (repeat first | dsimp only [go_sem] | simp only [nbr])
       refine ZdM (⟨min S[wa].lo (ZB false l.legs[i] p S[wb].lo),min S[wa].hi (ZB true l.legs[i] p S[wb].hi)⟩:Span) hwa (by simp [Zc]) (by simp [Zc,Zu]) ?_
       (repeat first | dsimp only [go_sem] | simp only [nbr])
       have hst:=hI.improve hok hd.1 hd.2 (by omega) (by omega) hx (v:=wb) (w:=wa) howbwa hwb hwa hn;generalize S.set wa ⟨min S[wa].lo (ZB false l.legs[i] p S[wb].lo),min S[wa].hi (ZB true l.legs[i] p S[wb].hi)⟩=S2 at hst ⊢;rw [Zh (n:=((1:Nat):Int)+1) (by omega) (by omega)];refine ⟨(1+1,true,S2),⟨by simp only;omega,hst⟩,by simp only;omega,?_⟩;(refine Zj ?_ ?_ ?_ rfl rfl<;>dsimp only [Zc,Zf,Zl,Zg,Zn,id,go_sem]<;>simp [Zc,Zf,Zl,Zg,Zn,Za])
     . refine Zr (by simpa [Bool.or_eq_false_iff,not_or] using hn) ?_
       (repeat first | dsimp only [go_sem] | simp only [nbr])
       have hst:=hI.calm hx (v:=wb) (w:=wa) (by simp [Zmb,hwbe]) howbwa hwb hwa hn;rw [Zh (n:=((1:Nat):Int)+1) (by omega) (by omega)];refine ⟨(1+1,ch,S),⟨by simp only;omega,hst⟩,by simp only;omega,?_⟩;(refine Zj ?_ ?_ ?_ rfl rfl<;>dsimp only [Zc,Zf,Zl,Zg,Zn,id,go_sem]<;>simp [Zc,Zf,Zl,Zg,Zn,Za])
 refine Zr (by simp;omega) ?_;dsimp only [go_sem];have hie:i=l.legs.length:=by omega
 subst hie;refine ⟨(ch,S),⟨hI.again,λh=>?_⟩,?_,?_⟩
 . simp only at h;subst h;exact hI.done (by omega) hok hd.1 hd.2 (by omega) (by omega)
 . simp only;cases ch with
   | true=>have:=hI.dec rfl;simp;omega
   | false=>rw [(hI.same rfl).1];simp
 (refine Zj ?_ ?_ ?_ rfl rfl<;>dsimp only [Zc,Zf,Zl,Zg,Zn,id,go_sem]<;>simp [Zc,Zf,Zl,Zg,Zn,Za])
end Go.Proofs.YtiigiflofnjilaaGreat
namespace Go.Azalai
open Go.Sx
theorem X1 {l:Land} {p:Span} {to till:Int} {f:Nat} {been:List Int} {v t:Int} {j:Nat}:∀ (k:Nat),∃ R,Yq l p to till f been v t (j+k)=Yq l p to till f been v t j ++ R
 | 0=>⟨[],by simp⟩
 | k+1=>by
  obtain ⟨R,h⟩:=X1 k;exact ⟨R ++ Wh l p to till f been v t (j+k),by rw [<- Nat.add_assoc,Ya,h,List.append_assoc]⟩
theorem VF {l:Land} {p:Span} {to till:Int} {f:Nat} {been:List Int} {v t:Int} {j:Nat} {x:Leg} (hx:l.legs[j]? = some x) (h:Zm x v < 0\/Zm x v ∈ v :: been):Wh l p to till f been v t j=[]:=by
 simp only [Wh,hx];rw [if_pos h]
theorem VZ {l:Land} {p:Span} {to till:Int} {f:Nat} {been:List Int} {v t:Int} {j:Nat} {x:Leg} (hx:l.legs[j]? = some x) (h0:¬ Zm x v < 0) (h:Zm x v ∉ v :: been) :
 Wh l p to till f been v t j=(XW l p to till f (v :: been) (Zm x v) (ZB true x p t)).map (j :: ·):=by
 simp only [Wh,hx];rw [if_neg (λq=>q.elim h0 h)]
end Go.Azalai
namespace Go.Proofs.YtiigiflofnjilaaGreat
open Go Go.Sx Go.Azalai
def Wp (w:List Nat):List SV:=[ZS w]
def Zm6 (been:List Int) (L:List (Nat × Int × Bool)):Prop:=∀ u:Int,XX u L=if u ∈ been then some true else none
theorem Zot {L:List (Nat × Int × Bool)} {c:Nat} {v:Int} {b:Bool} (h:XX v L=none):Zad v (Za2 c v b L)=L:=by
 rw [Zbd h];have key:∀ (L:List (Nat × Int × Bool)),XX v L=none->Zad v (L ++ [(c,v,b)])=L:=by
  intro L
  induction L with
  | nil=>intro _;simp [Zad]
  | cons e L ih =>
   intro h;have hne:e.2.1≠v:=XR.1 h e (by simp);have hL:XX v L=none:=XR.2 λx hx=>XR.1 h x (by simp [hx]);have:=ih hL;obtain ⟨e1,e2,e3⟩:=e;simp only at hne;simp only [List.cons_append,Zad];rw [this];simp [hne,Ne.symm hne]
 exact key L h
end Go.Proofs.YtiigiflofnjilaaGreat
namespace Go.Azalai
open Go.Sx
def Xr (l:Land):Int->List Int->List Int->Option Int
 | v,_,[]=>some v
 | v,been,i :: r=>if W9 l i v < 0 then none else if W9 l i v ∈ been then none else Xr l (W9 l i v) (W9 l i v :: been) r
end Go.Azalai
namespace Go.Proofs.YtiigiflofnjilaaGreat
open Go Go.Sx Go.Azalai
theorem Zm6.set {been:List Int} {L:List (Nat × Int × Bool)} {c:Nat} {v:Int} (h:Zm6 been L):Zm6 (v :: been) (Za2 c v true L):=λu=>by
 rw [ZdD];by_cases hu:u=v
 . simp [hu]
 . rw [if_neg hu,h u];simp [hu]
def ZcF (n:Nat) (been:List Int):List Bool:=(List.range n).map λu:Nat=>decide ((u:Int) ∈ been)
theorem YP {n:Nat} {been:List Int}:(ZcF n been).length=n:=by simp [ZcF]
theorem WM {n u:Nat} {been:List Int} (h:u < (ZcF n been).length):(ZcF n been)[u]=decide ((u:Int) ∈ been):=by simp [ZcF]
theorem Zbv {n u:Nat} {been:List Int} (h:u < n):(ZcF n been).set u true=ZcF n ((u:Int) :: been):=by
 apply List.ext_getElem (by simp [YP]);intro i h1 h2;rw [List.getElem_set,WM];by_cases hi:u=i
 . subst hi;rw [if_pos rfl,WM];simp
 . rw [if_neg hi,WM];have:¬ (i:Int)=(u:Int):=by omega
   simp [this]
theorem Zmz {n:Nat}:ZcF n []=List.replicate n false:=by
 apply List.ext_getElem (by simp [YP]);intro i h1 h2;rw [WM];simp
theorem Zuj (s:Season) (hs:SmallS s) (hl:ZX s.land=true) (hp:ZY s.pace=true) (h0:0<=s.start/\s.start < s.land.wells.length) (legs:List Int) (hg:legs.length<=1000) (c:Bool) :
 Ct Tryz.prog 87 [.agg (Zs s),.sl c 1 (legs.map Zn)] (I ((Xr s.land s.start [s.start] legs).getD (-1))):=by
 have hw:=hs.land.1;have hlg:=hs.land.2.1;have hlp:OkLP s.land s.pace:=⟨hl,hp⟩
 refine t87.1 (by simp [Zs,Zi,Zf,Zl,Zg,Zc,Zn,Za]) (by simp) ?_;dsimp only [c87,r87,Zs,go_sem];simp only [List.length_map];refine ⟨s.land.wells.length,rfl,by omega,?_⟩;dsimp only [go_sem];obtain ⟨n0,hn0⟩:=Int.eq_ofNat_of_zero_le h0.1;have hb0:List.replicate s.land.wells.length [B false]=(ZcF s.land.wells.length []).map λb=>[B b]:=by rw [Zmz];simp
 rw [hb0];rw [hn0] at h0 ⊢;refine Wi n0 rfl (by simp [YP];omega) ?_;dsimp only [go_sem];refine ZdM true (by simp [YP];omega) (by simp) (by simp [Zu]) ?_;rw [Zbv (by omega)];dsimp only [go_sem];refine XE [1,2,4,5,6,7] rfl (λq:Nat × Int × List Int=>[(7,I q.1),(6,I q.2.1)]) (λq=>[(1,.row 0 1 ((ZcF s.land.wells.length q.2.2).map λb=>[B b]) 4)])
  (λq=>q.1<=legs.length/\Xr s.land q.2.1 q.2.2 (legs.drop q.1)=Xr s.land n0 [(n0:Int)] legs/\0<=q.2.1/\q.2.1 < s.land.wells.length)
  (λq=>legs.length - q.1) (0,n0,[(n0:Int)]) ⟨Nat.zero_le _,rfl,h0⟩ ?_ ?_
 . (refine Zj ?_ ?_ ?_ rfl rfl<;>dsimp only [Zg,Zf,Zl,Zi,Zc,Zn,id,go_sem]<;>simp [Zg,Zf,Zl,Zi,Zc,Zn,Za])
 rintro ⟨k,v,been⟩ ⟨hk,hi,hv⟩;simp only at hk hi hv;dsimp only [go_sem];simp only [List.length_map];by_cases hlt:k < legs.length
 case neg =>
  refine Zr (by simp;omega) ?_;dsimp only [go_sem];rw [<- hi,List.drop_eq_nil_of_le (by omega)];rfl
 refine Zq (by simpa using hlt) ?_;dsimp only [go_sem];refine Zo k hlt rfl ?_;dsimp only [Zn,go_sem];simp only [List.length_map];rw [Zh (n:=(s.land.legs.length:Int) - 1) (by omega) (by omega)];refine call (WI _ _ _) ?_;dsimp only [go_sem];rw [List.drop_eq_getElem_cons hlt,Xr] at hi;by_cases hr:inR 0 (s.land.legs.length - 1) legs[k]=true
 case neg =>
  refine Zq (by simpa using hr) ?_;dsimp only [go_sem];simp only [inR,decide_eq_true_eq] at hr;rw [if_pos (by rw [Zfu (by omega)];decide)] at hi;rw [<- hi];rfl
 refine Zr (by simpa using hr) ?_;dsimp only [go_sem];refine Zo k hlt rfl ?_;dsimp only [Zn,go_sem];simp only [inR,decide_eq_true_eq] at hr;obtain ⟨n,hn⟩:=Int.eq_ofNat_of_zero_le hr.1;rw [hn] at hr hi ⊢;have hnl:n < s.land.legs.length:=by omega
 refine Zo n hnl rfl ?_;dsimp only [Zl,go_sem];have hends:=hlp.ends (List.getElem_mem hnl);rw [Zck hnl] at hi;by_cases hva:v=s.land.legs[n].a
 . refine Zq (by simpa using hva) ?_;dsimp only [go_sem];rw [show Zm s.land.legs[n] v=s.land.legs[n].b from by unfold Zm;rw [if_pos hva.symm],if_neg (by omega)] at hi;have hoi:0<=s.land.legs[n].b/\s.land.legs[n].b < s.land.wells.length:=by omega
   obtain ⟨u,hu⟩:=Int.eq_ofNat_of_zero_le hoi.1;rw [hu] at hi hoi ⊢;refine Wi u rfl (by simp [YP];omega) ?_;dsimp only [go_sem];refine Zan (by simp [YP];omega) ?_;rw [WM];dsimp only [go_sem];by_cases hm:(u:Int) ∈ been
   . refine Zq (by simpa using hm) ?_;dsimp only [go_sem];rw [if_pos hm] at hi;rw [<- hi];rfl
   refine Zr (by simpa using hm) ?_;dsimp only [go_sem];rw [if_neg hm] at hi;refine Wi u rfl (by simp [YP];omega) ?_;dsimp only [go_sem];refine ZdM true (by simp [YP];omega) (by simp) (by simp [Zu]) ?_;rw [Zbv (by omega)];dsimp only [go_sem];rw [Zh (n:=(k:Int)+1) (by omega) (by omega)];refine ⟨(k+1,u,(u:Int) :: been),⟨hlt,hi,hoi⟩,by simp only;omega,?_⟩;(refine Zj ?_ ?_ ?_ rfl rfl<;>dsimp only [Zg,Zf,Zl,Zi,Zc,Zn,id,go_sem]<;>simp [Zg,Zf,Zl,Zi,Zc,Zn,Za])
 refine Zr (by simpa using hva) ?_;dsimp only [go_sem];by_cases hvb:v=s.land.legs[n].b
 case neg =>
  refine Zr (by simpa using hvb) ?_;dsimp only [go_sem];rw [if_pos (by unfold Zm;rw [if_neg (by omega),if_neg (by omega)];decide)] at hi;rw [<- hi];rfl
 refine Zq (by simpa using hvb) ?_;dsimp only [go_sem];rw [show Zm s.land.legs[n] v=s.land.legs[n].a from by unfold Zm;rw [if_neg (by omega),if_pos hvb.symm],if_neg (by omega)] at hi;have hoi:0<=s.land.legs[n].a/\s.land.legs[n].a < s.land.wells.length:=by omega
 obtain ⟨u,hu⟩:=Int.eq_ofNat_of_zero_le hoi.1;rw [hu] at hi hoi ⊢;refine Wi u rfl (by simp [YP];omega) ?_;dsimp only [go_sem];refine Zan (by simp [YP];omega) ?_;rw [WM];dsimp only [go_sem];by_cases hm:(u:Int) ∈ been
 . refine Zq (by simpa using hm) ?_;dsimp only [go_sem];rw [if_pos hm] at hi;rw [<- hi];rfl
 refine Zr (by simpa using hm) ?_;dsimp only [go_sem];rw [if_neg hm] at hi;refine Wi u rfl (by simp [YP];omega) ?_;dsimp only [go_sem];refine ZdM true (by simp [YP];omega) (by simp) (by simp [Zu]) ?_;rw [Zbv (by omega)];dsimp only [go_sem];rw [Zh (n:=(k:Int)+1) (by omega) (by omega)];refine ⟨(k+1,u,(u:Int) :: been),⟨hlt,hi,hoi⟩,by simp only;omega,?_⟩;(refine Zj ?_ ?_ ?_ rfl rfl<;>dsimp only [Zg,Zf,Zl,Zi,Zc,Zn,id,go_sem]<;>simp [Zg,Zf,Zl,Zi,Zc,Zn,Za])
end Go.Proofs.YtiigiflofnjilaaGreat
namespace Go.Azalai
open Go.Sx
def U9 (s:Season) (p:Plan):Bool:=(Xr s.land s.start [s.start] p.legs).isSome && inR 0 s.herd p.animals && inR 0 12 p.slabs
def Zy (s:Season) (legs:List Int):List Stop:=(YK s.land s.pace s.start s.day legs).1
def Zer (l:List Stop):Stop:=l.getLast?.getD ⟨0,0,⟨0,0⟩,⟨0,0⟩⟩
def X7 (s:Season) (legs:List Int):Bool:=decide ((YK s.land s.pace s.start s.day legs).2.2=0) && (decide ((Zy s legs).length=0) || decide ((Zer (Zy s legs)).arrives.hi<=s.till))
theorem Zha {l:Land} {p:Span} (hg:OkLP l p):∀ {legs:List Int} {v:Int} {been:List Int} {u:Int},0<=v/\v < l.wells.length->Xr l v been legs=some u->0<=u/\u < l.wells.length
 | [],v,_,u,hv,h=>by simp only [Xr,Option.some.injEq] at h;subst h;exact hv
 | i :: r,v,been,u,hv,h=>by
  simp only [Xr] at h;split at h
  . cases h
  rename_i he;split at h
  . cases h
  obtain ⟨k,x,_,_,hx,_,e⟩:=ZaK he;rw [e] at he h;exact Zha hg (Yc hg hx he).1 h
theorem ZbR {l:List Stop} (h:l.length≠0):l[l.length - 1]? = some (Zer l):=by
 unfold Zer;rw [List.getLast?_eq_getElem?];rw [List.getElem?_eq_getElem (by omega)];rfl
theorem ZmX {l:Land} {p:Span}:∀ {legs:List Int} {v a b:Int} {k:Nat} {acc:List Stop},(goS l p v a b legs k acc).2.2≠0->(goS l p v a b legs k acc).1=[]
 | [],_,_,_,_,_,h=>by simp [goS] at h
 | i :: r,v,a,b,k,acc,h=>by
  simp only [goS] at h ⊢;split
  . rfl
  . rename_i x hx;rw [hx] at h;simp only at h;split
    . rfl
    . rename_i hn;rw [if_neg hn] at h;exact ZmX h
theorem ZiO {l:Land} {p:Span}:∀ {legs:List Int} {v a b:Int} {k:Nat} {acc:List Stop},(goS l p v a b legs k acc).1.length<=acc.length+legs.length
 | [],_,_,_,_,_=>by simp [goS]
 | i :: r,v,a,b,k,acc=>by
  simp only [goS];split
  . simp
  . split
    . simp
    . refine Nat.le_trans ZiO ?_;simp;omega
theorem VG {l:Land} {p:Span} {s d:Int} {legs:List Int}:(YK l p s d legs).1.length<=legs.length:=by
 unfold YK;split
 . simp
 split
 . simp
 split
 . simp
 split
 . simp
 refine Nat.le_trans ZiO (by simp)
theorem ZmN {l:Land} {p:Span} {s d:Int} {legs:List Int} (h:(YK l p s d legs).2.2≠0):(YK l p s d legs).1=[]:=by
 unfold YK at h ⊢;split
 . rfl
 rename_i h1;rw [if_neg h1] at h;split
 . rfl
 rename_i h2;rw [if_neg h2] at h;split
 . rfl
 rename_i h3;rw [if_neg h3] at h;split
 . rfl
 rename_i h4;rw [h4] at h;exact ZmX h
end Go.Azalai
namespace Go.Proofs.YtiigiflofnjilaaGreat
open Go Go.Sx Go.Azalai
structure OkS (s:Season):Prop where
 small:SmallS s
 ok:ZZ s=true
theorem OkS.land {s:Season} (h:OkS s):ZX s.land=true:=by have:=h.ok;simp only [ZZ,Bool.and_eq_true] at this;exact this.1.1.1.1.1.1
theorem OkS.pace {s:Season} (h:OkS s):ZY s.pace=true:=by have:=h.ok;simp only [ZZ,Bool.and_eq_true] at this;exact this.1.1.1.1.1.2
theorem OkS.lp {s:Season} (h:OkS s):OkLP s.land s.pace:=⟨h.land,h.pace⟩
theorem OkS.beast {s:Season} (h:OkS s):ZA s.breed=true/\Zz s.breed s.camel=true:=by
 have:=h.ok;simp only [ZZ,Bool.and_eq_true,decide_eq_true_eq] at this;exact Cm.errC_0.1 this.1.1.1.1.2
theorem OkS.num {s:Season} (h:OkS s):1<=s.herd/\s.herd<=30/\1<=s.hours/\s.hours<=24/\1<=s.slab/\s.slab<=1000000/\0<=s.cost/\s.cost<=1000000/\0<=s.sale/\s.sale<=1000000/\0<=s.day/\s.day<=s.till/\s.till<=100000:=by
 have:=h.ok;simp only [ZZ,Zba,inR,Bool.and_eq_true,decide_eq_true_eq] at this;omega
theorem OkS.start {s:Season} (h:OkS s):0<=s.start/\s.start < s.land.wells.length:=by
 have:=h.ok;simp only [ZZ,inR,Bool.and_eq_true,decide_eq_true_eq] at this;omega
theorem OkS.scs {s:Season} (h:OkS s):1<=s.scenes.length/\s.scenes.length<=4:=by
 have:=h.ok;simp only [ZZ,inR,Bool.and_eq_true,decide_eq_true_eq] at this;omega
theorem OkS.scene {s:Season} (h:OkS s):∀ x ∈ s.scenes,YB s.land.wells.length x=true:=by
 have:=h.ok;simp only [ZZ,Bool.and_eq_true,List.all_eq_true] at this;exact this.2
theorem ZA2 (s:Season) (h:OkS s) (legs:List Int) (hg:legs.length<=1000) (c:Bool) {f:Nat}
 (hc:Ct Tryz.prog f [.agg (Zt s.land),I s.start,I s.day,.agg (Zc s.pace),.sl c 1 (legs.map Zn)] (Ve (YK s.land s.pace s.start s.day legs))) :
 Ct Tryz.prog f [.agg (Zt s.land),I s.start,I s.day,.agg (Zc s.pace),.sl c 1 (legs.map Zn)] (.tup [.sl false 6 ((Zy s legs).map Zw),I (YK s.land s.pace s.start s.day legs).2.1,I (YK s.land s.pace s.start s.day legs).2.2]):=by
 unfold Ve YM at hc;split at hc
 . exact hc
 . rename_i he;refine hc.res (by simp [Za,Zw]) ?_;rw [Zy,ZmN he];exact W7 (ZC Yk XK)
theorem ZqE (s:Season) (h:OkS s) (legs:List Int) (hg:legs.length<=1000) (c:Bool):Ct Tryz.prog 90 [.agg (Zs s),.sl c 1 (legs.map Zn)] (.tup [.sl false 6 ((Zy s legs).map Zw),B (X7 s legs)]):=by
 refine t90.1 (by simp [Zs,Zi,Zf,Zl,Zg,Zc,Zn,Za]) (by simp [Za,Zw]) ?_;dsimp only [c90,r90,Zs,go_sem];refine call (ZA2 s h legs hg c (Znz s.land h.small.land s.start s.day s.pace legs hg c)) ?_;dsimp only [go_sem];repeat (refine gb ?_;dsimp only [go_sem])
 have hlen:(Zy s legs).length<=1000:=Nat.le_trans VG hg;simp only [List.length_map];refine ZgB ((Zy s legs).length - 1) (Zw (Zer (Zy s legs))) rfl (λhb=>?_) ?_
 . have hz:(Zy s legs).length≠0:=by simpa using hb
   rw [Zh (by omega) (by omega)];exact ⟨by omega,by rw [List.getElem?_map,ZbR hz];rfl⟩
 dsimp only [Zw,go_sem];repeat (refine gb ?_;dsimp only [go_sem])
 have:((YK s.land s.pace s.start s.day legs).2.2 == 0 && (((Zy s legs).length:Int) == 0 || decide ((Zer (Zy s legs)).arrives.hi<=s.till)))=X7 s legs:=by
  have h1:(((Zy s legs).length:Int) == 0)=decide ((Zy s legs).length=0):=by rw [Bool.eq_iff_iff];simp
  simp only [X7,h1];rfl
 rw [this]
theorem ZuG (s:Season) (h:OkS s) (legs:List Int) (hg:legs.length<=1000) (c:Bool):Ct Tryz.prog 62 [.agg (Zs s),.sl c 1 (legs.map Zn)] (.tup [.sl false 6 ((Zy s legs).map Zw),B (X7 s legs)]):=by
 refine t62.1 (by simp [Zs,Zi,Zf,Zl,Zg,Zc,Zn,Za]) (by simp [Za,Zw]) ?_;dsimp only [c62,r62,Zs,go_sem];refine call (ZA2 s h legs hg c (ZpP s.land h.small.land s.start s.day s.pace legs hg c)) ?_;dsimp only [go_sem];repeat (refine gb ?_;dsimp only [go_sem])
 have hlen:(Zy s legs).length<=1000:=Nat.le_trans VG hg;simp only [List.length_map];refine ZgB ((Zy s legs).length - 1) (Zw (Zer (Zy s legs))) rfl (λhb=>?_) ?_
 . have hz:(Zy s legs).length≠0:=by simpa using hb
   rw [Zh (by omega) (by omega)];exact ⟨by omega,by rw [List.getElem?_map,ZbR hz];rfl⟩
 dsimp only [Zw,go_sem];repeat (refine gb ?_;dsimp only [go_sem])
 have:((YK s.land s.pace s.start s.day legs).2.2 == 0 && (((Zy s legs).length:Int) == 0 || decide ((Zer (Zy s legs)).arrives.hi<=s.till)))=X7 s legs:=by
  have h1:(((Zy s legs).length:Int) == 0)=decide ((Zy s legs).length=0):=by rw [Bool.eq_iff_iff];simp
  simp only [X7,h1];rfl
 rw [this]
end Go.Proofs.YtiigiflofnjilaaGreat
namespace Go.Sx
open Go Go.RowKit
section
variable {K V:Type} [DecidableEq K] {k k':K} {v v0:V} {c:Nat} {L:List (Nat × K × V)}
end
section
variable {P:Program} {K' V:Type} [DecidableEq K'] {key:K'->Value} {sv:K'->SV} {val:V->SV} {L:List (Nat × K' × V)} {km c:Nat} {kt et t ty:TypeId} {mx ix vx sx:Operand} {σ : St} {r:KT} {K:RK} {d:Option Nat} {k:K'}
end
section
variable {P:Program} {ty T T':TypeId} {ix jx:Operand} {σ : St} {r:KT} {K:RK} {d:Option Nat} {s:SV}
def Zeh (P:Program) (T:TypeId):Bool :=
 match P.underlying T with
 | some (.interface _)=>false
 | some _=>true
 | none=>false
theorem Zm4 (hT:Zeh P T=true) (hi:ZaJ σ ix=s) (hg:∀ j b u,s≠.gd j b u) (h:YD d (.ifc T s) none σ r K):RAW P d (.makeInterface T ix) ty σ r K:=by
 intro o C E a w next Q e1 e2 e3 hS hn hq;have hiv:=Vx hS hi hg;have hx:(execOp a.eval o).run P w = .ok (.value (.iface T (a.eval ix))) w:=by
  obtain ⟨dst',op',ty',pos,after,guard⟩:=o;simp only at e2;subst e2;unfold Zeh at hT;cases hu:P.underlying T with
  | none=>rw [hu] at hT;cases hT
  | some u =>
   rw [hu] at hT;cases u<;>first | exact absurd hT Bool.false_ne_true | simp [execOp,Sem.run_bind,Instr.makeInterface,run_underlying hu,Result.andThen_ok,Sem.run_pure]
 refine ZM hx (by simp) ?_;show next (a.put o.dst _) _;rw [e1];refine W4 h hS ?_ hn;simp only [R];exact ⟨_,rfl,hiv⟩
theorem Znd (hi:ZaJ σ ix = .ifc T s) (h:K (.pan (.ifc T s)) σ):RAW P d (.panic ix) ty σ r K:=by
 intro o C E a w next Q e1 e2 e3 hS hn hq;have hiv:=Vx hS hi (λ_ _ _=>by simp);simp only [R] at hiv;obtain ⟨x,hx,hR⟩:=hiv;have hy:(execOp a.eval o).run P w = .halt (.panic (.iface T x)) w:=by
  obtain ⟨dst',op',ty',pos,after,guard⟩:=o;simp only at e2;subst e2;simp [execOp,Sem.run_bind,hx,Instr.panic,goPanic,Result.andThen]
 exact Zi5 hy (by rw [e2];simp) (hq _ _ _ _ _ h hS (by simp only [R];exact ⟨x,rfl,hR⟩))
theorem ZbQ (hT:Zeh P T=true) (hi:ZaJ σ ix = .ifc T s) (h:YD d (.tup [s,.v (.bool true)]) none σ r K):RAW P d (.typeAssert ix T' T true) ty σ r K:=by
 intro o C E a w next Q e1 e2 e3 hS hn hq;have hiv:=Vx hS hi (λ_ _ _=>by simp);simp only [R] at hiv;obtain ⟨x,hx,hR⟩:=hiv;have hy:(execOp a.eval o).run P w = .ok (.value (.tuple #[x,.bool true])) w:=by
  obtain ⟨dst',op',ty',pos,after,guard⟩:=o;simp only at e2;subst e2;unfold Zeh at hT;cases hu:P.underlying T with
  | none=>rw [hu] at hT;cases hT
  | some u =>
   rw [hu] at hT;cases u<;>first | exact absurd hT Bool.false_ne_true | simp [execOp,Sem.run_bind,hx,Instr.typeAssert,run_underlying hu,Result.andThen_ok,Sem.run_pure]
 refine ZM hy (by simp) ?_;show next (a.put o.dst _) _;rw [e1];refine W4 h hS ?_ hn;simp only [R,RL];exact ⟨_,rfl,_,_,rfl,hR,_,_,rfl,rfl,rfl⟩
end
section
variable {K V:Type} [DecidableEq K] {P:Program} {key:K->Value} {sv:K->SV} {val:V->SV} {L:List (Nat × K × V)} {km c:Nat} {kt et t:TypeId} {σ : St} {k:K} {i j:Nat} {ok:Bool} {zs:SV} {z:Value} {v:V}
end
end Go.Sx
namespace Go.Azalai
open Go.Sx
def Zal (s:Season) (x:Scene) (slabs:Int):March:=⟨s.hours,slabs * s.slab,x.heat,x.grass,⟨0,0⟩⟩
def Ze4 (b:Breed) (c:Camel):Span:=if ZaG b c=0 then Zs7 b c else Wo
def Zij (a b:Span):Span:=⟨min a.lo b.lo,max a.hi b.hi⟩
def Zfe (a b:Camel):Camel:=⟨Zij a.water b.water,Zij a.fat b.fat,Zij a.sore b.sore,a.milks⟩
def U1 (b:Breed) (m:March) (lo:Int):Nat->Nat->Camel->Camel->Camel × Int
 | 0,_,_,out=>(out,0)
 | j+1,n,c,out =>
  if m.load > (Ze4 b c).lo then (YE,2)
  else if (YW b c m).2.2≠0\/(YW b c m).2.1≠0 then (YE,3)
  else U1 b m lo j (n+1) (YW b c m).1 (if (n:Int)+1=lo then (YW b c m).1 else if (n:Int)+1 > lo then Zfe out (YW b c m).1 else out)
def Y1 (s:Season) (x:Scene) (d:Span) (slabs:Int) (c:Camel):Camel × Int:=U1 s.breed (Zal s x slabs) d.lo d.hi.toNat 0 c YE
end Go.Azalai
namespace Go.Proofs.YtiigiflofnjilaaGreat
open Go Go.Sx Go.Azalai
abbrev camelL:=Cm.camelL
abbrev U8 (n:Int):SV:=.v (.int .u8 n)
def YG (s:Season) (k:Int):List SV :=
 [.sl false 9 (s.land.wells.map Zf),.sl false 5 (s.land.legs.map Zl),I s.pace.lo,I s.pace.hi,
  I s.breed.full,I s.breed.fed,I s.breed.rest.lo,I s.breed.rest.hi,I s.breed.heat.lo,I s.breed.heat.hi,I s.breed.toil.lo,I s.breed.toil.hi,I s.breed.burn.lo,I s.breed.burn.hi,I s.breed.rub.lo,I s.breed.rub.hi,I s.breed.milk.lo,I s.breed.milk.hi,I s.breed.heal,I s.breed.strong.lo,I s.breed.strong.hi,
  I s.camel.water.lo,I s.camel.water.hi,I s.camel.fat.lo,I s.camel.fat.hi,I s.camel.sore.lo,I s.camel.sore.hi,B s.camel.milks,
  I s.herd,I s.hours,I s.slab,I s.cost,I s.sale,I s.start,I s.day,I s.till,.sl false 6 (s.scenes.map Zi),I k]
theorem ZdJ (a b:Span):Ct Tryz.prog 151 [.agg (Zc a),.agg (Zc b)] (.agg (Zc (Zij a b))):=by
 refine t151.1 (by simp [Zc]) (by simp [Zc]) ?_;dsimp only [c151,r151,Zc,go_sem];rfl
theorem Zfi (a b:Span) (c:Bool):Ct Tryz.prog 172 [.agg (Zc a),.sl c 2 [[I b.lo,I b.hi]]] (.agg (Zc (Zij a b))):=by
 refine t172.1 ⟨by simp [KF,KFL,Zc],by simp [KF,KFR,KFL],trivial⟩ (by simp [Zc]) ?_;dsimp only [c172,r172,Zc,go_sem];refine Xt 2 ?_;dsimp only [Zd,go_sem];refine Zq (by decide) ?_;dsimp only [go_sem];refine ixs 0 [I b.lo,I b.hi] rfl rfl ?_;dsimp only [go_sem];refine Zr (by decide) ?_;dsimp only [go_sem];rfl
theorem Zn5 (s:Season) (x:Scene) (c:Camel) (d:Span) (slabs:Int) (hn:0<=slabs/\slabs<=12) (hs:0<=s.slab/\s.slab<=1000000) (hd:d.hi<=1000000000) :
 Ct Tryz.prog 107 [.agg (Zs s),.agg (Zi x),.agg (camelL c),.agg (Zc d),I slabs] (.tup [.agg (camelL (Y1 s x d slabs c).1),U8 (Y1 s x d slabs c).2]):=by
 have hb:0<=slabs * s.slab/\slabs * s.slab<=12 * 1000000:=⟨Int.mul_nonneg hn.1 hs.1,Int.mul_le_mul hn.2 hs.2 hs.1 (by decide)⟩
 refine t107.1 (by simp [Zs,Zi,Zf,Zl,Zg,Zc,Zn,Cm.camelL,Za,KFL,KF]) (by simp [Cm.camelL,KFL,KF]) ?_;dsimp only [c107,r107,Zs,Zi,Zc,Cm.camelL,go_sem];rw [Zh (n:=slabs * s.slab) (by omega) (by omega)];refine XE [5,7,8,10,11,12,13,14] rfl (λq:Nat × Camel × Camel=>[(14,I (q.1+1))]) (λq=>[(2,.cells (Cm.camelL q.2.1) 31),(6,.cells (Cm.camelL q.2.2) 31)])
  (λq=>q.1<=d.hi.toNat/\U1 s.breed (Zal s x slabs) d.lo (d.hi.toNat - q.1) q.1 q.2.1 q.2.2=Y1 s x d slabs c) (λq=>d.hi.toNat - q.1) (0,c,YE) ⟨Nat.zero_le _,rfl⟩ ?_ ?_
 . (refine Zj ?_ ?_ ?_ rfl rfl<;>dsimp only [Cm.camelL,YE,Wo,Zg,Zf,Zl,Zi,Zc,Zn,mtL,mtB,mtS,id,go_sem]<;>simp [Cm.camelL,YE,Wo,Zg,Zf,Zl,Zi,Zc,Zn,mtL,mtB,mtS,Za])
 rintro ⟨n,c,out⟩ ⟨hk,hi⟩;simp only at hk hi;dsimp only [Cm.camelL,go_sem];by_cases hlt:n < d.hi.toNat
 case neg =>
  refine Zr (by simp;omega) ?_;dsimp only [go_sem];rw [<- hi,show d.hi.toNat - n=0 from by omega];rfl
 refine Zq (by simp;omega) ?_;dsimp only [go_sem];refine call (Cm.carriesR_ok s.breed c) ?_;dsimp only [Cm.sres,Zc,go_sem];rw [show (if ZaG s.breed c=0 then Zs7 s.breed c else Wo)=Ze4 s.breed c from rfl];have hj:d.hi.toNat - n=(d.hi.toNat - (n+1))+1:=by omega
 rw [hj,U1] at hi;by_cases hw:(Zal s x slabs).load > (Ze4 s.breed c).lo
 . refine Zq (decide_eq_true hw) ?_;dsimp only [go_sem];rw [<- hi,if_pos hw];rfl
 refine Zr (decide_eq_false hw) ?_;dsimp only [go_sem];rw [if_neg hw] at hi;refine call (Cm.after2_ok s.breed c (Zal s x slabs)) ?_;generalize YW s.breed c (Zal s x slabs)=r at hi ⊢;dsimp only [Cm.camelL,go_sem];repeat (refine gb ?_;dsimp only [go_sem])
 by_cases hf:r.2.2≠0\/r.2.1≠0
 . refine Zq (by simp [bne];omega) ?_;dsimp only [go_sem];rw [<- hi,if_pos hf];rfl
 refine Zr (by simp [bne];omega) ?_;dsimp only [go_sem];rw [if_neg hf] at hi;by_cases hl:(n:Int)+1=d.lo
 . refine Zq (by simpa using hl) ?_;dsimp only [go_sem];rw [if_pos hl] at hi;refine Zr (by simp;omega) ?_;dsimp only [go_sem];rw [Zh (n:=(n:Int)+1+1) (by omega) (by omega)];refine ⟨(n+1,r.1,r.1),⟨hlt,hi⟩,by simp only;omega,?_⟩;(refine Zj ?_ ?_ ?_ rfl rfl<;>dsimp only [Cm.camelL,YE,Wo,Zg,Zf,Zl,Zi,Zc,Zn,mtL,mtB,mtS,id,go_sem]<;>simp [Cm.camelL,YE,Wo,Zg,Zf,Zl,Zi,Zc,Zn,mtL,mtB,mtS,Za])
 refine Zr (by simpa using hl) ?_;dsimp only [go_sem];rw [if_neg hl] at hi;by_cases hm:(n:Int)+1 > d.lo
 . refine Zq (by simpa using hm) ?_;dsimp only [go_sem];rw [if_pos hm] at hi;refine call (ZdJ out.water r.1.water) ?_;dsimp only [go_sem];refine call (ZdJ out.fat r.1.fat) ?_;dsimp only [go_sem];refine call (ZdJ out.sore r.1.sore) ?_;dsimp only [Zc,go_sem];rw [Zh (n:=(n:Int)+1+1) (by omega) (by omega)];refine ⟨(n+1,r.1,Zfe out r.1),⟨hlt,hi⟩,by simp only;omega,?_⟩;(refine Zj ?_ ?_ ?_ rfl rfl<;>dsimp only [Cm.camelL,Zfe,YE,Wo,Zg,Zf,Zl,Zi,Zc,Zn,mtL,mtB,mtS,id,go_sem]<;>simp [Cm.camelL,Zfe,YE,Wo,Zg,Zf,Zl,Zi,Zc,Zn,mtL,mtB,mtS,Za])
 refine Zr (by simp;omega) ?_;dsimp only [go_sem];rw [if_neg hm] at hi;rw [Zh (n:=(n:Int)+1+1) (by omega) (by omega)];refine ⟨(n+1,r.1,out),⟨hlt,hi⟩,by simp only;omega,?_⟩;(refine Zj ?_ ?_ ?_ rfl rfl<;>dsimp only [Cm.camelL,YE,Wo,Zg,Zf,Zl,Zi,Zc,Zn,mtL,mtB,mtS,id,go_sem]<;>simp [Cm.camelL,YE,Wo,Zg,Zf,Zl,Zi,Zc,Zn,mtL,mtB,mtS,Za])
theorem Zdt:Zeh Tryz.prog 117=true:=by kernel_rfl
def XT (why at_:Int):Ot:=⟨true,.ifc 117 (.agg [U8 why,I at_]),[],0⟩
theorem U2 (w k:Int):CtM Tryz.prog 91 [] 0 [B true,U8 w,I k] (λo=>o=⟨false,.tup [],[],0⟩):=by
 refine m91 (by simp [hpb]) (λo ho=>by subst ho;simp [KX,KXL,KXP]) ?_;dsimp only [c91,r91,go_sem];refine Zr rfl ?_;dsimp only [go_sem];refine ⟨_,rfl,?_⟩;(refine Yb ?_ ?_ ?_ rfl<;>dsimp only [id,go_sem]<;>simp [Za])
theorem Zb8 (w k:Int):CtM Tryz.prog 91 [] 0 [B false,U8 w,I k] (λo=>o=XT w k):=by
 refine m91 (by simp [hpb]) (λo ho=>by subst ho;simp [XT,KX,KXL,KXP]) ?_;dsimp only [c91,r91,go_sem];refine Zq rfl ?_;dsimp only [go_sem];refine Zm4 (s:=.agg [U8 w,I k]) Zdt rfl (λ_ _ _ e=>by cases e) ?_;dsimp only [go_sem];refine Znd rfl ?_;dsimp only [go_sem];refine ⟨_,rfl,?_⟩;(refine Yb ?_ ?_ ?_ rfl<;>dsimp only [XT,id,go_sem]<;>simp [XT,Za])
theorem Zi6 (s:Season) (k:Nat) (hk:k < s.scenes.length):Ct Tryz.prog 156 [.agg (YG s k)] (.agg (Zi s.scenes[k])):=by
 refine t156.1 (by simp [YG,Zi,Zf,Zl,Zg,Zc,Zn,Za]) (by simp [Zi,Zc,Zn,Za]) ?_;dsimp only [c156,r156,YG,go_sem];refine Zo k hk rfl ?_;dsimp only [Zi,go_sem]
def ZbK (at_:Int) (r:Camel × Int):Ot:=if r.2=0 then ⟨false,.agg (camelL r.1),[],0⟩ else XT r.2 at_
theorem Zpa (s:Season) (k:Nat) (hk:k < s.scenes.length) (at_:Int) (c:Camel) (d:Span) (slabs:Int) (hn:0<=slabs/\slabs<=12) (hs:0<=s.slab/\s.slab<=1000000) (hd:d.hi<=1000000000) :
 CtM Tryz.prog 164 [] 0 [.agg (YG s k),I at_,.agg (camelL c),.agg (Zc d),I slabs] (λo=>o=ZbK at_ (Y1 s s.scenes[k] d slabs c)):=by
 have hb:0<=slabs * s.slab/\slabs * s.slab<=12 * 1000000:=⟨Int.mul_nonneg hn.1 hs.1,Int.mul_le_mul hn.2 hs.2 hs.1 (by decide)⟩
 refine m164 (by simp [hpb]) (λo ho=>by subst ho;unfold ZbK;split<;>simp [XT,Cm.camelL,KX,KXL,KXP]) ?_;dsimp only [c164,r164,Zc,Cm.camelL,YG,go_sem];refine call (Zi6 s k hk) ?_;dsimp only [Zi,go_sem];refine call (Zi6 s k hk) ?_;dsimp only [Zi,go_sem];rw [Zh (n:=slabs * s.slab) (by omega) (by omega)];refine XE [1,5,7,8,10,11,12,13,35,36] rfl (λq:Nat × Camel × Camel=>[(36,I q.1)]) (λq=>[(1,.cells (Cm.camelL q.2.1) 31),(5,.cells (Cm.camelL q.2.2) 31)])
  (λq=>q.1<=d.hi.toNat/\U1 s.breed (Zal s s.scenes[k] slabs) d.lo (d.hi.toNat - q.1) q.1 q.2.1 q.2.2=Y1 s s.scenes[k] d slabs c) (λq=>d.hi.toNat - q.1) (0,c,YE) ⟨Nat.zero_le _,rfl⟩ ?_ ?_
 . (refine Zj ?_ ?_ ?_ rfl rfl<;>dsimp only [Cm.camelL,YE,Wo,Zg,Zf,Zl,Zi,Zc,Zn,mtL,mtB,mtS,id,go_sem]<;>simp [Cm.camelL,YE,Wo,Zg,Zf,Zl,Zi,Zc,Zn,mtL,mtB,mtS,Za])
 rintro ⟨n,c,out⟩ ⟨hk',hi⟩;simp only at hk' hi;dsimp only [Cm.camelL,go_sem];by_cases hlt:n < d.hi.toNat
 case neg =>
  refine Zr (by simp;omega) ?_;dsimp only [go_sem];rw [show d.hi.toNat - n=0 from by omega,U1] at hi;rw [<- hi];refine ⟨_,rfl,?_⟩;simp only [ZbK,if_true];(refine Yb ?_ ?_ ?_ rfl<;>dsimp only [Cm.camelL,mtL,mtB,mtS,id,go_sem]<;>simp [Cm.camelL,mtL,mtB,mtS,Za])
 refine Zq (by simp;omega) ?_;dsimp only [go_sem];refine call (Cm.carries_ok s.breed c) ?_;dsimp only [Cm.sres,Zc,go_sem];rw [show (if ZaG s.breed c=0 then Zs7 s.breed c else Wo)=Ze4 s.breed c from rfl];have hj:d.hi.toNat - n=(d.hi.toNat - (n+1))+1:=by omega
 rw [hj,U1] at hi;by_cases hw:(Zal s s.scenes[k] slabs).load > (Ze4 s.breed c).lo
 . rw [show decide (slabs * s.slab<=(Ze4 s.breed c).lo)=false from decide_eq_false (by have:slabs * s.slab > (Ze4 s.breed c).lo:=hw;omega)];refine Y7 [] (Zb8 2 at_) rfl rfl rfl ?_ ?_ ?_
   . (repeat first | dsimp only [go_sem] | simp only [nbr])
     try simp [mtL,mtB,mtS]
   . trivial
   rintro _ rfl
   (repeat first | dsimp only [XT,go_sem] | simp only [nbr])
   rw [<- hi,if_pos hw];refine ⟨_,rfl,?_⟩;simp only [ZbK];(refine Yb ?_ ?_ ?_ rfl<;>dsimp only [XT,id,go_sem]<;>simp [XT,Za])
 rw [show decide (slabs * s.slab<=(Ze4 s.breed c).lo)=true from decide_eq_true (by have:¬ slabs * s.slab > (Ze4 s.breed c).lo:=hw;omega)];refine Y7 [] (U2 2 at_) rfl rfl rfl ?_ ?_ ?_
 . (repeat first | dsimp only [go_sem] | simp only [nbr])
   try simp [mtL,mtB,mtS]
 . trivial
 rintro _ rfl
 (repeat first | dsimp only [go_sem] | simp only [nbr])
 rw [if_neg hw] at hi;refine call (Cm.after1_ok s.breed c (Zal s s.scenes[k] slabs)) ?_;generalize YW s.breed c (Zal s s.scenes[k] slabs)=r at hi ⊢;dsimp only [Cm.camelL,Cm.U8,go_sem];repeat (refine gb ?_;dsimp only [go_sem])
 by_cases hf:r.2.2≠0\/r.2.1≠0
 . rw [show (r.2.2 == 0 && r.2.1 == 0)=false from by simp;omega];refine Y7 [] (Zb8 3 at_) rfl rfl rfl ?_ ?_ ?_
   . (repeat first | dsimp only [go_sem] | simp only [nbr])
     try simp [mtL,mtB,mtS]
   . trivial
   rintro _ rfl
   (repeat first | dsimp only [XT,go_sem] | simp only [nbr])
   rw [<- hi,if_pos hf];refine ⟨_,rfl,?_⟩;simp only [ZbK];(refine Yb ?_ ?_ ?_ rfl<;>dsimp only [XT,id,go_sem]<;>simp [XT,Za])
 rw [show (r.2.2 == 0 && r.2.1 == 0)=true from by simp;omega];refine Y7 [] (U2 3 at_) rfl rfl rfl ?_ ?_ ?_
 . (repeat first | dsimp only [go_sem] | simp only [nbr])
   try simp [mtL,mtB,mtS]
 . trivial
 rintro _ rfl
 (repeat first | dsimp only [go_sem] | simp only [nbr])
 rw [if_neg hf] at hi;rw [Zh (n:=(n:Int)+1) (by omega) (by omega)];by_cases hl:(n:Int)+1=d.lo
 . refine Zq (by simpa using hl) ?_;dsimp only [go_sem];rw [if_pos hl] at hi;try rw [Zh (n:=(n:Int)+1) (by omega) (by omega)]
   refine ⟨(n+1,r.1,r.1),⟨hlt,hi⟩,by simp only;omega,?_⟩;(refine Zj ?_ ?_ ?_ rfl rfl<;>dsimp only [Cm.camelL,YE,Wo,Zg,Zf,Zl,Zi,Zc,Zn,mtL,mtB,mtS,id,go_sem]<;>simp [Cm.camelL,YE,Wo,Zg,Zf,Zl,Zi,Zc,Zn,mtL,mtB,mtS,Za])
 refine Zr (by simpa using hl) ?_;dsimp only [go_sem];rw [if_neg hl] at hi;try rw [Zh (n:=(n:Int)+1) (by omega) (by omega)]
 by_cases hm:(n:Int)+1 > d.lo
 . refine Zq (by simpa using hm) ?_;dsimp only [go_sem];rw [if_pos hm] at hi;refine call (Zfi out.water r.1.water _) ?_;dsimp only [go_sem];refine call (Zfi out.fat r.1.fat _) ?_;dsimp only [go_sem];refine call (Zfi out.sore r.1.sore _) ?_;dsimp only [Zc,go_sem];try rw [Zh (n:=(n:Int)+1) (by omega) (by omega)]
   refine ⟨(n+1,r.1,Zfe out r.1),⟨hlt,hi⟩,by simp only;omega,?_⟩;(refine Zj ?_ ?_ ?_ rfl rfl<;>dsimp only [Cm.camelL,Zfe,YE,Wo,Zg,Zf,Zl,Zi,Zc,Zn,mtL,mtB,mtS,id,go_sem]<;>simp [Cm.camelL,Zfe,YE,Wo,Zg,Zf,Zl,Zi,Zc,Zn,mtL,mtB,mtS,Za])
 refine Zr (by simp;omega) ?_;dsimp only [go_sem];rw [if_neg hm] at hi;try rw [Zh (n:=(n:Int)+1) (by omega) (by omega)]
 refine ⟨(n+1,r.1,out),⟨hlt,hi⟩,by simp only;omega,?_⟩;(refine Zj ?_ ?_ ?_ rfl rfl<;>dsimp only [Cm.camelL,YE,Wo,Zg,Zf,Zl,Zi,Zc,Zn,mtL,mtB,mtS,id,go_sem]<;>simp [Cm.camelL,YE,Wo,Zg,Zf,Zl,Zi,Zc,Zn,mtL,mtB,mtS,Za])
def ZwN:SC:=(sr1 [o1 2 (.mv (.c (.slice none 0 0)))] (.seq (sr1 [m1 3 0,o1 4 (.isn (.t 3))] (Ji 4 (sr1 [o1 2 (.mv (.c (.slice none 0 0)))] .ret) .skip)) (sr1 [o1 5 (.bsl 9 88 []),m1 6 0,o1 7 (.cln 9 72 88 (.t 5) (.t 6)),m1 2 7] .ret)))
def Zyc:List RV:=[.tmp 2]
theorem nw155:Tryz.f155.ntmps=8:=by kernel_rfl
theorem bw155:YO Tryz.prog 155=true:=by kernel_rfl
theorem Zpc:XM Tryz.prog ZwN ((Tryz.f155.body).getD .skip)=true:=by kernel_rfl
theorem Zsy:Wu Tryz.prog Zyc Tryz.f155.results.toList=true:=by kernel_rfl
theorem mw155 {n0:Nat} {hp0:List (Nat × HB)} {args:List SV} {Z8:Ot->Prop} (hh:hpb n0 hp0) (hx:∀ o,Z8 o->KX o.res/\KXP o.hp) (h:sx Tryz.prog Y0 n0 ZwN ⟨X8 0 args,hp0,n0,8,[]⟩ (Zbm Zyc λo=>∃ o',Z8 o'/\ZcU n0 o o')) (hA:Nat.ble args.length 8=true:=by rfl):CtM Tryz.prog 155 hp0 n0 args Z8:=YN Tryz.func155 rfl bw155 Zpc Zsy nw155 (Nat.le_of_ble_eq_true hA) hh hx h
def ZAj:SC:=(sr1 [o1 2 (Jz 0 0 120),o1 3 (Jz 1 0 94),Jk 4 0] (sr1 [o1 10 (ao 2 0),o1 11 (ao 10 0),o1 12 (lt 11 2),o1 5 (.alloc ZwA 25),Js 5 12 2] (sr1 [o1 13 (ao 5 0),o1 14 (lf 13 1),o1 15 (.callm 155 [.t 14]),o1 16 (ao 5 0),Js 16 15 1] (.seq (sr1 [o1
 17 (ao 5 0),o1 18 (lf 17 1),o1 19 (Jl 18),Jk 20 0] (.block 0 (.loop (sr1 [o1 21 (Jb .lss 20 19)] (.seq (Ji 21 .skip (.exit 0)) (.seq (.block 1 (sr1 [m1 22 20,m1 6 22] (.regd (Jr 12) [Jo 23 (ao 5 0),Jp 24 (lf 23 1) [0],Jm 25 6,Jo 26 (lt 2 38),Jp 27
 (J1 156 26) [3],Jp 28 (.fld (.t 27) 4 1 false) [4],Jm 29 6,Jp 30 (Jx 28 29 2) [5,6],Jp 31 (lt 30 2) [7],Jp 32 (Jx 24 25 9) (Jr 9),Jp 33 (ao 32 3) (Jr 10)] 0 1 [Ju 33 31 2 [0,1,2,3,4,5,6,7,8,10]]))) (.reg [o1 34 (Jc .add 20 1),m1 20 34]))))))) (sr1
 [o1 36 (lt 5 2),o1 37 (ao 3 1),o1 38 (lf 37 1),o1 39 (ao 3 4),o1 40 (ao 39 0),o1 41 (lf 40 1),o1 42 (.call 42 [.t 36,.t 38,.c (.slice none 0 0),.t 41]),m1 35 42,o1 43 (Je 35 0),o1 44 (Je 35 1),o1 45 (Je 35 2),o1 7 (.alloc zv0 27),Js 7 43 2,m1 8 44,m1
 9 45] (sr1 [o1 46 (ao 7 0),o1 47 (lf 46 1),m1 4 47] .ret))))))
def ZBb:List RV:=[.tmp 4]
theorem tw113:Qt1 Tryz.prog 113 ZAj ZBb 48:=Z0 Tryz.func113
def cw38:SC:=(sr1 [o1 2 (Jz 0 0 34),o1 4 (.alloc ZwA 25)] (sr1 [o1 7 (ao 2 0),o1 8 (lt 7 2),o1 9 (.callm 47 [.t 8]),o1 5 (.alloc ZwA 25),Js 5 9 2] (.seq (sr1 [Jk 6 0] (.block 0 (.loop (.seq (sr1 [m1 10 6,o1 11 (ao 5 0),o1 12 (lf 11 1),o1 13 (Jl 12),o1
 14 (Jb .lss 10 13)] (Ji 14 .skip (.exit 0))) (.seq (.block 1 (.regd (Jr 15) [Jo 17 (ao 5 0),Jp 18 (lf 17 1) [0],Jm 19 6,Jo 20 (ao 2 36),Jp 21 (lf 20 1) [3],Jm 22 1,Jp 23 (Jx 21 22 6) [4,5],Jp 24 (ao 23 4) [6],Jp 25 (lf 24 1) [7],Jm 26 6,Jp 27 (Jx 25
 26 2) [8,9],Jp 28 (lt 27 2) [10],Jp 29 (Jx 18 19 9) (Jr 12),Jp 30 (ao 29 3) (Jr 13)] 0 1 [Ju 30 28 2 [0,1,2,3,4,5,6,7,8,9,10,11,13]])) (.reg [m1 15 6,o1 16 (Jc .add 15 1),m1 6 16])))))) (sr1 [o1 31 (lt 5 2),Js 4 31 2] .ret))))
def rw38:List RV:=[.cell 4 2 true]
theorem tw38:Qt1 Tryz.prog 38 cw38 rw38 32:=Z0 Tryz.func38
def cw47:SC:=(sr1 [o1 1 (Jz 0 0 25),o1 2 (.alloc ZwA 25)] (sr1 [o1 4 (.bsl 9 88 []),o1 5 (ao 1 0),o1 6 (lf 5 1),o1 7 (.cln 9 72 88 (.t 4) (.t 6)),o1 8 (ao 1 0),Js 8 7 1] (sr1 [o1 9 (.bsl 5 83 []),o1 10 (ao 1 1),o1 11 (lf 10 1),o1 12 (.cln 5 56 83 (.t
 9) (.t 11)),o1 13 (ao 1 1),Js 13 12 1] (.seq (sr1 [Jk 3 0] (.block 0 (.loop (.seq (sr1 [m1 14 3,o1 15 (ao 1 1),o1 16 (lf 15 1),o1 17 (Jl 16),o1 18 (Jb .lss 14 17)] (Ji 18 .skip (.exit 0))) (.seq (.block 1 (.regd (Jr 14) [Jo 21 (ao 1 1),Jp 22 (lf 21
 1) [0],Jm 23 3,Jo 24 (.bsl 4 85 []),Jo 25 (ao 1 1),Jp 26 (lf 25 1) [4],Jm 27 3,Jp 28 (Jx 26 27 5) [5,6],Jp 29 (ao 28 4) [7],Jp 30 (lf 29 1) [8],Jp 31 (.app 4 32 85 (.t 24) (.t 30)) [3,9],Jp 32 (Jx 22 23 5) (Jr 11),Jp 33 (ao 32 4) (Jr 12)] 0 1 [Ju 33
 31 1 [0,1,2,3,4,5,6,7,8,9,10,12]])) (.reg [m1 19 3,o1 20 (Jc .add 19 1),m1 3 20])))))) (sr1 [o1 34 (lt 1 2),Js 2 34 2] .ret)))))
def rw47:List RV:=[.cell 2 2 true]
theorem nw47:Tryz.f47.ntmps=35:=by kernel_rfl
theorem bw47:YO Tryz.prog 47=true:=by kernel_rfl
theorem ZvC:XM Tryz.prog cw47 ((Tryz.f47.body).getD .skip)=true:=by kernel_rfl
theorem ZuH:Wu Tryz.prog rw47 Tryz.f47.results.toList=true:=by kernel_rfl
theorem mw47 {n0:Nat} {hp0:List (Nat × HB)} {args:List SV} {Z8:Ot->Prop} (hh:hpb n0 hp0) (hx:∀ o,Z8 o->KX o.res/\KXP o.hp) (h:sx Tryz.prog Y0 n0 cw47 ⟨X8 0 args,hp0,n0,35,[]⟩ (Zbm rw47 λo=>∃ o',Z8 o'/\ZcU n0 o o')) (hA:Nat.ble args.length 35=true:=by rfl):CtM Tryz.prog 47 hp0 n0 args Z8:=YN Tryz.func47 rfl bw47 ZvC ZuH nw47 (Nat.le_of_ble_eq_true hA) hh hx h
end Go.Proofs.YtiigiflofnjilaaGreat
namespace Go.Azalai
open Go.Sx
def ZdV (ws:List Well) (ys:List Span):List Well:=List.zipWith (λw y=>{ w with yld:=y }) ws ys
def Vf (s:Season) (x:Scene):Land:=⟨ZdV s.land.wells x.yields,s.land.legs⟩
def WV (ws Z:List Well) (k:Nat):List Well:=Z.take k ++ ws.drop k
theorem Zdo {ws:List Well} {ys:List Span} (h:ys.length=ws.length):(ZdV ws ys).length=ws.length:=by simp [ZdV,h]
theorem VH {ws Z:List Well} {k:Nat} (h:Z.length=ws.length) (hk:k<=ws.length):(WV ws Z k).length=ws.length:=by simp [WV];omega
theorem UO {ws Z:List Well} {k:Nat} (h:Z.length=ws.length) (hk:k < ws.length) (hk':k < (WV ws Z k).length):(WV ws Z k)[k]=ws[k]:=by
 simp only [WV];rw [List.getElem_append_right (by simp;omega)];simp [Nat.min_eq_left (Nat.le_of_lt (h ▸ hk:k < Z.length))]
theorem Zeg {ws Z:List Well} {k:Nat} (h:Z.length=ws.length) (hk:k < ws.length) (hz:k < Z.length):(WV ws Z k).set k Z[k]=WV ws Z (k+1):=by
 simp only [WV];rw [List.set_append_right _ _ (by simp;omega)];have h1:(Z.take k).length=k:=by simp;omega
 rw [h1,Nat.sub_self,List.drop_eq_getElem_cons hk,List.set_cons_zero,List.take_succ_eq_append_getElem hz,List.append_assoc];rfl
theorem Zgs {ws:List Well} {ys:List Span} {k:Nat} (h1:k < ws.length) (h2:k < ys.length) (h:k < (ZdV ws ys).length):(ZdV ws ys)[k]={ ws[k] with yld:=ys[k] }:=by simp [ZdV]
def ZaF (s:Season) (x:Scene) (st:Stop):Int:=(Xo (Vf s x) st.well [] st.arrives.lo).1.lo
end Go.Azalai
namespace Go.Proofs.YtiigiflofnjilaaGreat
open Go Go.Sx Go.Azalai
theorem ZaP {s:Season} {x:Scene} (h:Xu s.land) (hx:x.yields.length=s.land.wells.length):Xu (Vf s x):=by
 refine ⟨?_,h.2.1,h.2.2⟩;simp only [Vf];rw [Zdo hx];exact h.1
theorem Zmq (l:List Well) (hL:l.length<=1000) (k:Bool):CtM Tryz.prog 155 [] 0 [.sl k 9 (l.map Zf)] (λo=>o=⟨false,.mr 0 0,[(0,.row 0 9 (l.map Zf) 88)],1⟩):=by
 refine mw155 (by simp [hpb]) (λo ho=>by subst ho;simp [KX,KXL,KXP,KXH,Za,KFL,KF,Zf]) ?_;dsimp only [ZwN,Zyc,go_sem];intro b hb;dsimp only [go_sem];cases b with
 | true =>
  have hl:l=[]:=by simpa using hb rfl
  subst hl;refine Zq rfl ?_;dsimp only [go_sem];refine ⟨_,rfl,?_⟩;refine Vb (ZG (Yg 0 9 88 rfl rfl) ?_) (λ_ _ _ e=>by cases e);(refine Zj ?_ ?_ ?_ rfl rfl<;>dsimp only [Zf,id,go_sem]<;>simp [Zf,Za])
 | false =>
  refine Zr rfl ?_;dsimp only [go_sem];refine ⟨by simp;omega,?_⟩;dsimp only [go_sem];refine ⟨_,rfl,?_⟩;(refine Yb ?_ ?_ ?_ rfl<;>dsimp only [Zf,id,go_sem]<;>simp [Zf,Za])
theorem ZrK (l:Land) (hs:Xu l):CtM Tryz.prog 47 [] 0 [.agg (Zt l)] (λo=>o=⟨false,.agg [.mr 0 0,.mr 1 0],[(0,.row 0 9 (l.wells.map Zf) 88),(1,.row 0 5 (l.legs.map Zl) 83)],2⟩):=by
 refine mw47 (by simp [hpb]) (λo ho=>by subst ho;simp [KX,KXL,KXP,KXH,Za,KFL,KF,Zt,Zf,Zl,Zg]) ?_;dsimp only [cw47,rw47,Zt,go_sem];refine ⟨by simp;have:=hs.1;omega,?_⟩;dsimp only [go_sem];refine ⟨by simp;have:=hs.2.1;omega,?_⟩;dsimp only [go_sem];refine Yy (λk:Nat=>[(3,I k)]) (λ_=>[]) (λk=>k<=l.legs.length) (λk=>l.legs.length - k) 0 (Nat.zero_le _) ?_ ?_
 . (refine Zj ?_ ?_ ?_ rfl rfl<;>dsimp only [Zg,Zf,Zl,id,go_sem]<;>simp [Zg,Zf,Zl,Za])
 intro k hk;dsimp only [go_sem];simp only [List.length_map];by_cases hlt:k < l.legs.length
 . refine Zq (by simpa using hlt) ?_;dsimp only [go_sem];refine Wi k rfl (by simpa using hlt) ?_;dsimp only [go_sem];refine Zan hlt ?_;dsimp only [Zl,go_sem];refine Zsj (by simp;have:=hs.2.2 _ (List.getElem_mem hlt);omega) ?_;dsimp only [go_sem];refine Wi k rfl (by simpa using hlt) ?_;dsimp only [go_sem];refine ZdM l.legs[k] hlt (by simp [Zl]) (by simp [Zl,Zu]) ?_;rw [List.set_getElem_self];dsimp only [go_sem]
   rw [Zh (n:=(k:Int)+1) (by omega) (by have:=hs.2.1;omega)];refine ⟨k+1,hlt,by omega,?_⟩;(refine Zj ?_ ?_ ?_ rfl rfl<;>dsimp only [Zg,Zf,Zl,id,go_sem]<;>simp [Zg,Zf,Zl,Za])
 refine Zr (by simp;omega) ?_;dsimp only [go_sem];refine ⟨_,rfl,?_⟩;refine ZBI (λi=>i+2) ?_ ?_ ?_ (λi hi j hj h=>by omega) rfl (λi hi=>absurd hi (Nat.not_lt_zero i))<;>dsimp only [go_sem]<;>simp [Za,Ze,KFR,KFL,KF,Zb,mtO,nbr,Zf,Zl,Zg]
theorem Ztl (s:Season) (hs:SmallS s) (k:Nat) (hk:k < s.scenes.length) (hy:s.scenes[k].yields.length=s.land.wells.length) (st:Stop):Ct Tryz.prog 113 [.agg (YG s k),.agg (Zw st)] (I (ZaF s s.scenes[k] st)):=by
 have hw:=hs.land.1;refine tw113.1 (by simp [YG,Zw,Zi,Zf,Zl,Zg,Zc,Zn,Za]) (by simp) ?_;dsimp only [ZAj,ZBb,YG,Zw,go_sem];refine UV [] (Zmq s.land.wells hw false) rfl rfl rfl ?_ ?_ ?_
 . exact Zb (by simp [Za,Zf])
 . trivial
 dsimp only [go_sem];simp only [List.length_map];have hz:=Zdo hy;refine XE [2,3,4,5,19,20] rfl (λq:Nat=>[(20,I q)]) (λq=>[(3,.row 0 9 ((WV s.land.wells (ZdV s.land.wells s.scenes[k].yields) q).map Zf) 88)])
  (λq=>q<=s.land.wells.length) (λq=>s.land.wells.length - q) 0 (Nat.zero_le _) ?_ ?_
 . (refine Zj ?_ ?_ ?_ rfl rfl<;>dsimp only [Zf,Zl,Zg,Zi,Zc,Zn,WV,id,go_sem]<;>simp [Zf,Zl,Zg,Zi,Zc,Zn,WV,Za])
 intro q hq;dsimp only [go_sem];by_cases hlt:q < s.land.wells.length
 . refine Zq (by simpa using hlt) ?_;dsimp only [go_sem];refine call (Zi6 s k hk) ?_;dsimp only [Zi,go_sem];refine Zo q (by omega) rfl ?_;dsimp only [Zc,go_sem];refine Wi q rfl (by simp [VH hz hq];omega) ?_;dsimp only [go_sem];have hq2:q < (WV s.land.wells (ZdV s.land.wells s.scenes[k].yields) q).length:=by rw [VH hz hq];exact hlt
   have hq3:q < (ZdV s.land.wells s.scenes[k].yields).length:=by omega
   refine ZdM ((ZdV s.land.wells s.scenes[k].yields)[q]) hq2 (by rw [UO hz hlt];simp [Zf]) (by rw [UO hz hlt,Zgs hlt (by omega)];simp [Zf,Zu]) ?_;rw [Zeg hz hlt hq3];dsimp only [go_sem];rw [Zh (n:=(q:Int)+1) (by omega) (by omega)];refine ⟨q+1,by omega,by omega,?_⟩;(refine Zj ?_ ?_ ?_ rfl rfl<;>dsimp only [Zf,Zl,Zg,Zi,Zc,Zn,id,go_sem]<;>simp [Zf,Zl,Zg,Zi,Zc,Zn,Za])
 refine Zr (by simp;omega) ?_;dsimp only [go_sem];have hq':WV s.land.wells (ZdV s.land.wells s.scenes[k].yields) q=ZdV s.land.wells s.scenes[k].yields:=by
  simp only [WV];rw [List.take_of_length_le (by omega),List.drop_eq_nil_of_le (by omega),List.append_nil]
 rw [hq'];have hwa:=(ZnY (Vf s s.scenes[k]) (ZaP hs.land hy) st.well st.arrives.lo [] (by simp)).args (args0:=[.agg (Zt (Vf s s.scenes[k])),I st.well,.v (.slice none 0 0),I st.arrives.lo]) (by simp [Zt,Zf,Zl,Zg,Za]) (ZC (λ_ _ _ _ _ h=>h) (ZC (λ_ _ _ _ _ h=>h) (ZC Yk XK)));refine Zaz (by simp [FLT,Zx9,Ze3,Zc]) (res:=Ze3 (Xo (Vf s s.scenes[k]) st.well [] st.arrives.lo)) ?_ ?_
 . dsimp only [go_sem];exact hwa
 dsimp only [Ze3,Zc,go_sem];rfl
theorem ZkN (s:Season) (hs:SmallS s) (k:Nat) (hk:k < s.scenes.length) (hy:s.scenes[k].yields.length=s.land.wells.length):Ct Tryz.prog 38 [.agg (Zs s),I k] (.agg (Zt (Vf s s.scenes[k]))):=by
 have hw:=hs.land.1;refine tw38.1 (by simp [Zs,Zi,Zf,Zl,Zg,Zc,Zn,Za]) (by simp [Zt,Zf,Zl,Zg,Za]) ?_;dsimp only [cw38,rw38,Zs,go_sem];refine UV [] (ZrK s.land hs.land) rfl rfl rfl ?_ ?_ ?_
 . exact Zb (by simp [Zt,Zf,Zl,Zg,Za])
 . trivial
 dsimp only [go_sem];have hz:=Zdo hy;refine XE [2,4,5,6,1] rfl (λq:Nat=>[(6,I q)]) (λq=>[(2,.row 0 9 ((WV s.land.wells (ZdV s.land.wells s.scenes[k].yields) q).map Zf) 88)])
  (λq=>q<=s.land.wells.length) (λq=>s.land.wells.length - q) 0 (Nat.zero_le _) ?_ ?_
 . (refine Zj ?_ ?_ ?_ rfl rfl<;>dsimp only [Zf,Zl,Zg,Zi,Zc,Zn,WV,id,go_sem]<;>simp [Zf,Zl,Zg,Zi,Zc,Zn,WV,Za])
 intro q hq;dsimp only [go_sem];simp only [List.length_map,VH hz hq];by_cases hlt:q < s.land.wells.length
 . refine Zq (by simpa using hlt) ?_;dsimp only [go_sem];refine Zo k hk rfl ?_;dsimp only [Zi,go_sem];refine Zo q (by omega) rfl ?_;dsimp only [Zc,go_sem];refine Wi q rfl (by simp [VH hz hq];omega) ?_;dsimp only [go_sem];have hq2:q < (WV s.land.wells (ZdV s.land.wells s.scenes[k].yields) q).length:=by rw [VH hz hq];exact hlt
   have hq3:q < (ZdV s.land.wells s.scenes[k].yields).length:=by omega
   refine ZdM ((ZdV s.land.wells s.scenes[k].yields)[q]) hq2 (by rw [UO hz hlt];simp [Zf]) (by rw [UO hz hlt,Zgs hlt (by omega)];simp [Zf,Zu]) ?_;rw [Zeg hz hlt hq3];dsimp only [go_sem];rw [Zh (n:=(q:Int)+1) (by omega) (by omega)];refine ⟨q+1,by omega,by omega,?_⟩;(refine Zj ?_ ?_ ?_ rfl rfl<;>dsimp only [Zf,Zl,Zg,Zi,Zc,Zn,id,go_sem]<;>simp [Zf,Zl,Zg,Zi,Zc,Zn,Za])
 refine Zr (by simp;omega) ?_;dsimp only [go_sem];have hq':WV s.land.wells (ZdV s.land.wells s.scenes[k].yields) q=ZdV s.land.wells s.scenes[k].yields:=by
  simp only [WV];rw [List.take_of_length_le (by omega),List.drop_eq_nil_of_le (by omega),List.append_nil]
 rw [hq'];rfl
end Go.Proofs.YtiigiflofnjilaaGreat
namespace Go.Sx
open Go Go.RowKit
theorem UN {l l':List SV} (h:∀ (w:World) (E:Env) (n ok:Nat->Prop) (ys:List Value),RL w E n ok l ys->RL w E n ok l' ys):ZdU (.agg l) (.agg l'):=λw E n ok y hy=>by
 simp only [R] at hy ⊢;obtain ⟨cs,h1,h2⟩:=hy;exact ⟨cs,h1,h _ _ _ _ _ h2⟩
end Go.Sx
namespace Go.Azalai
open Go.Sx
def Uf (b:Breed) (c:Camel):Camel:={ c with water:=⟨b.full,b.full⟩ }
def goG (s:Season) (x:Scene) (slabs:Int):List Stop->Nat->Camel->List (Int × Int)->Int × Int × List (Int × Int)
 | [],_,_,acc=>(0,0,acc)
 | st :: r,i,c,acc =>
  if (Y1 s x (Y9 s.land st.leg s.pace).1 slabs c).2≠0 then ((Y1 s x (Y9 s.land st.leg s.pace).1 slabs c).2,i,acc)
  else goG s x slabs r (i+1) (Uf s.breed (Y1 s x (Y9 s.land st.leg s.pace).1 slabs c).1)
   (if r=[] then acc else acc ++ [(s.breed.full - (Y1 s x (Y9 s.land st.leg s.pace).1 slabs c).1.water.lo,ZaF s x st)])
def goF (s:Season) (x:Scene) (slabs:Int) (l:List Stop):Int × Int × List (Int × Int) :=
 if l=[] then (if slabs * s.slab > (Ze4 s.breed s.camel).lo then 2 else 0,0,[]) else goG s x slabs l 0 s.camel []
theorem ZfK {lo hi:Int} {a b:Span} (ha:Yl lo hi a=true) (hb:Yl lo hi b=true):Yl lo hi (Zij a b)=true:=by
 simp only [Yl,decide_eq_true_eq] at ha hb;show decide (lo<=min a.lo b.lo/\min a.lo b.lo<=max a.hi b.hi/\max a.hi b.hi<=hi)=true;rw [decide_eq_true_eq];omega
theorem Zjv {b:Breed} {c:Camel} {m:March} (hb:ZA b=true) (hc:Zz b c=true) (he:(YW b c m).2.2=0):Zz b (YW b c m).1=true:=by
 unfold YW at he ⊢;rw [if_neg (by rw [Go.Proofs.YtiigiflofnjilaaGreat.Cm.errC_0.2 ⟨hb,hc⟩];simp)] at he ⊢;split
 . rename_i h;rw [if_pos h] at he;simp at he
 . rename_i h;rw [if_neg h] at he;split
   . rename_i h2;rw [if_pos h2] at he;simp at he
   . rename_i h2;exact Go.Azalai.after_ok hb hc (by simpa using h) h2
theorem Zdi {b:Breed} (hb:ZA b=true):Zz b YE=true:=by
 have:=Go.Proofs.YtiigiflofnjilaaGreat.Cm.breed_bd hb;simp [Zz,YE,Yl];omega
theorem Zed {b:Breed} {m:March} {lo:Int} (hb:ZA b=true):∀ {j n:Nat} {c out:Camel},Zz b c=true->Zz b out=true->Zz b (U1 b m lo j n c out).1=true
 | 0,_,_,_,_,ho=>ho
 | j+1,n,c,out,hc,ho=>by
  simp only [U1];split
  . exact Zdi hb
  split
  . exact Zdi hb
  rename_i h1 h2;have ha:=Zjv (m:=m) hb hc (by omega);refine Zed hb ha ?_;split
  . exact ha
  split
  . simp only [Zz,Bool.and_eq_true] at ha ho ⊢;exact ⟨⟨ZfK ho.1.1 ha.1.1,ZfK ho.1.2 ha.1.2⟩,ZfK ho.2 ha.2⟩
  . exact ho
theorem Zcg {s:Season} {x:Scene} {d:Span} {slabs:Int} {c:Camel} (hb:ZA s.breed=true) (hc:Zz s.breed c=true):Zz s.breed (Y1 s x d slabs c).1=true:=Zed hb hc (Zdi hb)
theorem UY {b:Breed} {c:Camel} (hb:ZA b=true) (hc:Zz b c=true):Zz b (Uf b c)=true:=by
 have:=Go.Proofs.YtiigiflofnjilaaGreat.Cm.breed_bd hb;simp only [Zz,Uf,Bool.and_eq_true] at hc ⊢;exact ⟨⟨by simp only [Yl,decide_eq_true_eq];omega,hc.1.2⟩,hc.2⟩
theorem ZgY {l:Land} {p:Span} {leg:Int} (hg:OkLP l p):(Y9 l leg p).1.hi<=1000000000:=by
 unfold Y9;split
 . simp
 split
 . simp
 split
 . rename_i x hx;have:=Go.Azalai.day_bd (hg.leg hx) hg.pace;simp only;omega
 . simp
theorem ZdQ {b:Breed} {c:Camel} (hb:ZA b=true) (hc:Zz b c=true):0<=c.water.lo/\c.water.lo<=b.full/\1<=b.full/\b.full<=1000000:=by
 have h1:=Go.Proofs.YtiigiflofnjilaaGreat.Cm.breed_bd hb;have h2:=Go.Proofs.YtiigiflofnjilaaGreat.Cm.camel_bd hb hc;omega
end Go.Azalai
namespace Go.Proofs.YtiigiflofnjilaaGreat
open Go Go.Sx Go.Azalai
theorem Zuu (s:Season) (h:OkS s) (leg:Int):Ct Tryz.prog 39 [.agg (Zt s.land),I leg,.agg (Zc s.pace)] (sres (Y9 s.land leg s.pace)):=ZpC s.land h.small.land leg s.pace
theorem u63 {args:List SV} {res:SV} (ka:KFL args) (kr:KF res) (h:sx Tryz.prog Y0 0 c63 (st0 args 139) (ZvT r63 res)) (hA:Nat.ble args.length 139=true:=by rfl):Ct Tryz.prog 63 args res:=US Tryz.func63 rfl b63 ZzU ZzQ n63 (Nat.le_of_ble_eq_true hA) ka kr h
def Zmc (g:Int × Int × List (Int × Int)):List SV:=[U8 g.1,I g.2.1,.sl false 1 (g.2.2.map λp=>Zn p.1),.sl false 1 (g.2.2.map λp=>Zn p.2)]
theorem Zva (s:Season) (h:OkS s) (k:Nat) (hk:k < s.scenes.length) (legs:List Int) (sts:List Stop) (hl:legs=sts.map Stop.leg) (hg:legs.length<=1000) (slabs:Int) (hn:0<=slabs/\slabs<=12) (c1 c2:Bool) :
 Ct Tryz.prog 63 [.agg (Zs s),I k,.sl c1 1 (legs.map Zn),.sl c2 6 (sts.map Zw),I slabs] (.agg (Zmc (goF s s.scenes[k] slabs sts))):=by
 have hnum:=h.num;have hx:=h.scene _ (List.getElem_mem hk);have hy:s.scenes[k].yields.length=s.land.wells.length:=by simp only [YB,Bool.and_eq_true,decide_eq_true_eq] at hx;omega
 have hb:0<=slabs * s.slab/\slabs * s.slab<=12 * 1000000:=⟨Int.mul_nonneg hn.1 (by omega),Int.mul_le_mul hn.2 (by omega) (by omega) (by decide)⟩
 refine u63 (by simp [Zs,Zi,Zf,Zl,Zg,Zc,Zn,Zw,Za]) (by simp [Zmc,Zn,Za]) ?_;dsimp only [c63,r63,Zs,go_sem];refine Zo k hk rfl ?_;dsimp only [Zi,go_sem];simp only [List.length_map];by_cases hs0:sts=[]
 . subst hs0;subst hl;refine Zq (by simp) ?_;dsimp only [go_sem];refine call (Cm.carriesR_ok s.breed s.camel) ?_;dsimp only [Cm.sres,Zc,go_sem];rw [show (if ZaG s.breed s.camel=0 then Zs7 s.breed s.camel else Wo)=Ze4 s.breed s.camel from rfl,Zh (n:=slabs * s.slab) (by omega) (by omega)];by_cases hw:slabs * s.slab > (Ze4 s.breed s.camel).lo
   . refine Zq (by simpa using hw) ?_;dsimp only [go_sem];refine ⟨_,rfl,?_⟩;simp only [goF,if_true,if_pos hw,Zmc,List.map_nil];exact UN (ZC (λ_ _ _ _ _ h=>h) (ZC (λ_ _ _ _ _ h=>h) (ZC Yk (ZC Yk XK))))
   . refine Zr (by simpa using hw) ?_;dsimp only [go_sem];refine ⟨_,rfl,?_⟩;simp only [goF,if_true,if_neg hw,Zmc,List.map_nil];exact UN (ZC (λ_ _ _ _ _ h=>h) (ZC (λ_ _ _ _ _ h=>h) (ZC Yk (ZC Yk XK))))
 have hlen:legs.length=sts.length:=by rw [hl];simp
 have h0:sts.length≠0:=λe=>hs0 (List.length_eq_zero_iff.1 e);refine Zr (by rw [hlen];simpa using hs0) ?_;dsimp only [go_sem];refine call (ZkN s h.small k hk hy) ?_;dsimp only [Zt,go_sem];subst hl;simp only [List.length_map] at hg;have hgF:goF s s.scenes[k] slabs sts=goG s s.scenes[k] slabs sts 0 s.camel []:=by simp only [goF,if_neg hs0]
 rw [hgF];have hgs:∀ (j n:Nat) (hj:j < sts.length) c acc,goG s s.scenes[k] slabs (sts.drop j) n c acc=if (Y1 s s.scenes[k] (Y9 s.land sts[j].leg s.pace).1 slabs c).2≠0 then ((Y1 s s.scenes[k] (Y9 s.land sts[j].leg s.pace).1 slabs c).2,(n:Int),acc)
  else goG s s.scenes[k] slabs (sts.drop (j+1)) (n+1) (Uf s.breed (Y1 s s.scenes[k] (Y9 s.land sts[j].leg s.pace).1 slabs c).1)
   (if sts.drop (j+1)=[] then acc else acc ++ [(s.breed.full - (Y1 s s.scenes[k] (Y9 s.land sts[j].leg s.pace).1 slabs c).1.water.lo,ZaF s s.scenes[k] sts[j])]):=λj n hj c acc=>by
  rw [List.drop_eq_getElem_cons hj,goG]
 refine Zau (ZG (Ww [2,3,4,5,10,11,12,13,16,17] rfl) (ZG (XG 2 2 1 3 rfl rfl) (XG 2 3 1 3 rfl rfl))) (λq:Nat × Camel × List (Int × Int) × Nat × Nat=>[(17,I q.1)])
  (λq=>[(2,.cells [U8 0,I 0,.mr 6 q.2.2.2.1,.mr 7 q.2.2.2.2] 139),(6,.row q.2.2.2.1 1 (q.2.2.1.map λp=>Zn p.1) 3),(7,.row q.2.2.2.2 1 (q.2.2.1.map λp=>Zn p.2) 3),(4,.cells (Cm.camelL q.2.1) 31)])
  (λq=>q.1<=sts.length/\goG s s.scenes[k] slabs (sts.drop q.1) q.1 q.2.1 q.2.2.1=goG s s.scenes[k] slabs sts 0 s.camel []/\Zz s.breed q.2.1=true/\q.2.2.1.length<=q.1) (λq=>sts.length - q.1) (0,s.camel,[],0,0)
  ⟨Nat.zero_le _,rfl,h.beast.2,Nat.le_refl _⟩ ?_ ?_
 . (refine Zj ?_ ?_ ?_ rfl rfl<;>dsimp only [Cm.camelL,Zf,Zl,Zg,Zi,Zc,Zn,Zw,mtL,mtB,mtS,id,go_sem]<;>simp [Cm.camelL,Zf,Zl,Zg,Zi,Zc,Zn,Zw,mtL,mtB,mtS,Za])
 rintro ⟨j,c,acc,v1,v2⟩ ⟨hj,hi,hc,hal⟩;simp only at hj hi hc hal;dsimp only [Cm.camelL,go_sem];simp only [List.length_map];by_cases hlt:j < sts.length
 case neg =>
  refine Zr (by simp;omega) ?_;dsimp only [go_sem];rw [<- hi,List.drop_eq_nil_of_le (by omega),goG];simp only [nbr];exact ⟨_,rfl,λ_ _ _ _ _ h=>h⟩
 refine Zq (by simpa using hlt) ?_;dsimp only [go_sem];refine Zo j (by simpa using hlt) rfl ?_;simp only [List.getElem_map];dsimp only [Zn,go_sem];refine call (Zrc s.land h.small.land sts[j].leg s.pace) ?_;dsimp only [sres,Zc,go_sem];refine call (Zn5 s s.scenes[k] c (Y9 s.land sts[j].leg s.pace).1 slabs hn (by omega) (ZgY h.lp)) ?_;rw [hgs j j hlt] at hi;have hbo:=Zcg (x:=s.scenes[k]) (d:=(Y9 s.land sts[j].leg s.pace).1) (slabs:=slabs) h.beast.1 hc
 generalize Y1 s s.scenes[k] (Y9 s.land sts[j].leg s.pace).1 slabs c=b at hi hbo ⊢;dsimp only [camelL,Cm.camelL,go_sem];by_cases hw:b.2=0
 case neg =>
  refine Zq (by simpa using hw) ?_;dsimp only [go_sem];rw [if_pos hw] at hi;rw [<- hi];simp only [nbr];exact ⟨_,rfl,λ_ _ _ _ _ h=>h⟩
 refine Zr (by simpa using hw) ?_;dsimp only [go_sem];rw [if_neg (by simpa using hw)] at hi;have hwb:=ZdQ h.beast.1 hbo;rw [Zh (n:=(j:Int)+1) (by omega) (by omega)];simp only [List.length_map];by_cases hlast:j+1 < sts.length
 . refine Zq (by simp;omega) ?_;dsimp only [go_sem];rw [if_neg (by intro e;rw [List.drop_eq_nil_iff] at e;omega)] at hi;refine Zo j hlt rfl ?_;dsimp only [Zw,go_sem];refine Zo j hlt rfl ?_;dsimp only [Zw,go_sem];have hwa:=(Zl2 (Vf s s.scenes[k]) (ZaP h.small.land hy) sts[j].well sts[j].arrives.lo [] (by simp)).args (args0:=[.agg (Zt (Vf s s.scenes[k])),I sts[j].well,.v (.slice none 0 0),I sts[j].arrives.lo]) (by simp [Zt,Zf,Zl,Zg,Za]) (ZC (λ_ _ _ _ _ h=>h) (ZC (λ_ _ _ _ _ h=>h) (ZC Yk XK)))
   refine call hwa ?_;dsimp only [Ze3,Zc,go_sem];rw [Zh (n:=s.breed.full - b.1.water.lo) (by omega) (by omega)];simp only [nbr];dsimp only [go_sem];refine ⟨(by intro c hc;simp only [List.mem_singleton] at hc;subst hc;rfl),by simp;omega,?_⟩;dsimp only [go_sem];simp only [nbr];dsimp only [go_sem];refine ⟨(by intro c hc;simp only [List.mem_singleton] at hc;subst hc;rfl),by simp;omega,?_⟩;dsimp only [go_sem]
   rw [Zh (n:=(j:Int)+1) (by omega) (by omega)];refine ⟨(j+1,Uf s.breed b.1,acc ++ [(s.breed.full - b.1.water.lo,ZaF s s.scenes[k] sts[j])],v1+1,v2+1),⟨hlt,hi,UY h.beast.1 hbo,by simp;omega⟩,by simp only;omega,?_⟩;simp only [List.map_append,List.map_cons,List.map_nil];(refine Zj ?_ ?_ ?_ rfl rfl<;>dsimp only [Cm.camelL,Uf,ZaF,Zf,Zl,Zg,Zi,Zc,Zn,Zw,mtL,mtB,mtS,id,go_sem]<;>simp [Cm.camelL,Uf,ZaF,Zf,Zl,Zg,Zi,Zc,Zn,Zw,mtL,mtB,mtS,Za])
 refine Zr (by simp;omega) ?_;dsimp only [go_sem];rw [if_pos (List.drop_eq_nil_of_le (by omega))] at hi;rw [Zh (n:=(j:Int)+1) (by omega) (by omega)];refine ⟨(j+1,Uf s.breed b.1,acc,v1,v2),⟨hlt,hi,UY h.beast.1 hbo,by simp only;omega⟩,by simp only;omega,?_⟩;(refine Zj ?_ ?_ ?_ rfl rfl<;>dsimp only [Cm.camelL,Uf,Zf,Zl,Zg,Zi,Zc,Zn,Zw,mtL,mtB,mtS,id,go_sem]<;>simp [Cm.camelL,Uf,Zf,Zl,Zg,Zi,Zc,Zn,Zw,mtL,mtB,mtS,Za])
end Go.Proofs.YtiigiflofnjilaaGreat
namespace Go.Azalai
open Go.Sx
theorem Zge {l:Land} {p:Span}:∀ {legs:List Int} {v a b:Int} {k k':Nat} {acc:List Stop},X0 l v legs k'=none->(goS l p v a b legs k acc).2.2=0->(goS l p v a b legs k acc).1.map Stop.leg=acc.map Stop.leg ++ legs
 | [],_,_,_,_,_,_,_,_=>by simp [goS]
 | i :: r,v,a,b,k,k',acc,h,h0=>by
  simp only [X0] at h;split at h
  . cases h
  rename_i hn;obtain ⟨n,x,rfl,hk,hx,_,e⟩:=ZaK hn;simp only [goS,Int.toNat_natCast,hx] at h0 ⊢;split
  . rename_i h1;rw [if_pos h1] at h0;simp at h0
  . rename_i h1;rw [if_neg h1] at h0;rw [e] at h;rw [Zge h h0];simp
theorem Zhy {l:Land} {p:Span} {s d:Int} {legs:List Int} (h:(YK l p s d legs).2.2=0):(YK l p s d legs).1.map Stop.leg=legs:=by
 unfold YK at h ⊢;split
 . rename_i h1;rw [if_pos h1] at h;exact absurd h h1
 rename_i h1;rw [if_neg h1] at h;split
 . rename_i h2;rw [if_pos h2] at h;simp at h
 rename_i h2;rw [if_neg h2] at h;split
 . rename_i h3;rw [if_pos h3] at h;simp at h
 rename_i h3;rw [if_neg h3] at h;split
 . rename_i h4;rw [h4] at h;simp at h
 rename_i h4;rw [h4] at h;rw [Zge h4 h];simp
theorem ZhI {s:Season} {legs:List Int} (h:X7 s legs=true):(Zy s legs).map Stop.leg=legs:=by
 simp only [X7,Bool.and_eq_true,decide_eq_true_eq] at h;exact Zhy h.1
def Zap (n:Int):List (Int × Int)->Nat->Option Nat
 | [],_=>none
 | p :: r,i=>if n * p.1 > p.2 then some i else Zap n r (i+1)
def Za5 (n:Int) (g:Int × Int × List (Int × Int)):Int × Int :=
 match Zap n g.2.2 0 with
 | some i=>(4,i)
 | none=>(g.1,g.2.1)
def WR (s:Season) (p:Plan) (x:Scene):Int × Int :=
 if X7 s p.legs=false then (1,0) else if p.animals=0 then (0,0) else Za5 p.animals (goF s x p.slabs (Zy s p.legs))
theorem ZmH {s:Season} {x:Scene} {slabs:Int} (hb:ZA s.breed=true):∀ {l:List Stop} {i:Nat} {c:Camel} {acc:List (Int × Int)},Zz s.breed c=true->(∀ q ∈ acc,0<=q.1/\q.1<=1000000) ->
 (∀ q ∈ (goG s x slabs l i c acc).2.2,0<=q.1/\q.1<=1000000)/\(goG s x slabs l i c acc).2.2.length<=acc.length+l.length
 | [],_,_,acc,_,ha=>⟨ha,by simp [goG]⟩
 | st :: r,i,c,acc,hc,ha=>by
  simp only [goG];split
  . exact ⟨ha,by simp only;omega⟩
  have hbo:=Zcg (x:=x) (d:=(Y9 s.land st.leg s.pace).1) (slabs:=slabs) hb hc;have hw:=ZdQ hb hbo;split
  . obtain ⟨h1,h2⟩:=ZmH (s:=s) (x:=x) (slabs:=slabs) hb (l:=r) (i:=i+1) (acc:=acc) (UY hb hbo) ha;exact ⟨h1,by simp only [List.length_cons];omega⟩
  . obtain ⟨h1,h2⟩:=ZmH (s:=s) (x:=x) (slabs:=slabs) hb (l:=r) (i:=i+1) (acc:=acc ++ [(s.breed.full - (Y1 s x (Y9 s.land st.leg s.pace).1 slabs c).1.water.lo,ZaF s x st)]) (UY hb hbo) (λq hq=>by
     rcases List.mem_append.1 hq with hq | hq
     . exact ha q hq
     . simp only [List.mem_singleton] at hq;subst hq;simp only;omega)
    exact ⟨h1,by simp only [List.length_cons,List.length_append,List.length_nil] at h2 ⊢;omega⟩
theorem Zg1 {s:Season} {x:Scene} {slabs:Int} {l:List Stop} (hb:ZA s.breed=true) (hc:Zz s.breed s.camel=true):(∀ q ∈ (goF s x slabs l).2.2,0<=q.1/\q.1<=1000000)/\(goF s x slabs l).2.2.length<=l.length:=by
 unfold goF;split
 . simp
 . obtain ⟨h1,h2⟩:=ZmH (x:=x) (slabs:=slabs) hb (l:=l) (i:=0) (acc:=[]) hc (by simp);exact ⟨h1,by simpa using h2⟩
end Go.Azalai
namespace Go.Proofs.YtiigiflofnjilaaGreat
open Go Go.Sx Go.Azalai
theorem UK {s:Season} {p:Plan} (h:U9 s p=true):(∃ v,Xr s.land s.start [s.start] p.legs=some v)/\0<=p.animals/\p.animals<=s.herd/\0<=p.slabs/\p.slabs<=12:=by
 simp only [U9,inR,Bool.and_eq_true,decide_eq_true_eq,Option.isSome_iff_exists] at h;exact ⟨h.1.1,by omega⟩
end Go.Proofs.YtiigiflofnjilaaGreat
namespace Go.Azalai
open Go.Sx
def VJ (n:Int) (st:Stop) (p:Int × Int):Draw:=⟨st.well,st.arrives.lo,n * p.1⟩
def Ws (n:Int) (l:List Stop) (g:List (Int × Int)):List Draw:=List.zipWith (VJ n) l g
def WU (s:Season) (x:Scene) (n slabs:Int) (l:List Stop):List Draw :=
 if l=[] then [] else if n=0 then l.dropLast.map λst=>⟨st.well,st.arrives.lo,0⟩ else Ws n l (goF s x slabs l).2.2
def Zh8 (s:Season) (x:Scene) (n slabs:Int) (l:List Stop):Int × Int:=if n=0 then (0,0) else Za5 n (goF s x slabs l)
theorem Zf4 {s:Season} {x:Scene} {slabs:Int}:∀ {l:List Stop} {i:Nat} {c:Camel} {acc:List (Int × Int)},∃ more,(goG s x slabs l i c acc).2.2=acc ++ more
 | [],_,_,acc=>⟨[],by simp [goG]⟩
 | st :: r,i,c,acc=>by
  simp only [goG];split
  . exact ⟨[],by simp⟩
  split
  . exact Zf4
  . obtain ⟨m,hm⟩:=Zf4 (s:=s) (x:=x) (slabs:=slabs) (l:=r) (i:=i+1) (c:=Uf s.breed (Y1 s x (Y9 s.land st.leg s.pace).1 slabs c).1) (acc:=acc ++ [(s.breed.full - (Y1 s x (Y9 s.land st.leg s.pace).1 slabs c).1.water.lo,ZaF s x st)]);exact ⟨_,by rw [hm,List.append_assoc]⟩
theorem ZbL {n:Int}:∀ {a b:List (Int × Int)} {i:Nat},Zap n a i=none->Zap n (a ++ b) i=Zap n b (i+a.length)
 | [],_,_,_=>by simp
 | p :: a,b,i,h=>by
  simp only [Zap] at h;split at h
  . cases h
  rename_i hp;simp only [List.cons_append,Zap];rw [if_neg hp,ZbL h,List.length_cons];congr 1;omega
theorem Zfh {n:Int} {l:List Stop} {acc:List (Int × Int)} {p:Int × Int} {j:Nat} (hj:j < l.length) (ha:acc.length=j):Ws n l (acc ++ [p])=Ws n l acc ++ [VJ n l[j] p]:=by
 simp only [Ws];subst ha;have h1:l=l.take acc.length ++ l.drop acc.length:=(List.take_append_drop ..).symm;have hlen:(l.take acc.length).length=acc.length:=by simp;omega
 have e1:List.zipWith (VJ n) l (acc ++ [p])=List.zipWith (VJ n) (l.take acc.length) acc ++ List.zipWith (VJ n) (l.drop acc.length) [p]:=by
  rw [<- List.zipWith_append hlen,<- h1]
 have e2:List.zipWith (VJ n) l acc=List.zipWith (VJ n) (l.take acc.length) acc:=by
  have:=List.zipWith_append (f:=VJ n) (l₁:=l.take acc.length) (l₁':=l.drop acc.length) (l₂:=acc) (l₂':=[]) hlen;rw [<- h1] at this;simpa using this
 rw [e1,e2,List.drop_eq_getElem_cons hj];simp only [List.zipWith_cons_cons,List.zipWith_nil_right]
end Go.Azalai
namespace Go.Proofs.YtiigiflofnjilaaGreat
open Go Go.Sx Go.Azalai
def ZzV (s:Season) (k:Int) (l:List Stop) (slabs:Int):Ot:=⟨false,.cl 163 [.p 0 0,.p 1 0,.p 2 0],[(0,.cells (YG s k) 120),(1,.cells [.sl false 6 (l.map Zw)] 90),(2,.cells [I slabs] 3)],3⟩
theorem ZfZ (s:Season) (k:Int) (l:List Stop) (slabs:Int):CtM Tryz.prog 135 [] 0 [.agg (YG s k),.sl false 6 (l.map Zw),I slabs] (λo=>o=ZzV s k l slabs):=by
 refine m135 (by simp [hpb]) (λo ho=>by subst ho;simp [ZzV,YG,KX,KXL,KXP,KXH,Za,KFL,KF,Zf,Zl,Zg,Zi,Zc,Zn,Zw]) ?_;dsimp only [c135,r135,go_sem];refine ⟨_,rfl,?_⟩;(refine Yb ?_ ?_ ?_ rfl<;>dsimp only [ZzV,YG,Zf,Zl,Zg,Zi,Zc,Zn,Zw,id,go_sem]<;>simp [ZzV,YG,Zf,Zl,Zg,Zi,Zc,Zn,Zw,Za])
def Um (w:Int × Int) (ds:List Draw):Ot:=if w.1=0 then ⟨false,.sl false 3 (ds.map Z2),[],0⟩ else XT w.1 w.2
theorem ZpT (s:Season) (h:OkS s) (k:Nat) (hk:k < s.scenes.length) (l:List Stop) (hl:l.length<=1000) (n slabs:Int) (hn:0<=n/\n<=s.herd) (hsl:0<=slabs/\slabs<=12) :
 CtM Tryz.prog 92 [] 0 [.agg (YG s k),.sl false 6 (l.map Zw),I n,I slabs] (λo=>o=Um (Zh8 s s.scenes[k] n slabs l) (WU s s.scenes[k] n slabs l)):=by
 have hnum:=h.num;have hx:=h.scene _ (List.getElem_mem hk);have hy:s.scenes[k].yields.length=s.land.wells.length:=by simp only [YB,Bool.and_eq_true,decide_eq_true_eq] at hx;omega
 have hb:0<=slabs * s.slab/\slabs * s.slab<=12 * 1000000:=⟨Int.mul_nonneg hsl.1 (by omega),Int.mul_le_mul hsl.2 (by omega) (by omega) (by decide)⟩
 refine m92 (by simp [hpb]) (λo ho=>by subst ho;unfold Um;split<;>simp [XT,KX,KXL,KXP,Za,KFL,KF,Z2]) ?_;dsimp only [c92,r92,YG,go_sem];simp only [List.length_map];by_cases hl0:l=[]
 . subst hl0;refine Zq (by simp) ?_;dsimp only [go_sem];refine call (Cm.carries_ok s.breed s.camel) ?_;dsimp only [Cm.sres,Zc,go_sem];rw [show (if ZaG s.breed s.camel=0 then Zs7 s.breed s.camel else Wo)=Ze4 s.breed s.camel from rfl];repeat (refine gb ?_;dsimp only [go_sem])
   rw [Zh (n:=slabs * s.slab) (by omega) (by omega)];by_cases hok:n=0\/slabs * s.slab<=(Ze4 s.breed s.camel).lo
   . rw [show (n == 0 || decide (slabs * s.slab<=(Ze4 s.breed s.camel).lo))=true from by simpa using hok];refine Y7 [] (U2 2 0) rfl rfl rfl ?_ ?_ ?_
     . (repeat first | dsimp only [go_sem] | simp only [nbr])
       try simp [mtL,mtB,mtS]
     . trivial
     rintro _ rfl
     (repeat first | dsimp only [go_sem] | simp only [nbr])
     refine ⟨_,rfl,?_⟩;have hw:Zh8 s s.scenes[k] n slabs []=(0,0):=by
      unfold Zh8;split
      . rfl
      . rw [goF,if_pos rfl,if_neg (by omega)];rfl
     rw [hw];simp only [Um,if_true,WU,List.map_nil];refine Vb (ZG (Yg 0 3 111 rfl rfl) (ZG (UB 0 4 0 rfl rfl rfl rfl) ?_)) (λ_ _ _ e=>by cases e);(refine Zj ?_ ?_ ?_ rfl rfl<;>dsimp only [id,go_sem]<;>simp [Za])
   . rw [show (n == 0 || decide (slabs * s.slab<=(Ze4 s.breed s.camel).lo))=false from by simpa using hok];refine Y7 [] (Zb8 2 0) rfl rfl rfl ?_ ?_ ?_
     . (repeat first | dsimp only [go_sem] | simp only [nbr])
       try simp [mtL,mtB,mtS]
     . trivial
     rintro _ rfl
     (repeat first | dsimp only [XT,go_sem] | simp only [nbr])
     refine ⟨_,rfl,?_⟩;have hw:Zh8 s s.scenes[k] n slabs []=(2,0):=by
      unfold Zh8;rw [if_neg (by omega),goF,if_pos rfl,if_pos (by omega)];rfl
     rw [hw];simp only [Um];(refine Yb ?_ ?_ ?_ rfl<;>dsimp only [XT,id,go_sem]<;>simp [XT,Za])
 have hl1:l.length≠0:=λe=>hl0 (List.length_eq_zero_iff.1 e);refine Zr (by simpa using hl0) ?_;dsimp only [go_sem];by_cases hn0:n=0
 . refine Zq (by simpa using hn0) ?_;dsimp only [go_sem];simp only [List.length_map];refine ⟨0,l.length - 1,⟨rfl,by rw [Zh (by omega) (by omega)];omega,by omega,by simp⟩,?_⟩;rw [List.drop_zero,show (l.map Zw).take (l.length - 1)=l.dropLast.map Zw from by rw [List.dropLast_eq_take,List.map_take]];dsimp only [go_sem];simp only [List.length_map];have hwF:Zh8 s s.scenes[k] n slabs l=(0,0):=by simp only [Zh8,if_pos hn0]
   have hdF:WU s s.scenes[k] n slabs l=l.dropLast.map λst=>⟨st.well,st.arrives.lo,0⟩:=by simp only [WU,if_neg hl0,if_pos hn0]
   have hdl:l.dropLast.length<=1000:=by simp;omega
   rw [hwF,hdF];generalize l.dropLast=m at hdl ⊢;refine Zau (ZG (Ww [4,5,6,8,11,49,50,51] rfl) (XG 3 0 3 111 rfl rfl)) (λq:Nat × Nat × List Draw=>[(51,I q.1)])
    (λq=>[(3,.cells [.mr 4 q.2.1] 54),(4,.row q.2.1 3 (q.2.2.map Z2) 111)]) (λq=>q.1<=m.length/\q.2.2=(m.map λst=>(⟨st.well,st.arrives.lo,0⟩:Draw)).take q.1) (λq=>m.length - q.1) (0,0,[]) ⟨Nat.zero_le _,by simp⟩ ?_ ?_
   . (refine Zj ?_ ?_ ?_ rfl rfl<;>dsimp only [YG,Zf,Zl,Zg,Zi,Zc,Zn,Zw,Z2,id,go_sem]<;>simp [YG,Zf,Zl,Zg,Zi,Zc,Zn,Zw,Z2,Za])
   rintro ⟨j,v,D⟩ ⟨hj,hD⟩;simp only at hj hD;dsimp only [go_sem];by_cases hlt:j < m.length
   . refine Zq (by simpa using hlt) ?_;dsimp only [go_sem];refine Zo j hlt rfl ?_;dsimp only [Zw,go_sem];simp only [nbr];dsimp only [go_sem];refine ⟨(by intro c hc;simp only [List.mem_singleton] at hc;subst hc;rfl),by simp [hD];omega,?_⟩;dsimp only [go_sem];rw [Zh (n:=(j:Int)+1) (by omega) (by omega)];refine ⟨(j+1,v+1,D ++ [⟨m[j].well,m[j].arrives.lo,0⟩]),⟨hlt,?_⟩,by simp only;omega,?_⟩
     . simp only;rw [List.take_succ_eq_append_getElem (by simpa using hlt),<- hD,List.getElem_map]
     simp only [List.map_append,List.map_cons,List.map_nil];(refine Zj ?_ ?_ ?_ rfl rfl<;>dsimp only [YG,Zf,Zl,Zg,Zi,Zc,Zn,Zw,Z2,id,go_sem]<;>simp [YG,Zf,Zl,Zg,Zi,Zc,Zn,Zw,Z2,Za])
   refine Zr (by simp;omega) ?_;dsimp only [go_sem];rw [List.take_of_length_le (by simp;omega)] at hD;rw [<- hD];refine ⟨_,rfl,?_⟩;simp only [Um,if_true];refine Vb (ZG (UB 0 4 v rfl rfl rfl rfl) ?_) (λ_ _ _ e=>by cases e);(refine Zj ?_ ?_ ?_ rfl rfl<;>dsimp only [Z2,id,go_sem]<;>simp [Z2,Za])
 refine Zr (by simpa using hn0) ?_;dsimp only [go_sem];refine UV [] (ZfZ s k l slabs) rfl rfl rfl ?_ ?_ ?_
 . exact Zb (by simp [YG,Zf,Zl,Zg,Zi,Zc,Zn,Zw,Za])
 . trivial
 dsimp only [ZzV,YG,go_sem];refine gh (XG 3 0 3 111 rfl rfl) ?_;dsimp only [go_sem];refine ⟨b163,λrec=>?_⟩;refine y163 ?_;dsimp only [c163,r163,go_sem];have hgF:goF s s.scenes[k] slabs l=goG s s.scenes[k] slabs l 0 s.camel []:=by simp only [goF,if_neg hl0]
 have hgs:∀ (j n:Nat) (hj:j < l.length) c acc,goG s s.scenes[k] slabs (l.drop j) n c acc=if (Y1 s s.scenes[k] (Y9 s.land l[j].leg s.pace).1 slabs c).2≠0 then ((Y1 s s.scenes[k] (Y9 s.land l[j].leg s.pace).1 slabs c).2,(n:Int),acc)
  else goG s s.scenes[k] slabs (l.drop (j+1)) (n+1) (Uf s.breed (Y1 s s.scenes[k] (Y9 s.land l[j].leg s.pace).1 slabs c).1)
   (if l.drop (j+1)=[] then acc else acc ++ [(s.breed.full - (Y1 s s.scenes[k] (Y9 s.land l[j].leg s.pace).1 slabs c).1.water.lo,ZaF s s.scenes[k] l[j])]):=λj n hj c acc=>by
  rw [List.drop_eq_getElem_cons hj,goG]
 have hwF:Zh8 s s.scenes[k] n slabs l=Za5 n (goF s s.scenes[k] slabs l):=by simp only [Zh8,if_neg hn0]
 have hdF:WU s s.scenes[k] n slabs l=Ws n l (goF s s.scenes[k] slabs l).2.2:=by simp only [WU,if_neg hl0,if_neg hn0]
 rw [hwF,hdF];refine XE [0,1,2,3,5,13,14,15] rfl (λq:Nat × Camel × List (Int × Int) × Nat=>[(15,I q.1)])
  (λq=>[(9,.cells (Cm.camelL q.2.1) 31),(3,.cells [.mr 7 q.2.2.2] 54),(7,.row q.2.2.2 3 ((Ws n l q.2.2.1).map Z2) 111)])
  (λq=>q.1 < l.length/\goG s s.scenes[k] slabs (l.drop q.1) q.1 q.2.1 q.2.2.1=goF s s.scenes[k] slabs l/\Zz s.breed q.2.1=true/\Zap n q.2.2.1 0=none/\q.2.2.1.length=q.1) (λq=>l.length - q.1) (0,s.camel,[],0)
  ⟨by simp only;omega,hgF.symm,h.beast.2,rfl,rfl⟩ ?_ ?_
 . (refine Zj ?_ ?_ ?_ rfl rfl<;>dsimp only [Cm.camelL,Ws,YG,Zf,Zl,Zg,Zi,Zc,Zn,Zw,Z2,mtL,mtB,mtS,id,go_sem]<;>simp [Cm.camelL,Ws,YG,Zf,Zl,Zg,Zi,Zc,Zn,Zw,Z2,mtL,mtB,mtS,Za])
 rintro ⟨j,c,acc,v⟩ ⟨hlt,hi,hc,hdry,hal⟩;simp only at hlt hi hc hdry hal;dsimp only [Cm.camelL,go_sem];simp only [List.length_map];refine Zq (by simpa using hlt) ?_;dsimp only [go_sem];refine Zo j hlt rfl ?_;dsimp only [Zw,go_sem];refine call (Zuu s h l[j].leg) ?_;dsimp only [sres,Zc,go_sem];have hm:=Zpa s k hk j c (Y9 s.land l[j].leg s.pace).1 slabs hsl (by omega) (ZgY h.lp);rw [hgs j j hlt] at hi
 have hbo:=Zcg (x:=s.scenes[k]) (d:=(Y9 s.land l[j].leg s.pace).1) (slabs:=slabs) h.beast.1 hc;generalize Y1 s s.scenes[k] (Y9 s.land l[j].leg s.pace).1 slabs c=b at hi hbo hm;have hwb:=ZdQ h.beast.1 hbo;by_cases hw:b.2=0
 case neg =>
  simp only [ZbK,if_neg hw] at hm;refine Y7 [] hm rfl rfl rfl ?_ ?_ ?_
  . exact Zb (by simp [YG,Cm.camelL,Zf,Zl,Zg,Zi,Zc,Zn,Zw,Za,KFL,KF])
  . trivial
  rintro _ rfl
  (repeat first | dsimp only [XT,go_sem] | simp only [nbr])
  rw [if_pos hw] at hi;rw [<- hi];refine ⟨_,rfl,?_⟩;rw [show Za5 n (b.2,(j:Int),acc)=(b.2,(j:Int)) from by simp only [Za5,hdry]];simp only [Um,if_neg hw];(refine Yb ?_ ?_ ?_ rfl<;>dsimp only [XT,id,go_sem]<;>simp [XT,Za])
 simp only [ZbK,if_pos hw] at hm;refine Y7 [] hm rfl rfl rfl ?_ ?_ ?_
 . exact Zb (by simp [YG,Cm.camelL,Zf,Zl,Zg,Zi,Zc,Zn,Zw,Za,KFL,KF])
 . trivial
 rintro _ rfl
 (repeat first | dsimp only [camelL,Cm.camelL,go_sem] | simp only [nbr])
 rw [if_neg (by simpa using hw)] at hi;refine ⟨trivial,trivial,?_⟩;rw [Zh (n:=(j:Int)+1) (by omega) (by omega)];simp only [List.length_map];by_cases hlast:j+1=l.length
 . refine Zq (by simp;omega) ?_;dsimp only [go_sem];refine ⟨by trivial,?_⟩;refine Zq rfl ?_;dsimp only [go_sem];rw [if_pos (List.drop_eq_nil_of_le (by omega)),List.drop_eq_nil_of_le (by omega),goG] at hi;rw [<- hi];refine ⟨_,rfl,?_⟩;rw [show Za5 n (0,0,acc)=(0,0) from by simp only [Za5,hdry]];simp only [Um,if_true];refine Vb (ZG (UB 0 7 v rfl rfl rfl rfl) ?_) (λ_ _ _ e=>by cases e);(refine Zj ?_ ?_ ?_ rfl rfl<;>dsimp only [Z2,id,go_sem]<;>simp [Z2,Za])
 refine Zr (by simp;omega) ?_;dsimp only [go_sem];rw [if_neg (by intro e;rw [List.drop_eq_nil_iff] at e;omega)] at hi;refine Zo j hlt rfl ?_;dsimp only [Zw,go_sem];refine Zo j hlt rfl ?_;dsimp only [Zw,go_sem];have hm2:0<=n * (s.breed.full - b.1.water.lo)/\n * (s.breed.full - b.1.water.lo)<=30 * 1000000:=⟨Int.mul_nonneg hn.1 (by omega),Int.mul_le_mul (by omega) (by omega) (by omega) (by decide)⟩
 rw [Zh (n:=s.breed.full - b.1.water.lo) (by omega) (by omega),Zh (n:=n * (s.breed.full - b.1.water.lo)) (by omega) (by omega)];refine Zo j hlt rfl ?_;dsimp only [Zw,go_sem];refine call (Ztl s h.small k hk hy l[j]) ?_;dsimp only [go_sem];by_cases hdr:n * (s.breed.full - b.1.water.lo)<=ZaF s s.scenes[k] l[j]
 case neg =>
  rw [show decide (n * (s.breed.full - b.1.water.lo)<=ZaF s s.scenes[k] l[j])=false from decide_eq_false hdr];refine Y7 [] (Zb8 4 j) rfl rfl rfl ?_ ?_ ?_
  . (repeat first | dsimp only [go_sem] | simp only [nbr])
    try simp [mtL,mtB,mtS]
  . trivial
  rintro _ rfl
  (repeat first | dsimp only [XT,go_sem] | simp only [nbr])
  refine ⟨_,rfl,?_⟩;obtain ⟨more,hmore⟩:=Zf4 (s:=s) (x:=s.scenes[k]) (slabs:=slabs) (l:=l.drop (j+1)) (i:=j+1) (c:=Uf s.breed b.1) (acc:=acc ++ [(s.breed.full - b.1.water.lo,ZaF s s.scenes[k] l[j])]);have hf:Za5 n (goF s s.scenes[k] slabs l)=(4,(j:Int)):=by
   rw [<- hi];simp only [Za5];rw [hmore,List.append_assoc,ZbL hdry,hal];simp only [List.cons_append,List.nil_append,Zap];rw [if_pos (by omega)];simp
  rw [hf];simp only [Um];(refine Yb ?_ ?_ ?_ rfl<;>dsimp only [XT,id,go_sem]<;>simp [XT,Za])
 rw [show decide (n * (s.breed.full - b.1.water.lo)<=ZaF s s.scenes[k] l[j])=true from decide_eq_true hdr];refine Y7 [] (U2 4 j) rfl rfl rfl ?_ ?_ ?_
 . (repeat first | dsimp only [go_sem] | simp only [nbr])
   try simp [mtL,mtB,mtS]
 . trivial
 rintro _ rfl
 (repeat first | dsimp only [go_sem] | simp only [nbr])
 refine ⟨(by intro c hc;simp only [List.mem_singleton] at hc;subst hc;rfl),by simp [Ws];omega,?_⟩;dsimp only [go_sem];refine ⟨by trivial,?_⟩;refine Zr rfl ?_;dsimp only [go_sem];rw [Zh (n:=(j:Int)+1) (by omega) (by omega)];refine ⟨(j+1,Uf s.breed b.1,acc ++ [(s.breed.full - b.1.water.lo,ZaF s s.scenes[k] l[j])],v+1),⟨by simp only;omega,hi,UY h.beast.1 hbo,?_,by simp;omega⟩,by simp only;omega,?_⟩
 . simp only;rw [ZbL hdry];simp only [Zap];rw [if_neg (by omega)]
 simp only;rw [Zfh hlt hal];simp only [List.map_append,List.map_cons,List.map_nil];(refine Zj ?_ ?_ ?_ rfl rfl<;>dsimp only [Cm.camelL,Uf,VJ,YG,Zf,Zl,Zg,Zi,Zc,Zn,Zw,Z2,mtL,mtB,mtS,id,go_sem]<;>simp [Cm.camelL,Uf,VJ,YG,Zf,Zl,Zg,Zi,Zc,Zn,Zw,Z2,mtL,mtB,mtS,Za])
def ZBE:List Ins:=[
 m1 2 5]
def ZBy:SC:=(sr1 [m1 6 2,o1 7 (.raw (Go.Op.binOp Go.BinOp.neq 20 (Go.Operand.tmp 6) (Go.Operand.const Go.Value.nilIface) 20) 4)] (Ji 7 (sr1 [m1 9 2,o1 10 (.raw (Go.Op.typeAssert (Go.Operand.tmp 9) 20 117 Bool.true) 177),m1 8 10,o1 11 (Je 8 0),o1 12
 (Je 8 1),o1 3 (.alloc ZyQ 117),Js 3 11 2,m1 4 12] (.seq (sr1 [m1 13 4,o1 14 (Jh 13)] (Ji 14 (.reg [m1 15 2,⟨none,.raw (Go.Op.panic (Go.Operand.tmp 15)) 0,none,[]⟩]) .skip)) (.regd [0,1,2] [.hide (.t 0),Jo 16 (lt 3 2)] 0 2 [Jv 0 (.c (.slice none 0 0))
 1,Ju 1 16 2 [0,1]]))) .skip))
theorem qw89:RcF Tryz.prog 89 5 ZBE ZBy 17:=⟨⟨Tryz.f89,_,_,_,_,Tryz.func89,rfl,rfl,by kernel_rfl,by kernel_rfl,by kernel_rfl,by kernel_rfl,by decide,rfl⟩,by kernel_rfl⟩
def cw66:SC:=(sr1 [o1 3 (Jz 0 0 34),Jk 6 0] (sr1 [o1 14 (ao 3 28),o1 15 (lf 14 1),m1 7 15] (.seq (sr1 [o1 16 (ao 3 36),o1 17 (lf 16 1),o1 18 (Jl 17),Jk 19 0] (.block 0 (.loop (sr1 [o1 20 (Jb .lss 19 18)] (.seq (Ji 20 .skip (.exit 0)) (.seq (.block 1
 (sr1 [m1 21 19,m1 8 21] (sr1 [o1 22 (lt 3 37),m1 23 8,o1 24 (.build zv3 [(0,37,.t 22),(37,1,.t 23)]),o1 9 (.alloc zv3 120),Js 9 24 38] (sr1 [o1 26 (lt 9 38),m1 27 1,m1 28 2,o1 29 (.build zv6 [(0,1,.t 27),(1,1,.c (.int .i64 1)),(2,1,.t 28)]),o1 30
 (.callm 49 [.t 26,.t 29]),m1 25 30,o1 31 (Je 25 0),o1 32 (Je 25 1),o1 11 (.alloc ZyQ 117),m1 10 31,Js 11 32 2] (.seq (sr1 [o1 33 (ao 11 0),o1 34 (lf 33 1),o1 35 (.bin .neq (.t 34) (.c (.int .u8 0)))] (Ji 35 (sr1 [Jk 6 0] .ret) .skip)) (sr1 [m1 36
 10,o1 37 (Jl 36),Jk 38 0] (.block 2 (.loop (sr1 [o1 39 (Jb .lss 38 37)] (.seq (Ji 39 .skip (.exit 2)) (.seq (.block 3 (sr1 [o1 40 (Jx 36 38 3),o1 41 (lt 40 3),o1 13 (.alloc ZoO 111),Js 13 41 3] (sr1 [o1 42 (ao 13 2),o1 43 (lf 42 1),o1 44 (Jc .gtr 43
 0)] (Ji 44 (.regd (Jr 14) [Jm 45 7,Jo 46 (lt 9 38),Jo 47 (ao 13 0),Jp 48 (lf 47 1) [2],Jo 49 (ao 13 1),Jp 50 (lf 49 1) [4],Jp 51 (.build zv0 [(0,1,.t 50)]) [5],Jp 52 (.build Zu5 [(1,1,.t 48),(4,2,.t 51)]) [3,6],Jp 53 (J2 113 46 52) [1,7],Jo 54 (ao 13
 2),Jp 55 (lf 54 1) [9],Jp 56 (.div .quo (.t 53) (.t 55)) [8,10],Jp 57 (.mm false [.t 45,.t 56]) [0,11]] 0 0 [⟨some 7,.mv (.t 57),none,(Jr 13)⟩]) .skip)))) (.reg [o1 58 (Jc .add 38 1),m1 38 58])))))))))))) (.reg [o1 59 (Jc .add 19 1),m1 19 59])))))))
 (sr1 [m1 60 7,m1 6 60] .ret))))
def rw66:List RV:=[.tmp 6]
theorem tw66:Qt1 Tryz.prog 66 cw66 rw66 61:=Z0 Tryz.func66
end Go.Proofs.YtiigiflofnjilaaGreat
namespace Go.Sx
open Go Go.RowKit
section
variable {P:Program} {ty T T':TypeId} {ix jx:Operand} {σ : St} {r:KT} {K:RK} {d:Option Nat} {s:SV}
theorem Zgk {pt:TypeId} (hu:P.underlying T'=some (.interface (P.methodsAt T'))) (hi:ZaJ σ ix = .ifc T s) (h:YD d (.v (.bool true)) none σ r K):RAW P d (.binOp .neq T' ix (.const .nilIface) pt) ty σ r K:=by
 intro o C E a w next Q e1 e2 e3 hS hn hq;have hiv:=Vx hS hi (λ_ _ _=>by simp);simp only [R] at hiv;obtain ⟨x,hx,hR⟩:=hiv;have hb:=run_neq_held_nil (P:=P) w T' T x hu;have hy:(execOp a.eval o).run P w = .ok (.value (.bool true)) w:=by
  obtain ⟨dst',op',ty',pos,after,guard⟩:=o;simp only at e2;subst e2;have h0:a.eval (.const .nilIface) = .nilIface:=rfl;have hg:(eqGuard .neq T' ix (.const .nilIface) (.iface T x) .nilIface).run P w = .ok () w:=by
   simp [eqGuard,Sem.run_pure]
  simp only [execOp,Sem.run_bind,hx,h0,hg,hb,Result.andThen_ok,Sem.run_pure]
 refine ZM hy (by simp) ?_;show next (a.put o.dst _) _;rw [e1];exact W4 h hS (by simp only [R]) hn
theorem Zk9 {pt:TypeId} (hu:P.underlying T'=some (.interface (P.methodsAt T'))) (hi:ZaJ σ ix = .v .nilIface) (h:YD d (.v (.bool false)) none σ r K):RAW P d (.binOp .neq T' ix (.const .nilIface) pt) ty σ r K:=by
 intro o C E a w next Q e1 e2 e3 hS hn hq;have hx:=Vx hS hi (λ_ _ _=>by simp);simp only [R] at hx;have hb:=run_neq_nil_nil (P:=P) w T' hu;have hy:(execOp a.eval o).run P w = .ok (.value (.bool false)) w:=by
  obtain ⟨dst',op',ty',pos,after,guard⟩:=o;simp only at e2;subst e2;have h0:a.eval (.const .nilIface) = .nilIface:=rfl;have hg:(eqGuard .neq T' ix (.const .nilIface) .nilIface .nilIface).run P w = .ok () w:=by
   simp [eqGuard,Sem.run_pure]
  simp only [execOp,Sem.run_bind,hx,h0,hg,hb,Result.andThen_ok,Sem.run_pure]
 refine ZM hy (by simp) ?_;show next (a.put o.dst _) _;rw [e1];exact W4 h hS (by simp only [R]) hn
end
end Go.Sx
namespace Go.Proofs.YtiigiflofnjilaaGreat
open Go Go.Sx Go.Azalai
theorem Zzy {s:Season} {x:Scene} {slabs:Int}:∀ {l:List Stop} {i:Nat} {c:Camel} {acc:List (Int × Int)},(goG s x slabs l i c acc).1=0->((goG s x slabs l i c acc).1,(goG s x slabs l i c acc).2.1)=(0,0)
 | [],_,_,acc,_=>by simp [goG]
 | st :: r,i,c,acc,h=>by
  simp only [goG] at h ⊢;split
  . rename_i hb;rw [if_pos hb] at h;exact absurd h hb
  . rename_i hb;rw [if_neg hb] at h;exact Zzy h
theorem goF_z {s:Season} {x:Scene} {slabs:Int} {l:List Stop} (h:(goF s x slabs l).1=0):((goF s x slabs l).1,(goF s x slabs l).2.1)=(0,0):=by
 unfold goF at h ⊢;split
 . rename_i hb;rw [if_pos hb] at h;simp only at h ⊢;rw [h]
 . rename_i hb;rw [if_neg hb] at h;exact Zzy h
theorem u20:Tryz.prog.underlying 20=some (.interface (Tryz.prog.methodsAt 20)):=by kernel_rfl
theorem Zev {s:Season} {p:Plan} {x:Scene}:WR s p x=if X7 s p.legs=false then (1,0) else Zh8 s x p.animals p.slabs (Zy s p.legs):=by
 unfold WR Zh8;rfl
def WP (s:Season) (p:Plan) (x:Scene):List Draw:=if (WR s p x).1=0 then WU s x p.animals p.slabs (Zy s p.legs) else []
def ZyN (w:Int × Int) (ds:List Draw):Ot:=⟨false,.tup [.sl false 3 (ds.map Z2),.agg [U8 w.1,I w.2]],[],0⟩
theorem ZA9 (s:Season) (h:OkS s) (k:Nat) (hk:k < s.scenes.length) (p:Plan) (hp:U9 s p=true) (hg:p.legs.length<=1000) :
 CtM Tryz.prog 49 [] 0 [.agg (YG s k),.agg (ZK p)] (λo=>o=ZyN (WR s p s.scenes[k]) (WP s p s.scenes[k])):=by
 have hnum:=h.num;obtain ⟨_,hpl⟩:=UK hp;refine m49 (by simp [hpb]) (λo ho=>by subst ho;simp [ZyN,KX,KXL,KXP,Za,KFL,KF,Z2]) ?_;dsimp only [c49,r49,YG,ZK,go_sem];refine call (ZqE s h p.legs hg _) ?_;dsimp only [go_sem];by_cases hs:X7 s p.legs=true
 case neg =>
  rw [Bool.eq_false_iff.2 hs];refine Y7 [] (Zb8 1 0) rfl rfl rfl ?_ ?_ ?_
  . (repeat first | dsimp only [go_sem] | simp only [nbr])
    try simp [mtL,mtB,mtS]
  . trivial
  rintro _ rfl
  (repeat first | dsimp only [XT,go_sem] | simp only [nbr])
  refine ⟨_,_,_,_,qw89,?_⟩;dsimp only [ZBE,ZBy,go_sem];refine ⟨rfl,?_⟩;refine Zgk u20 rfl ?_;dsimp only [go_sem];refine Zq rfl ?_;dsimp only [go_sem];refine ZbQ Zdt rfl ?_;dsimp only [go_sem];refine Zr rfl ?_;dsimp only [go_sem];refine ⟨_,rfl,?_⟩;have hF:WR s p s.scenes[k]=(1,0):=by rw [Zev,if_pos (Bool.eq_false_iff.2 hs)]
  rw [ZyN,WP,hF];refine Vb (ZG (Zag (s':=.tup [.sl false 3 [],.agg [U8 1,I 0]]) 0 rfl (W7 (ZC Yk XK)) (λ_ _ _ h=>by cases h)) ?_) (λ_ _ _ e=>by cases e);(refine Zj ?_ ?_ ?_ rfl rfl<;>dsimp only [id,go_sem]<;>simp [Za])
 rw [hs];refine Y7 [] (U2 1 0) rfl rfl rfl ?_ ?_ ?_
 . (repeat first | dsimp only [go_sem] | simp only [nbr])
   try simp [mtL,mtB,mtS]
 . trivial
 rintro _ rfl
 (repeat first | dsimp only [go_sem] | simp only [nbr])
 have hF:WR s p s.scenes[k]=Zh8 s s.scenes[k] p.animals p.slabs (Zy s p.legs):=by rw [Zev,if_neg (by simp [hs])]
 have hd:=ZpT s h k hk (Zy s p.legs) (Nat.le_trans VG hg) p.animals p.slabs ⟨hpl.1,hpl.2.1⟩ hpl.2.2;rw [<- hF] at hd;have hT:WP s p s.scenes[k]=if (WR s p s.scenes[k]).1=0 then WU s s.scenes[k] p.animals p.slabs (Zy s p.legs) else []:=rfl
 rw [hT];have hz:(WR s p s.scenes[k]).1=0->WR s p s.scenes[k]=(0,0):=λh0=>by
  rw [hF] at h0 ⊢
  revert h0
  unfold Zh8;split
  . intro _;rfl
  . unfold Za5;split
    . intro h1;simp at h1
    . intro h1;exact goF_z h1
 generalize WR s p s.scenes[k]=w at hd hz ⊢;generalize WU s s.scenes[k] p.animals p.slabs (Zy s p.legs)=D at hd ⊢;by_cases hw:w.1=0
 . simp only [Um,if_pos hw] at hd;refine Y7 [] hd rfl rfl rfl ?_ ?_ ?_
   . exact Zb (by simp [YG,Zf,Zl,Zg,Zi,Zc,Zn,Zw,Za])
   . trivial
   rintro _ rfl
   (repeat first | dsimp only [go_sem] | simp only [nbr])
   refine ⟨_,_,_,_,qw89,?_⟩;dsimp only [ZBE,ZBy,go_sem];refine ⟨rfl,?_⟩;refine Zk9 u20 rfl ?_;dsimp only [go_sem];refine Zr rfl ?_;dsimp only [go_sem];refine ⟨_,rfl,?_⟩;rw [hz hw];simp only [ZyN,if_true];(refine Yb ?_ ?_ ?_ rfl<;>dsimp only [Z2,id,go_sem]<;>simp [Z2,Za])
 simp only [Um,if_neg hw] at hd;refine Y7 [] hd rfl rfl rfl ?_ ?_ ?_
 . exact Zb (by simp [YG,Zf,Zl,Zg,Zi,Zc,Zn,Zw,Za])
 . trivial
 rintro _ rfl
 (repeat first | dsimp only [XT,go_sem] | simp only [nbr])
 refine ⟨_,_,_,_,qw89,?_⟩;dsimp only [ZBE,ZBy,go_sem];refine ⟨rfl,?_⟩;refine Zgk u20 rfl ?_;dsimp only [go_sem];refine Zq rfl ?_;dsimp only [go_sem];refine ZbQ Zdt rfl ?_;dsimp only [go_sem];refine Zr rfl ?_;dsimp only [go_sem];refine ⟨_,rfl,?_⟩;rw [ZyN,if_neg hw];refine Vb (ZG (Zag (s':=.tup [.sl false 3 [],.agg [U8 w.1,I w.2]]) 0 rfl (W7 (ZC Yk XK)) (λ_ _ _ h=>by cases h)) ?_) (λ_ _ _ e=>by cases e)
 (refine Zj ?_ ?_ ?_ rfl rfl<;>dsimp only [id,go_sem]<;>simp [Za])
theorem Zqn {a b:Span} (h1:a.lo=b.lo) (h2:a.hi=b.hi):a=b:=by
 obtain ⟨_,_⟩:=a;obtain ⟨_,_⟩:=b
 simp_all
theorem ZiR (a b:List Span) (ha:a.length<=1000000) (hb:b.length<=1000000) (c c':Bool):Ct Tryz.prog 56 [.sl c 2 (a.map Zc),.sl c' 2 (b.map Zc)] (B (decide (a=b))):=by
 refine t56.1 (by simp [Za,Zc]) (by simp) ?_;dsimp only [c56,r56,go_sem];simp only [List.length_map];by_cases hl:a.length=b.length
 case neg =>
  refine Zq (by simp;omega) ?_;dsimp only [go_sem];have:a≠b:=λe=>hl (by rw [e]);simp [this]
 refine Zr (by simp;omega) ?_;dsimp only [go_sem];refine Yy (λj:Nat=>[(5,I j)]) (λ_=>[]) (λj=>j<=a.length/\a.take j=b.take j) (λj=>a.length - j) 0 ⟨Nat.zero_le _,rfl⟩ ?_ ?_
 . (refine Zj ?_ ?_ ?_ rfl rfl<;>dsimp only [Zc,id,go_sem]<;>simp [Zc,Za])
 rintro j ⟨hj,ht⟩;dsimp only [go_sem];simp only [List.length_map];by_cases hlt:j < a.length
 . refine Zq (by simpa using hlt) ?_;dsimp only [go_sem];have hltb:j < b.length:=by omega
   refine Zo j hlt rfl ?_;dsimp only [go_sem];refine Zo j hltb rfl ?_;dsimp only [Zc,go_sem];by_cases he:a[j]=b[j]
   . refine Zr (by rw [he];simp [ngB]) ?_;dsimp only [go_sem];rw [Zh (n:=(j:Int)+1) (by omega) (by omega)];refine ⟨j+1,⟨hlt,?_⟩,by omega,?_⟩
     . rw [List.take_succ_eq_append_getElem hlt,List.take_succ_eq_append_getElem hltb,ht,he]
     (refine Zj ?_ ?_ ?_ rfl rfl<;>dsimp only [Zc,id,go_sem]<;>simp [Zc,Za])
   . refine Zq ?_ ?_
     . apply Decidable.byContradiction;intro hq;simp at hq;exact he (Zqn hq.1 hq.2)
     dsimp only [go_sem];have:a≠b:=λe=>he (by subst e;rfl);simp [this]
 refine Zr (by simp;omega) ?_;dsimp only [go_sem];have:a=b:=by
  rw [List.take_of_length_le (by omega),List.take_of_length_le (by omega)] at ht;exact ht
 simp [this]
theorem ZeJ (a b:List Int) (ha:a.length<=1000000) (hb:b.length<=1000000) (c c':Bool):Ct Tryz.prog 57 [.sl c 1 (a.map Zn),.sl c' 1 (b.map Zn)] (B (decide (a=b))):=by
 refine t57.1 (by simp [Za,Zn]) (by simp) ?_;dsimp only [c57,r57,go_sem];simp only [List.length_map];by_cases hl:a.length=b.length
 case neg =>
  refine Zq (by simp;omega) ?_;dsimp only [go_sem];have:a≠b:=λe=>hl (by rw [e]);simp [this]
 refine Zr (by simp;omega) ?_;dsimp only [go_sem];refine Yy (λj:Nat=>[(5,I j)]) (λ_=>[]) (λj=>j<=a.length/\a.take j=b.take j) (λj=>a.length - j) 0 ⟨Nat.zero_le _,rfl⟩ ?_ ?_
 . (refine Zj ?_ ?_ ?_ rfl rfl<;>dsimp only [Zn,id,go_sem]<;>simp [Zn,Za])
 rintro j ⟨hj,ht⟩;dsimp only [go_sem];simp only [List.length_map];by_cases hlt:j < a.length
 . refine Zq (by simpa using hlt) ?_;dsimp only [go_sem];have hltb:j < b.length:=by omega
   refine Zo j hlt rfl ?_;dsimp only [go_sem];refine Zo j hltb rfl ?_;dsimp only [Zn,go_sem];by_cases he:a[j]=b[j]
   . refine Zr (by rw [he];simp [ngB]) ?_;dsimp only [go_sem];rw [Zh (n:=(j:Int)+1) (by omega) (by omega)];refine ⟨j+1,⟨hlt,?_⟩,by omega,?_⟩
     . rw [List.take_succ_eq_append_getElem hlt,List.take_succ_eq_append_getElem hltb,ht,he]
     (refine Zj ?_ ?_ ?_ rfl rfl<;>dsimp only [Zn,id,go_sem]<;>simp [Zn,Za])
   . refine Zq ?_ ?_
     . simpa using he
     dsimp only [go_sem];have:a≠b:=λe=>he (by subst e;rfl);simp [this]
 refine Zr (by simp;omega) ?_;dsimp only [go_sem];have:a=b:=by
  rw [List.take_of_length_le (by omega),List.take_of_length_le (by omega)] at ht;exact ht
 simp [this]
theorem ZoS (s:Season) (hs:SmallS s):Ct Tryz.prog 13 [.agg (Zs s)] (.agg (Zs s)):=by
 have hsc:=hs.sc;refine t13.1 (by simp [Zs,Zi,Zf,Zl,Zg,Zc,Zn,Za]) (by simp [Zs,Zi,Zf,Zl,Zg,Zc,Zn,Za]) ?_;dsimp only [c13,r13,Zs,go_sem];refine call (Zu2 s.land hs.land) ?_;dsimp only [Zt,go_sem];refine ⟨by simp;omega,?_⟩;dsimp only [go_sem];refine XE [1,2,3] rfl (λk:Nat=>[(3,I k)]) (λ_=>[]) (λk=>k<=s.scenes.length) (λk=>s.scenes.length - k) 0 (Nat.zero_le _) ?_ ?_
 . (refine Zj ?_ ?_ ?_ rfl rfl<;>dsimp only [Zg,Zf,Zl,Zi,Zc,Zn,id,go_sem]<;>simp [Zg,Zf,Zl,Zi,Zc,Zn,Za])
 intro k hk;dsimp only [go_sem];simp only [List.length_map];by_cases hlt:k < s.scenes.length
 . have hx:=hs.each _ (List.getElem_mem hlt);refine Zq (by simpa using hlt) ?_;dsimp only [go_sem];refine Wi k rfl (by simpa using hlt) ?_;dsimp only [go_sem];refine Zan hlt ?_;dsimp only [Zi,go_sem];refine Zsj (by simp;omega) ?_;dsimp only [go_sem];refine Wi k rfl (by simpa using hlt) ?_;dsimp only [go_sem];refine ZdM s.scenes[k] hlt (by simp [Zi]) (by simp [Zi,Zu]) ?_;rw [List.set_getElem_self];dsimp only [go_sem]
   refine Wi k rfl (by simpa using hlt) ?_;dsimp only [go_sem];refine Zan hlt ?_;dsimp only [Zi,go_sem];refine Zsj (by simp;omega) ?_;dsimp only [go_sem];refine Wi k rfl (by simpa using hlt) ?_;dsimp only [go_sem];refine ZdM s.scenes[k] hlt (by simp [Zi]) (by simp [Zi,Zu]) ?_;rw [List.set_getElem_self];dsimp only [go_sem];rw [Zh (n:=(k:Int)+1) (by omega) (by omega)];refine ⟨k+1,hlt,by omega,?_⟩;(refine Zj ?_ ?_ ?_ rfl rfl<;>dsimp only [Zg,Zf,Zl,Zi,Zc,Zn,id,go_sem]<;>simp [Zg,Zf,Zl,Zi,Zc,Zn,Za])
 refine Zr (by simp;omega) ?_;dsimp only [go_sem]
theorem ZnV (s:Season) (hs:SmallS s):Ct Tryz.prog 18 [.agg (Zs s),.agg (Zs s)] (B true):=by
 have hsc:=hs.sc;refine t18.1 (by simp [Zs,Zi,Zf,Zl,Zg,Zc,Zn,Za]) (by simp) ?_;dsimp only [c18,r18,Zs,go_sem];refine call (ZjW s.land hs.land) ?_;dsimp only [go_sem];repeat (refine gb ?_;dsimp only [go_sem])
 refine Zr (by simp [ngB]) ?_;dsimp only [go_sem];repeat (refine gb ?_;dsimp only [go_sem])
 refine Zr (by simp) ?_;dsimp only [go_sem];refine XE [2,3,4,5] rfl (λk:Nat=>[(5,I k)]) (λ_=>[]) (λk=>k<=s.scenes.length) (λk=>s.scenes.length - k) 0 (Nat.zero_le _) ?_ ?_
 . (refine Zj ?_ ?_ ?_ rfl rfl<;>dsimp only [Zg,Zf,Zl,Zi,Zc,Zn,id,go_sem]<;>simp [Zg,Zf,Zl,Zi,Zc,Zn,Za])
 intro k hk;dsimp only [go_sem];simp only [List.length_map];by_cases hlt:k < s.scenes.length
 . have hx:=hs.each _ (List.getElem_mem hlt);refine Zq (by simpa using hlt) ?_;dsimp only [go_sem];refine Zo k hlt rfl ?_;dsimp only [go_sem];refine Zo k hlt rfl ?_;dsimp only [Zi,go_sem];repeat (first | (refine gb ?_;dsimp only [go_sem]) | (refine call (ZiR s.scenes[k].yields s.scenes[k].yields (by omega) (by omega) _ _) ?_;dsimp only [go_sem]) | (refine call (ZeJ s.scenes[k].prices s.scenes[k].prices (by omega) (by omega) _ _) ?_;dsimp only [go_sem]))
   refine Zr (by simp [ngB]) ?_;dsimp only [go_sem];rw [Zh (n:=(k:Int)+1) (by omega) (by omega)];refine ⟨k+1,hlt,by omega,?_⟩;(refine Zj ?_ ?_ ?_ rfl rfl<;>dsimp only [Zg,Zf,Zl,Zi,Zc,Zn,id,go_sem]<;>simp [Zg,Zf,Zl,Zi,Zc,Zn,Za])
 refine Zr (by simp;omega) ?_;dsimp only [go_sem]
theorem Zcq (p q:Plan) (hp:p.legs.length<=1000) (hq:q.legs.length<=1000):Ct Tryz.prog 19 [.agg (ZK p),.agg (ZK q)] (B (decide (p=q))):=by
 refine t19.1 (by simp [ZK,Zn,Za]) (by simp) ?_;dsimp only [c19,r19,ZK,go_sem];repeat (first | (refine gb ?_;dsimp only [go_sem]) | (refine call (ZeJ p.legs q.legs (by omega) (by omega) _ _) ?_;dsimp only [go_sem]))
 have:(p.animals == q.animals && p.slabs == q.slabs && decide (p.legs=q.legs))=decide (p=q):=by
  obtain ⟨a,b,c⟩:=p;obtain ⟨a',b',c'⟩:=q;rw [Bool.eq_iff_iff];simp;constructor
  . rintro ⟨⟨h1,h2⟩,h3⟩;exact ⟨h3,h1,h2⟩
  . rintro ⟨h1,h2,h3⟩;exact ⟨⟨h2,h3⟩,h1⟩
 rw [this]
def c59:SC:=(sr1 [o1 3 (Jz 0 0 34),o1 4 (Jz 1 0 37),Jk 6 0] (sr1 [o1 7 (.mv (.c (.slice none 0 0)))] (.seq (sr1 [o1 10 (ao 3 36),o1 11 (lf 10 1),o1 12 (Jl 11),Jk 13 0] (.block 0 (.loop (sr1 [o1 14 (Jb .lss 13 12)] (.seq (Ji 14 .skip (.exit 0)) (.seq
 (.block 1 (sr1 [o1 15 (Jx 11 13 6),o1 16 (lt 15 6),o1 9 (.alloc zv5 72),Js 9 16 6] (.regs (Jr 27) ⟨[Jm 17 7,Jo 18 (ao 4 1),Jp 19 (lf 18 1) [1],Jo 20 (ao 4 2),Jp 21 (lf 20 1) [3],Jp 22 (Jb .mul 19 21) [2,4],Jo 23 (ao 9 5),Jp 24 (lf 23 1) [6],Jm 25
 2,Jp 26 (Jx 24 25 1) [7,8],Jp 27 (lf 26 1) [9],Jo 28 (ao 3 31),Jp 29 (lf 28 1) [11],Jp 30 (Jb .sub 27 29) [10,12],Jp 31 (Jb .mul 22 30) [5,13],Jo 32 (ao 3 28),Jp 33 (lf 32 1) [15],Jo 34 (ao 4 1),Jp 35 (lf 34 1) [17],Jp 36 (Jb .sub 33 35) [16,18],Jo
 37 (ao 3 32),Jp 38 (lf 37 1) [20],Jp 39 (Jb .mul 36 38) [19,21],Jp 40 (Jb .add 31 39) [14,22],Jp 41 (.bsl 1 3 [.t 40]) [23]],0,1,[⟨some 42,.appm 1 8 3 (.t 17) (.t 41),none,[0,24]⟩]⟩ [⟨[],0,1,[⟨some 7,.mv (.t 42),none,(Jr 26)⟩]⟩]))) (.reg [o1 43 (Jc
 .add 13 1),m1 13 43]))))))) (.gh (sr1 [m1 44 7,o1 45 (J1 71 44),m1 6 45] .ret)))))
def r59:List RV:=[.tmp 6]
theorem t59:Qt1 Tryz.prog 59 c59 r59 46:=Z0 Tryz.func59
def c60:SC:=(sr1 [o1 2 (Jz 0 0 34),o1 3 (Jz 1 0 37),Jk 4 0] (sr1 [o1 9 (lt 2 37),o1 10 (ao 3 0),o1 11 (lf 10 1),o1 12 (J2 87 9 11),m1 5 12] (sr1 [Jk 6 0] (.seq (sr1 [Jk 7 0] (.block 0 (.loop (.seq (sr1 [m1 13 7,o1 14 (ao 2 36),o1 15 (lf 14 1),o1 16
 (Jl 15),o1 17 (Jb .lss 13 16)] (Ji 17 .skip (.exit 0))) (.seq (.block 1 (.seq (.regd (Jr 28) [Jo 20 (ao 3 1),Jp 21 (lf 20 1) [0],Jo 22 (ao 3 2),Jp 23 (lf 22 1) [2],Jp 24 (Jb .mul 21 23) [1,3],Jo 25 (ao 2 36),Jp 26 (lf 25 1) [5],Jm 27 7,Jp 28 (Jx 26
 27 6) [6,7],Jp 29 (ao 28 5) [8],Jp 30 (lf 29 1) [9],Jm 31 5,Jp 32 (Jx 30 31 1) [10,11],Jp 33 (lf 32 1) [12],Jo 34 (ao 2 31),Jp 35 (lf 34 1) [14],Jp 36 (Jb .sub 33 35) [13,15],Jp 37 (Jb .mul 24 36) [4,16],Jo 38 (ao 2 28),Jp 39 (lf 38 1) [18],Jo 40 (ao
 3 1),Jp 41 (lf 40 1) [20],Jp 42 (Jb .sub 39 41) [19,21],Jo 43 (ao 2 32),Jp 44 (lf 43 1) [23],Jp 45 (Jb .mul 42 44) [22,24],Jp 46 (Jb .add 37 45) [17,25],Jp 8 (.mv (.t 46)) (Jr 27)] 0 0 []) (sr1 [m1 47 7,o1 48 (Jc .eql 47 0),m1 49 48,g1 50 49 false
 (.mv (.t 8)),g1 51 49 false (.mv (.t 6)),g1 52 49 false (Jb .lss 50 51),o1 53 (.pick (.t 49) Jt (.t 52))] (Ji 53 (.reg [m1 54 8,m1 6 54]) .skip)))) (.reg [m1 18 7,o1 19 (Jc .add 18 1),m1 7 19])))))) (sr1 [m1 55 6,m1 4 55] .ret)))))
def r60:List RV:=[.tmp 4]
theorem t60:Qt1 Tryz.prog 60 c60 r60 56:=Z0 Tryz.func60
def c4:SC:=(sr1 [o1 3 (Jz 0 0 34),o1 4 (Jz 1 0 37),Jw 6 Jf] (.seq (sr1 [o1 15 (lt 3 37),o1 16 (J1 12 15),m1 17 16,g1 18 17 false (ao 4 0),g1 19 17 false (lf 18 1),g1 20 17 false (Jl 19),g1 21 17 false (Jc .gtr 20 40),o1 22 (.pick (.t 17) Jt (.t 21))]
 (Ji 22 (sr1 [Jw 6 Jt] .ret) .skip)) (sr1 [o1 24 (lt 3 37),o1 25 (lt 4 3),o1 26 (J2 20 24 25),m1 23 26,o1 27 (Je 23 0),o1 28 (Je 23 1),m1 7 27,m1 8 28] (sr1 [o1 30 (lt 3 37),o1 31 (lt 4 3),o1 32 (J2 21 30 31),m1 29 32,o1 33 (Je 29 0),o1 34 (Je 29
 1),m1 9 33,m1 10 34] (sr1 [o1 36 (lt 3 37),o1 37 (lt 4 3),m1 38 2,o1 39 (J3 22 36 37 38),m1 35 39,o1 40 (Je 35 0),o1 41 (Je 35 1),m1 11 40,m1 12 41] (sr1 [o1 43 (lt 3 37),o1 44 (lt 4 3),m1 45 2,o1 46 (J3 23 43 44 45),m1 42 46,o1 47 (Je 42 0),o1 48
 (Je 42 1),m1 13 47,m1 14 48] (sr1 [m1 49 7,m1 50 9,o1 51 (Jb .eql 49 50),m1 52 51,g1 53 52 true (.mv (.t 8)),g1 54 52 true (.mv (.t 10)),g1 55 52 true (Jb .eql 53 54),o1 56 (.pick (.t 52) (.t 55) Jf),m1 57 56,g1 58 57 true (.mv (.t 11)),g1 59 57 true
 (.mv (.t 13)),g1 60 57 true (J2 24 58 59),o1 61 (.pick (.t 57) (.t 60) Jf),m1 62 61,g1 63 62 true (.mv (.t 12)),g1 64 62 true (.mv (.t 14)),g1 65 62 true (Jb .eql 63 64),o1 66 (.pick (.t 62) (.t 65) Jf),m1 6 66] .ret)))))))
def r4:List RV:=[.tmp 6]
theorem n4:Tryz.f4.ntmps=67:=by kernel_rfl
theorem b4:YO Tryz.prog 4=true:=by kernel_rfl
theorem t4:Qt1 Tryz.prog 4 c4 r4 67:=Z0 Tryz.func4 rfl b4 (by kernel_rfl) (by kernel_rfl) n4
end Go.Proofs.YtiigiflofnjilaaGreat
namespace Go.Azalai
open Go.Sx
def Zbj:List Int->Int
 | []=>0
 | x :: r=>r.foldl min x
theorem Zcx {l:List Int} {a:Int} (h:l≠[]):Zbj (l ++ [a])=min (Zbj l) a:=by
 cases l with
 | nil=>exact absurd rfl h
 | cons x r=>simp [Zbj,List.foldl_append]
def Xx (s:Season) (p:Plan) (to:Int) (x:Scene):Int:=p.animals * p.slabs * ((x.prices[to.toNat]?).getD 0 - s.cost)+(s.herd - p.animals) * s.sale
def ZeQ (s:Season) (p:Plan) (to:Int):Int:=Zbj (s.scenes.map (Xx s p to))
theorem ZfT {α : Type} {L:List α} {k:Nat} (hk:k≠0) (h:1<=L.length):L.take k≠[]:=λe=>by
 rw [List.take_eq_nil_iff] at e;rcases e with e | e
 . exact hk e
 . rw [e] at h;simp at h
theorem Zfz {A B d M:Int} (h0:0<=A) (h1:A<=B) (hM:0<=M) (hd:-M<=d/\d<=M):-(B * M)<=A * d/\A * d<=B * M:=by
 have e1:A * d<=A * M:=Int.mul_le_mul_of_nonneg_left hd.2 h0;have e2:A * M<=B * M:=Int.mul_le_mul_of_nonneg_right h1 hM;have e3:A * (-M)<=A * d:=Int.mul_le_mul_of_nonneg_left hd.1 h0;rw [Int.mul_neg] at e3;omega
end Go.Azalai
namespace Go.Proofs.YtiigiflofnjilaaGreat
open Go Go.Sx Go.Azalai
theorem Zlv (L:List Int) (h1:1<=L.length) (hl:L.length<=1001) (c:Bool):Ct Tryz.prog 71 [.sl c 1 (L.map Zn)] (I (Zbj L)):=by
 refine t71.1 (by simp [Za,Zn]) (by simp) ?_;dsimp only [c71,r71,go_sem];simp only [List.length_map];refine Zr (by simp;omega) ?_;dsimp only [go_sem];refine Zo 0 (by omega) rfl ?_;dsimp only [Zn,go_sem];have h0:L[0]=Zbj (L.take 1):=by
  cases L with
  | nil=>simp at h1
  | cons x r=>simp [Zbj]
 rw [h0];refine Yy (λk:Nat=>[(4,I (k+1)),(3,I (Zbj (L.take (k+1))))]) (λ_=>[]) (λk=>k+1<=L.length) (λk=>L.length - k) 0 h1 ?_ ?_
 . (refine Zj ?_ ?_ ?_ rfl rfl<;>dsimp only [Zn,id,go_sem]<;>simp [Zn,Za])
 intro k hk;dsimp only [go_sem];simp only [List.length_map];by_cases hlt:k+1 < L.length
 . refine Zq (by simp;omega) ?_;dsimp only [go_sem];refine Zo (k+1) hlt (by simp) ?_;dsimp only [Zn,go_sem];rw [Zh (n:=(k:Int)+1+1) (by omega) (by omega)];refine ⟨k+1,by omega,by omega,?_⟩;have e:min (Zbj (L.take (k+1))) L[k+1]=Zbj (L.take (k+1+1)):=by
    rw [List.take_succ_eq_append_getElem hlt,Zcx (ZfT (by omega) h1)]
   rw [e];(refine Zj ?_ ?_ ?_ rfl rfl<;>dsimp only [Zn,id,go_sem]<;>simp [Zn,Za])
 refine Zr (by simp;omega) ?_;dsimp only [go_sem];rw [List.take_of_length_le (by omega)]
theorem Zab {s:Season} (h:OkS s) {k:Nat} (hk:k < s.scenes.length) {m:Nat} (hm:m < s.land.wells.length):∃ hp:m < (s.scenes[k]).prices.length,0<=(s.scenes[k]).prices[m]/\(s.scenes[k]).prices[m]<=1000000:=by
 have hx:=h.scene _ (List.getElem_mem hk);simp only [YB,Bool.and_eq_true,decide_eq_true_eq,List.all_eq_true] at hx;have hp:m < (s.scenes[k]).prices.length:=by omega
 have:=hx.2 _ (List.getElem_mem hp);simp only [inR,decide_eq_true_eq] at this;exact ⟨hp,this⟩
theorem ZkV {s:Season} (h:OkS s) {p:Plan} (hp:U9 s p=true) {k:Nat} (hk:k < s.scenes.length) {m:Nat} (hm:m < s.land.wells.length) (hq:m < (s.scenes[k]).prices.length) :
 IntKind.i64.wrap (IntKind.i64.wrap (IntKind.i64.wrap (p.animals * p.slabs) * IntKind.i64.wrap ((s.scenes[k]).prices[m] - s.cost))+IntKind.i64.wrap (IntKind.i64.wrap (s.herd - p.animals) * s.sale))=Xx s p m s.scenes[k] /\
 -1000000000<=Xx s p m s.scenes[k]/\Xx s p m s.scenes[k]<=1000000000:=by
 have hnum:=h.num;obtain ⟨_,hpl⟩:=UK hp;obtain ⟨_,hpr⟩:=Zab h hk hm;have e1:0<=p.animals * p.slabs/\p.animals * p.slabs<=30 * 12:=⟨Int.mul_nonneg hpl.1 hpl.2.2.1,Int.mul_le_mul (by omega) hpl.2.2.2 hpl.2.2.1 (by decide)⟩
 have e2:=Zfz (A:=p.animals * p.slabs) (B:=360) (d:=(s.scenes[k]).prices[m] - s.cost) (M:=1000000) e1.1 (by omega) (by decide) (by omega);have e3:0<=(s.herd - p.animals) * s.sale/\(s.herd - p.animals) * s.sale<=30 * 1000000:=⟨Int.mul_nonneg (by omega) (by omega),Int.mul_le_mul (by omega) (by omega) (by omega) (by decide)⟩
 have e4:Xx s p m s.scenes[k]=p.animals * p.slabs * ((s.scenes[k]).prices[m] - s.cost)+(s.herd - p.animals) * s.sale:=by
  simp only [Xx,Int.toNat_natCast,List.getElem?_eq_getElem hq,Option.getD_some]
 rw [Zh (n:=p.animals * p.slabs) (by omega) (by omega),Zh (n:=(s.scenes[k]).prices[m] - s.cost) (by omega) (by omega),Zh (n:=s.herd - p.animals) (by omega) (by omega),
  Zh (n:=p.animals * p.slabs * ((s.scenes[k]).prices[m] - s.cost)) (by omega) (by omega),Zh (n:=(s.herd - p.animals) * s.sale) (by omega) (by omega),Zh (by omega) (by omega),e4]
 exact ⟨rfl,by omega,by omega⟩
theorem Zoh (s:Season) (h:OkS s) (p:Plan) (hp:U9 s p=true) (m:Nat) (hm:m < s.land.wells.length):Ct Tryz.prog 59 [.agg (Zs s),.agg (ZK p),I m] (I (ZeQ s p m)):=by
 have hsc:=h.scs;have hs4:=h.scs;refine t59.1 (by simp [Zs,ZK,Zi,Zf,Zl,Zg,Zc,Zn,Za]) (by simp) ?_;dsimp only [c59,r59,Zs,ZK,go_sem];simp only [List.length_map];obtain ⟨W,hW⟩:∃ W,W=s.scenes.map (Xx s p m):=⟨_,rfl⟩
 have hWl:W.length=s.scenes.length:=by rw [hW];simp
 refine Zau (ZG (Ww [2,3,4,6,7,11,12,13] rfl) (Yg 7 1 3 rfl rfl)) (λq:Nat × Nat=>[(13,I q.1),(7,.mr 2 q.2)])
  (λq=>[(2,.row q.2 1 ((W.take q.1).map Zn) 3)]) (λq=>q.1<=s.scenes.length) (λq=>s.scenes.length - q.1) (0,0) (Nat.zero_le _) ?_ ?_
 . (refine Zj ?_ ?_ ?_ rfl rfl<;>dsimp only [Zf,Zl,Zg,Zi,Zc,Zn,Yp,id,go_sem]<;>simp [Zf,Zl,Zg,Zi,Zc,Zn,Yp,Za])
 rintro ⟨j,v⟩ hj;simp only at hj;dsimp only [go_sem];by_cases hlt:j < s.scenes.length
 . refine Zq (by simpa using hlt) ?_;dsimp only [go_sem];refine Zo j hlt rfl ?_;dsimp only [Zi,go_sem];obtain ⟨hq,_⟩:=Zab h hlt hm;refine Zo m hq rfl ?_;dsimp only [Zn,go_sem];obtain ⟨hww,hwb⟩:=ZkV h hp hlt hm hq;rw [hww];simp only [nbr];dsimp only [go_sem];refine ⟨(by intro c hc;simp only [List.mem_singleton] at hc;subst hc;rfl),by simp;omega,?_⟩;dsimp only [go_sem];rw [Zh (n:=(j:Int)+1) (by omega) (by omega)]
   refine ⟨(j+1,v+1),hlt,by simp only;omega,?_⟩;simp only;have hWj:Xx s p m s.scenes[j]=W[j]'(by omega):=by simp [hW]
   rw [hWj,List.take_succ_eq_append_getElem (by omega)];simp only [List.map_append,List.map_cons,List.map_nil];(refine Zj ?_ ?_ ?_ rfl rfl<;>dsimp only [Zf,Zl,Zg,Zi,Zc,Zn,Yp,id,go_sem]<;>simp [Zf,Zl,Zg,Zi,Zc,Zn,Yp,Za])
 refine Zr (by simp;omega) ?_;dsimp only [go_sem];rw [List.take_of_length_le (by omega)];refine gh (UB 7 2 v rfl rfl rfl rfl) ?_;dsimp only [go_sem];refine call (Zlv W (by omega) (by omega) _) ?_;dsimp only [go_sem];rw [hW];rfl
def ZcH (l:Land) (p:Span) (s to day till:Int):SV:=.tup [YM (Wn l p s to day till) 1 ((XB l p s to day till).map Wp),I (Wn l p s to day till)]
theorem ZqX (l:Land) (p:Span) (s to day till:Int):KF (ZcH l p s to day till):=by
 unfold ZcH YM;split<;>simp [KFL,KF,Za,Wp,ZS,ZI]
end Go.Proofs.YtiigiflofnjilaaGreat
namespace Go.Azalai
open Go.Sx Go.Proofs.YtiigiflofnjilaaGreat
structure Bst where
 legs:List Nat
 an:Int
 sl:Int
 w:Int
deriving DecidableEq
def Yx (a:List Nat):List Int:=a.map λn:Nat=>(n:Int)
def Bst.plan (q:Bst):Plan:=⟨Yx q.legs,q.an,q.sl⟩
def Z5 (q p:Bst):Bool :=
 if q.w≠p.w then decide (q.w > p.w) else if q.an≠p.an then decide (q.an < p.an) else if q.sl≠p.sl then decide (q.sl < p.sl)
 else if q.legs.length≠p.legs.length then decide (q.legs.length < p.legs.length) else Wm q.legs p.legs
def ZfQ (p q:Bst):Bst:=if Z5 q p then q else p
def YR (s:Season) (to:Int) (a:List Nat) (k n:Int):Bst:=⟨a,n,k,ZeQ s ⟨Yx a,n,k⟩ to⟩
def ZhO (s:Season) (x:Scene):List Draw->Int->Int
 | [],n=>n
 | d :: r,n=>ZhO s x r (if d.water > 0 then min n ((ZaF s x ⟨0,d.well,⟨0,0⟩,⟨d.day,0⟩⟩).tdiv d.water) else n)
def Zll (s:Season) (a:List Int) (k:Int):List Scene->Int->Int
 | [],n=>n
 | x :: r,n=>if (WR s ⟨a,1,k⟩ x).1≠0 then 0 else Zll s a k r (ZhO s x (WP s ⟨a,1,k⟩ x) n)
def UH (s:Season) (a:List Int) (k:Int):Int:=Zll s a k s.scenes s.herd
def Za8 (s:Season) (to:Int) (a:List Nat) (k:Int):Nat->Bst->Bst
 | 0,b=>b
 | n+1,b=>Za8 s to a k n (ZfQ b (YR s to a k (n+1:Nat)))
def Zf3 (s:Season) (to:Int) (a:List Nat) (b:Bst) (k:Nat):Bst:=Za8 s to a k (UH s (Yx a) k).toNat b
def ZyH (s:Season) (to:Int) (b:Bst) (a:List Nat):Bst:=(List.range 13).foldl (Zf3 s to a) b
def ZaR (s:Season):List Nat->Bst->Option Bst
 | [],b=>some b
 | g :: r,b=>if Wn s.land s.pace s.start g s.day s.till≠0 then none else ZaR s r ((XB s.land s.pace s.start g s.day s.till).foldl (ZyH s g) b)
def Zip (s:Season):Option Bst:=ZaR s (List.range s.land.wells.length) ⟨[],0,0,s.herd * s.sale⟩
def Xq (s:Season):Plan × Int × Int :=
 if ZZ s=false then (⟨[],0,0⟩,0,90) else match Zip s with
  | none=>(⟨[],0,0⟩,0,9)
  | some b=>(b.plan,b.w,0)
def Za9 (s:Season) (x:Scene) (k:Int):List Span->Nat->Int->Int
 | [],_,e=>e
 | r :: l,i,e=>Za9 s x k l (i+1) (if r.hi<=s.till then max e (k * ((x.prices[i]?).getD 0 - s.cost)) else e)
noncomputable def ZeR (s:Season):Int:=Zbj (s.scenes.map λx=>s.herd * Za9 s x (min 12 (s.breed.strong.lo.tdiv s.slab)) (Xl s.land s.pace s.start s.day) 0 s.sale)
noncomputable def Uo (s:Season):Int × Int:=if ZZ s=false then (0,90) else (ZeR s,0)
theorem Zdp {s:Season} {x:Scene}:∀ {D:List Draw} {n m:Int},(m<=ZhO s x D n↔m<=n/\∀ d ∈ D,d.water > 0->m<=(ZaF s x ⟨0,d.well,⟨0,0⟩,⟨d.day,0⟩⟩).tdiv d.water)
 | [],n,m=>by simp [ZhO]
 | d :: r,n,m=>by
  rw [ZhO,Zdp];simp only [List.mem_cons,forall_eq_or_imp];split
  . rename_i h;constructor
    . rintro ⟨h1,h2⟩;exact ⟨by omega,λ_=>by omega,h2⟩
    . rintro ⟨h1,h2,h3⟩;exact ⟨by have:=h2 h;omega,h3⟩
  . rename_i h;constructor
    . rintro ⟨h1,h2⟩;exact ⟨h1,λq=>absurd q h,h2⟩
    . rintro ⟨h1,_,h3⟩;exact ⟨h1,h3⟩
theorem ZkK {s:Season} {x:Scene} (h:∀ st:Stop,0<=ZaF s x st):∀ {D:List Draw} {n:Int},0<=n->0<=ZhO s x D n
 | [],n,hn=>hn
 | d :: r,n,hn=>by
  rw [ZhO];refine ZkK h ?_;split
  . have:=Int.tdiv_nonneg (h ⟨0,d.well,⟨0,0⟩,⟨d.day,0⟩⟩) (show (0:Int)<=d.water by omega);omega
  . exact hn
theorem ZcP {n:Int}:∀ {g:List (Int × Int)} {i:Nat},Zap n g i=none↔∀ q ∈ g,n * q.1<=q.2
 | [],_=>by simp [Zap]
 | p :: r,i=>by
  simp only [Zap,List.mem_cons,forall_eq_or_imp];split
  . rename_i h;constructor
    . intro q;cases q
    . rintro ⟨q,_⟩;omega
  . rename_i h;rw [ZcP];exact ⟨λq=>⟨by omega,q⟩,λq=>q.2⟩
theorem ZtN {n:Int} {g:Int × Int × List (Int × Int)}:(Za5 n g).1=0↔g.1=0/\∀ q ∈ g.2.2,n * q.1<=q.2:=by
 unfold Za5;rw [<- ZcP (i:=0)];split
 . rename_i i h;rw [h];simp
 . rename_i h;rw [h];simp
theorem ZaA {s:Season} {a:List Int} {n k:Int} {x:Scene} (hn:n≠0):(WR s ⟨a,n,k⟩ x).1=0↔X7 s a=true/\(goF s x k (Zy s a)).1=0/\∀ q ∈ (goF s x k (Zy s a)).2.2,n * q.1<=q.2:=by
 unfold WR;cases h:X7 s a with
 | false=>simp
 | true =>
  simp only [Bool.true_eq_false,if_false];rw [if_neg hn,ZtN];simp
def Zt8 (s:Season) (x:Scene) (l:List Stop) (acc:List (Int × Int)):Prop:=∀ (i:Nat) (st:Stop) (q:Int × Int),l[i]? = some st->acc[i]? = some q->q.2=ZaF s x st
theorem Zjm {s:Season} {x:Scene} {slabs:Int} {L:List Stop}:∀ {l:List Stop} {i:Nat} {c:Camel} {acc:List (Int × Int)},Zt8 s x L acc->L.drop acc.length=l->Zt8 s x L (goG s x slabs l i c acc).2.2
 | [],_,_,_,h,_=>h
 | st :: r,i,c,acc,h,hl=>by
  simp only [goG];split
  . exact h
  have hj:acc.length < L.length:=by
   apply Classical.byContradiction;intro q;rw [List.drop_eq_nil_of_le (by omega)] at hl;cases hl
  have hst:L[acc.length]? = some st:=by
   have:=List.getElem?_drop (xs:=L) (i:=acc.length) (j:=0);rw [hl] at this;simpa using this.symm
  split
  . rename_i hr;subst hr;simp only [goG];exact h
  refine Zjm ?_ ?_
  . intro j t q hjt hq;by_cases hlt:j < acc.length
    . rw [List.getElem?_append_left hlt] at hq;exact h j t q hjt hq
    . by_cases he:j=acc.length
      . subst he;rw [hst] at hjt;cases hjt;simp only [List.getElem?_append_right (Nat.le_refl _),Nat.sub_self,List.getElem?_cons_zero,Option.some.injEq] at hq;subst hq;rfl
      . rw [List.getElem?_eq_none (by simp;omega)] at hq;cases hq
  . rw [List.length_append,List.length_cons,List.length_nil,<- List.drop_drop,hl];rfl
theorem Zwy {s:Season} {x:Scene} {slabs:Int} {l:List Stop}:Zt8 s x l (goF s x slabs l).2.2:=by
 unfold goF;split
 . intro j t q _ hq;simp at hq
 . exact Zjm (λj t q _ hq=>by simp at hq) rfl
theorem Zgd {s:Season} {x:Scene} {st:Stop}:ZaF s x ⟨0,st.well,⟨0,0⟩,⟨st.arrives.lo,0⟩⟩=ZaF s x st:=rfl
theorem ZjO {m a w:Int} (ha:0<=a) (hw:0 < w):m<=a.tdiv w↔m * w<=a:=by
 rw [Int.tdiv_eq_ediv_of_nonneg ha];exact Int.le_ediv_iff_mul_le hw
theorem Zv5 {s:Season} {x:Scene} {a:List Int} {k n m:Int} (hm:1<=m) (hb:ZA s.breed=true) (hc:Zz s.breed s.camel=true) (hh:∀ st:Stop,0<=ZaF s x st) (h1:(WR s ⟨a,1,k⟩ x).1=0) :
 m<=ZhO s x (WP s ⟨a,1,k⟩ x) n↔m<=n/\(WR s ⟨a,m,k⟩ x).1=0:=by
 obtain ⟨hs,hg,hq⟩:=(ZaA (by decide)).1 h1;rw [Zdp,ZaA (by omega)];have hbd:=Zg1 (x:=x) (slabs:=k) (l:=Zy s a) hb hc;have hha:=Zwy (s:=s) (x:=x) (slabs:=k) (l:=Zy s a);unfold WP;rw [if_pos h1];show (m<=n/\∀ d ∈ WU s x 1 k (Zy s a),_)↔_;unfold WU;by_cases hl:Zy s a=[]
 . rw [if_pos hl];have hz:(goF s x k (Zy s a)).2.2=[]:=by
    have:=hbd.2;rw [hl] at this ⊢;exact List.eq_nil_of_length_eq_zero (by simpa using this)
   rw [hz];simp [hs,hg]
 rw [if_neg hl,if_neg (by decide)];refine and_congr_right λ_=>⟨λh=>⟨hs,hg,λq hq'=>?_⟩,λh d hd hw=>?_⟩
 . obtain ⟨i,hi,rfl⟩:=List.getElem_of_mem hq';have hi':i < (Zy s a).length:=by omega
   have e:=hha i _ _ (List.getElem?_eq_getElem hi') (List.getElem?_eq_getElem hi);have hnn:=hbd.1 _ hq';by_cases hp:0 < ((goF s x k (Zy s a)).2.2[i]).1
   . have hd:VJ 1 (Zy s a)[i] (goF s x k (Zy s a)).2.2[i] ∈ Ws 1 (Zy s a) (goF s x k (Zy s a)).2.2:=by
      unfold Ws;have:(List.zipWith (VJ 1) (Zy s a) (goF s x k (Zy s a)).2.2)[i]? = some (VJ 1 (Zy s a)[i] (goF s x k (Zy s a)).2.2[i]):=by
       rw [List.getElem?_zipWith,List.getElem?_eq_getElem hi',List.getElem?_eq_getElem hi]
      exact List.mem_of_getElem? this
     have:=h _ hd (by simp only [VJ];omega);simp only [VJ] at this;rw [Zgd,<- e,Int.one_mul,ZjO (by rw [e];exact hh _) hp] at this;exact this
   . have:((goF s x k (Zy s a)).2.2[i]).1=0:=by omega
     rw [this,Int.mul_zero,e];exact hh _
 . unfold Ws at hd;obtain ⟨i,hi,rfl⟩:=List.getElem_of_mem hd;simp only [List.length_zipWith] at hi;have hi':i < (Zy s a).length:=by omega
   have hi2:i < (goF s x k (Zy s a)).2.2.length:=by omega
   rw [List.getElem_zipWith] at hw ⊢;simp only [VJ,Int.one_mul] at hw ⊢;have e:=hha i _ _ (List.getElem?_eq_getElem hi') (List.getElem?_eq_getElem hi2);rw [Zgd,ZjO (hh _) hw,<- e];exact h.2.2 _ (List.getElem_mem hi2)
theorem Zgh {s:Season} {a:List Int} {k m:Int} (hm:1<=m) (hb:ZA s.breed=true) (hc:Zz s.breed s.camel=true):∀ {l:List Scene} {n:Int},(∀ x ∈ l,∀ st:Stop,0<=ZaF s x st) ->
 (m<=Zll s a k l n↔m<=n/\∀ x ∈ l,(WR s ⟨a,m,k⟩ x).1=0)
 | [],n,_=>by simp [Zll]
 | x :: r,n,hh=>by
  have hx:=hh x (List.mem_cons_self ..);rw [Zll];simp only [List.mem_cons,forall_eq_or_imp];by_cases h1:(WR s ⟨a,1,k⟩ x).1=0
  . rw [if_neg (by simpa using h1),Zgh hm hb hc (λy hy=>hh y (List.mem_cons_of_mem _ hy)),Zv5 hm hb hc hx h1];exact and_assoc
  . rw [if_pos h1];constructor
    . intro q;omega
    . rintro ⟨_,q,_⟩;refine absurd ?_ h1;obtain ⟨q1,q2,q3⟩:=(ZaA (by omega)).1 q;refine (ZaA (by decide)).2 ⟨q1,q2,λq hq=>?_⟩;have h2:=q3 q hq;have h3:=(Zg1 (x:=x) (slabs:=k) (l:=Zy s a) hb hc).1 q hq;have h4:1 * q.1<=m * q.1:=Int.mul_le_mul_of_nonneg_right hm h3.1;omega
theorem Zi1 {s:Season} {a:List Int} {k:Int}:∀ {l:List Scene} {n:Int},0<=n->(∀ x ∈ l,∀ st:Stop,0<=ZaF s x st)->0<=Zll s a k l n/\Zll s a k l n<=n
 | [],n,hn,_=>⟨hn,Int.le_refl _⟩
 | x :: r,n,hn,hh=>by
  rw [Zll];split
  . omega
  . have h1:=ZkK (hh x (List.mem_cons_self ..)) (D:=WP s ⟨a,1,k⟩ x) hn;have h2:ZhO s x (WP s ⟨a,1,k⟩ x) n<=n:=(Zdp.1 (Int.le_refl _)).1;have:=Zi1 (s:=s) (a:=a) (k:=k) h1 (λy hy=>hh y (List.mem_cons_of_mem _ hy));omega
theorem Zc5 (b:Bst):Z5 b b=false:=by simp [Z5,Vr]
theorem ZeT {a b c:Bst} (h:Z5 a b=true) (h':Z5 b c=true):Z5 a c=true:=by
 obtain ⟨al,aa,ak,aw⟩:=a;obtain ⟨bl,ba,bk,bw⟩:=b;obtain ⟨cl,ca,ck,cw⟩:=c;simp only [Z5] at h h' ⊢;by_cases e1:aw=bw
 . subst e1;rw [if_neg (by simp)] at h;by_cases e2:aw=cw
   . subst e2;rw [if_neg (by simp)] at h' ⊢;by_cases e3:aa=ba
     . subst e3;rw [if_neg (by simp)] at h;by_cases e4:aa=ca
       . subst e4;rw [if_neg (by simp)] at h' ⊢;by_cases e5:ak=bk
         . subst e5;rw [if_neg (by simp)] at h;by_cases e6:ak=ck
           . subst e6;rw [if_neg (by simp)] at h' ⊢;by_cases e7:al.length=bl.length
             . rw [if_neg (by simp [e7])] at h;by_cases e8:al.length=cl.length
               . rw [if_neg (by omega)] at h' ⊢;exact WW h h'
               . rw [if_pos (by omega)] at h' ⊢;rw [decide_eq_true_eq] at h' ⊢;omega
             . rw [if_pos (by omega),decide_eq_true_eq] at h;by_cases e8:bl.length=cl.length
               . rw [if_pos (by omega),decide_eq_true_eq];omega
               . rw [if_pos (by omega),decide_eq_true_eq] at h';rw [if_pos (by omega),decide_eq_true_eq];omega
           . rw [if_pos e6] at h' ⊢;exact h'
         . rw [if_pos e5,decide_eq_true_eq] at h;by_cases e6:bk=ck
           . subst e6;rw [if_pos e5,decide_eq_true_eq];exact h
           . rw [if_pos e6,decide_eq_true_eq] at h';rw [if_pos (by omega),decide_eq_true_eq];omega
       . rw [if_pos e4] at h' ⊢;exact h'
     . rw [if_pos e3,decide_eq_true_eq] at h;by_cases e4:ba=ca
       . subst e4;rw [if_pos e3,decide_eq_true_eq];exact h
       . rw [if_pos e4,decide_eq_true_eq] at h';rw [if_pos (by omega),decide_eq_true_eq];omega
   . rw [if_pos e2] at h' ⊢;exact h'
 . rw [if_pos e1,decide_eq_true_eq] at h;by_cases e2:bw=cw
   . subst e2;rw [if_pos e1,decide_eq_true_eq];exact h
   . rw [if_pos e2,decide_eq_true_eq] at h';rw [if_pos (by omega),decide_eq_true_eq];omega
structure Top (b0:Bst) (C:Bst->Prop) (b:Bst):Prop where
 is:b=b0\/C b
 init:Z5 b0 b=false
 all:∀ q,C q->Z5 q b=false
theorem Top.zero {b0:Bst}:Top b0 (λ_=>False) b0:=⟨.inl rfl,Zc5 _,λ_ h=>h.elim⟩
theorem Top.congr {b0:Bst} {C C':Bst->Prop} {b:Bst} (h:Top b0 C b) (hc:∀ q,C' q↔C q):Top b0 C' b:=⟨h.is.imp id (hc b).2,h.init,λq hq=>h.all q ((hc q).1 hq)⟩
theorem Top.take {b0:Bst} {C:Bst->Prop} {b:Bst} (h:Top b0 C b) (q:Bst):Top b0 (λr=>C r\/r=q) (ZfQ b q):=by
 unfold ZfQ;have up:∀ r,Z5 r b=false->Z5 q b=true->Z5 r q=false:=λr h1 h2=>by
  cases h3:Z5 r q with
  | false=>rfl
  | true=>have:=ZeT h3 h2;rw [h1] at this;cases this
 cases hq:Z5 q b with
 | false =>
  simp only [Bool.false_eq_true,if_false];exact ⟨h.is.imp id .inl,h.init,λr hr=>hr.elim (h.all r) (λe=>e ▸ hq)⟩
 | true =>
  simp only [if_true];exact ⟨.inr (.inr rfl),up _ h.init hq,λr hr=>hr.elim (λq=>up r (h.all r q) hq) (λe=>e ▸ Zc5 _)⟩
theorem Top.fold {α : Type} {b0:Bst} {f:Bst->α->Bst} {P:α->Bst->Prop} (hf:∀ {C:Bst->Prop} {b:Bst} (x:α),Top b0 C b->Top b0 (λr=>C r\/P x r) (f b x)) :
 ∀ {l:List α} {C:Bst->Prop} {b:Bst},Top b0 C b->Top b0 (λr=>C r\/∃ x ∈ l,P x r) (l.foldl f b)
 | [],C,b,h=>h.congr λq=>by simp
 | x :: r,C,b,h=>(Top.fold hf (l:=r) (hf x h)).congr λq=>by
  simp only [List.mem_cons,exists_eq_or_imp,or_assoc]
structure Ready (l:Land) (p:Span):Prop where
 small:Xu l
 ok:OkLP l p
theorem Zts {n day:Int} {o s:Gate->Int} {t:Int} (ht:t<=100000):∀ {l:List Gate} {a:Int},ZdT n day o s a l<=t↔a<=t\/∃ g ∈ l,max day (o g)+n - 1<=s g/\max day (o g)<=t
 | [],a=>by simp [ZdT]
 | g :: l,a=>by
  simp only [ZdT];rw [Zts ht (l:=l)];simp only [List.mem_cons,exists_eq_or_imp];by_cases h:max day (o g)+n - 1<=s g
  . rw [if_pos h];constructor
    . rintro (q | q)
      . by_cases ha:a<=t
        . exact .inl ha
        . exact .inr (.inl ⟨h,by omega⟩)
      . exact .inr (.inr q)
    . rintro (q | q | q)
      . exact .inl (by omega)
      . exact .inl (by have:=q.2;omega)
      . exact .inr q
  . rw [if_neg h];constructor
    . rintro (q | q)
      . exact .inl q
      . exact .inr (.inr q)
    . rintro (q | q | q)
      . exact .inl q
      . exact absurd q.1 h
      . exact .inr q
def oK (k:Bool) (g:Gate):Int:=bif k then g.opens.hi else g.opens.lo
def sK (k:Bool) (g:Gate):Int:=bif k then g.shuts.lo else g.shuts.hi
theorem Zmw {k:Bool} {x:Leg} {p:Span} {t u:Int} (h:GoodLeg x) (hp:ZY p=true) (hu:u<=100000) :
 leK k x p t<=u↔∃ g ∈ x.gates,max t (oK k g)+nK k x p - 1<=sK k g/\max t (oK k g)<=u:=by
 rw [(Zb4 (k:=k) (t:=t) h hp).1,Zts hu];constructor
 . rintro (q | q)
   . omega
   . exact q
 . exact λq=>.inr q
theorem Ztu {k:Bool} {x:Leg} {p:Span} {t:Int} (h:GoodLeg x) (hp:ZY p=true) (ht:t<=100001):t<=leK k x p t/\leK k x p t<=100001:=by
 have hn:=Zrj (k:=k) h hp;obtain ⟨_,a2,a3⟩:=Zb4 (k:=k) (t:=t) h hp;have:=Zfc (day:=t) (o:=λg=>bif k then g.opens.hi else g.opens.lo) hn.1 a3;refine ⟨?_,by omega⟩;apply Classical.byContradiction;intro q;obtain ⟨g,hg,h1,h2⟩:=(Zmw (k:=k) (t:=t) (u:=leK k x p t) h hp (by omega)).1 (Int.le_refl _);omega
theorem ZeU {a b:Int} (ha:1<=a) (hb:1<=b):a<=(a+b - 1).tdiv b * b/\((a+b - 1).tdiv b - 1) * b < a:=by
 rw [Int.tdiv_eq_ediv_of_nonneg (by omega)];have h1:=Int.emod_add_mul_ediv (a+b - 1) b;have h2:=Int.emod_nonneg (a+b - 1) (show b≠0 by omega);have h3:=Int.emod_lt_of_pos (a+b - 1) (show 0 < b by omega);rw [Int.sub_mul,Int.mul_comm ((a+b - 1) / b) b];omega
theorem Zk1 {x:Leg} {p:Span} (h:GoodLeg x) (hp:ZY p=true):nK false x p<=nK true x p:=by
 simp only [ZY,Yl,decide_eq_true_eq] at hp;obtain ⟨h1,h2,h3,_,_⟩:=h;simp only [nK,cond_true,cond_false,Ut];have u:=ZeU (a:=x.long.lo) (b:=p.hi) h1 (by omega);have v:=ZeU (a:=x.long.hi) (b:=p.lo) (by omega) (by omega);have w:0<=(x.long.hi+p.lo - 1).tdiv p.lo:=Int.tdiv_nonneg (by omega) (by omega);generalize (x.long.lo+p.hi - 1).tdiv p.hi=A at *;generalize (x.long.hi+p.lo - 1).tdiv p.lo=B at *;have q:=Int.mul_le_mul_of_nonneg_left hp.2.1 w
 apply Classical.byContradiction;intro hc;have q2:B * p.hi<=(A - 1) * p.hi:=Int.mul_le_mul_of_nonneg_right (by omega) (by omega);omega
theorem ZrR {x:Leg} {p:Span} {t:Int} (h:GoodLeg x) (hp:ZY p=true) (ht:t<=100001):leK false x p t<=leK true x p t:=by
 have b0:=Ztu (k:=false) h hp ht;have b1:=Ztu (k:=true) h hp ht;have hn:=Zk1 h hp;apply Classical.byContradiction;intro q;obtain ⟨g,hg,h1,h2⟩:=(Zmw (k:=true) (t:=t) (u:=leK true x p t) h hp (by omega)).1 (Int.le_refl _);have hm:=Y2 h.g2 (Int.le_refl _) g hg;simp only [oK,sK,cond_true] at h1 h2;exact q ((Zmw (k:=false) h hp (by omega)).2 ⟨g,hg,by simp only [oK,sK,cond_false];omega,by simp only [oK,cond_false];omega⟩)
end Go.Azalai
namespace Go.Proofs.YtiigiflofnjilaaGreat
open Go Go.Sx Go.Azalai
end Go.Proofs.YtiigiflofnjilaaGreat
namespace Go.Azalai
theorem ZmC {x:Leg} {p:Span} {t t':Int} (h:GoodLeg x) (hp:ZY p=true) (ht:t<=t') (ht':t'<=100001):ZB false x p t<=ZB true x p t':=by
 have h1:=Zby (k:=false) h hp ht;have h2:=ZrR (t:=t') h hp ht';have h3:=Zk1 h hp;simp only [ZB] at *;omega
def Trk (l:Land) (p:Span):Int->Int->Int->List Int->List Stop->Prop
 | _,_,_,[],[]=>True
 | v,a,b,i :: r,s :: ss=>∃ (k:Nat) (x:Leg),i=k/\l.legs[k]? = some x/\0<=Zm x v/\ZB true x p b<=100000 /\
  s=⟨k,Zm x v,⟨leK false x p a,leK true x p b⟩,⟨ZB false x p a,ZB true x p b⟩⟩/\Trk l p (Zm x v) (ZB false x p a) (ZB true x p b) r ss
 | _,_,_,_,_=>False
theorem Trk.len {l:Land} {p:Span}:∀ {legs:List Int} {ss:List Stop} {v a b:Int},Trk l p v a b legs ss->ss.length=legs.length
 | [],[],_,_,_,_=>rfl
 | i :: r,s :: ss,_,_,_,h=>by obtain ⟨_,_,_,_,_,_,_,h⟩:=h;simp [h.len]
 | [],_ :: _,_,_,_,h=>h.elim
 | _ :: _,[],_,_,_,h=>h.elim
theorem Trk.at {l:Land} {p:Span} (h:OkLP l p):∀ {legs:List Int} {ss:List Stop} {v a b:Int},Trk l p v a b legs ss->a<=b->b<=100000->∀ (i:Nat) (s:Stop),ss[i]? = some s ->
 ∃ c:List Nat,c.length=i+1/\legs.take (i+1)=c.map (λn:Nat=>(n:Int))/\goW true l p v b c=some (s.well,s.arrives.hi)/\goW false l p v a c=some (s.well,s.arrives.lo)
 | [],[],_,_,_,_,_,_,i,s,hs=>by simp at hs
 | j :: r,s0 :: ss,v,a,b,q,hab,hb,i,s,hs=>by
  obtain ⟨k,x,rfl,hx,ho,hr,rfl,q⟩:=q;have hm:=ZmC (h.leg hx) h.pace hab (by omega);cases i with
  | zero =>
   simp only [List.getElem?_cons_zero,Option.some.injEq] at hs;subst hs;refine ⟨[k],rfl,by simp,?_,?_⟩
   . simp only [goW,hx];rw [if_neg (by omega),if_neg (by omega)]
   . simp only [goW,hx];rw [if_neg (by omega),if_neg (by omega)]
  | succ i =>
   simp only [List.getElem?_cons_succ] at hs;obtain ⟨c,h1,h2,h3,h4⟩:=Trk.at h q hm hr i s hs;refine ⟨k :: c,by simp [h1],by simp [h2],?_,?_⟩
   . simp only [goW,hx];rw [if_neg (by omega),if_neg (by omega)];exact h3
   . simp only [goW,hx];rw [if_neg (by omega),if_neg (by omega)];exact h4
 | [],_ :: _,_,_,_,q,_,_,_,_,_=>q.elim
 | _ :: _,[],_,_,_,q,_,_,_,_,_=>q.elim
theorem ZlY {l:Land} {p:Span}:∀ {legs:List Int} {v a b:Int} {k:Nat} {acc ss:List Stop} {at':Int},X0 l v legs k=none->goS l p v a b legs k acc=(ss,at',0)->∃ tt,ss=acc ++ tt/\at'=0/\Trk l p v a b legs tt
 | [],v,a,b,k,acc,ss,at',_,h=>by
  simp only [goS,Prod.mk.injEq] at h;exact ⟨[],by simp [h.1],h.2.1.symm,trivial⟩
 | i :: r,v,a,b,k,acc,ss,at',hb,h=>by
  simp only [X0] at hb;by_cases he:W9 l i v < 0
  . rw [if_pos he] at hb;cases hb
  rw [if_neg he] at hb;obtain ⟨n,x,rfl,hn,hx,_,e⟩:=ZaK he;simp only [goS,Int.toNat_natCast,hx] at h;by_cases hr:ZB true x p b > 100000
  . rw [if_pos hr] at h;simp at h
  rw [if_neg hr] at h;rw [e] at hb he;obtain ⟨tt,e1,e2,e3⟩:=ZlY hb h;exact ⟨_ :: tt,by rw [e1,List.append_assoc];rfl,e2,n,x,rfl,hx,by omega,by omega,rfl,e3⟩
theorem ZrG {l:Land} {p:Span} {s day:Int} {legs:List Int} {ss:List Stop} {at':Int} (h:YK l p s day legs=(ss,at',0)):at'=0/\Trk l p s day day legs ss:=by
 unfold YK at h;split at h
 . rename_i q;simp at h;exact absurd h.2.2 q
 split at h
 . simp at h
 split at h
 . simp at h
 split at h
 . simp at h
 . rename_i q;obtain ⟨tt,rfl,e2,e3⟩:=ZlY q h;exact ⟨e2,by simpa using e3⟩
theorem Zjh {l:Land} {p:Span}:∀ {c:List Nat} {v a b w u:Int} {k:Nat} {acc:List Stop},goW true l p v b c=some (w,u) ->
 X0 l v (c.map λn:Nat=>(n:Int)) k=none/\∃ ss,goS l p v a b (c.map λn:Nat=>(n:Int)) k acc=(ss,0,0)
 | [],v,a,b,w,u,k,acc,_=>⟨rfl,acc,rfl⟩
 | i :: c,v,a,b,w,u,k,acc,h=>by
  simp only [goW] at h;cases hx:l.legs[i]? with
  | none=>rw [hx] at h;cases h
  | some x =>
   rw [hx] at h;simp only at h;by_cases ho:Zm x v < 0
   . rw [if_pos ho] at h;cases h
   rw [if_neg ho] at h;by_cases hr:ZB true x p b > 100000
   . rw [if_pos hr] at h;cases h
   rw [if_neg hr] at h;have hi:i < l.legs.length:=(List.getElem?_eq_some_iff.1 hx).1;have he:W9 l (i:Int) v=Zm x v:=by rw [Zck hi,(List.getElem?_eq_some_iff.1 hx).2]
   obtain ⟨h1,_⟩:=Zjh (a:=ZB false x p a) (k:=k+1) (acc:=[]) h;refine ⟨?_,?_⟩
   . simp only [List.map_cons,X0,he];rw [if_neg ho];exact h1
   . obtain ⟨_,ss,h2⟩:=Zjh (a:=ZB false x p a) (k:=k+1) (acc:=acc ++ [⟨i,Zm x v,⟨leK false x p a,leK true x p b⟩,⟨ZB false x p a,ZB true x p b⟩⟩]) h;refine ⟨ss,?_⟩;simp only [List.map_cons,goS,Int.toNat_natCast,hx];rw [if_neg hr];exact h2
theorem Zys {l:Land} {p:Span} (h:OkLP l p) {s day:Int} (hd:0<=day) (hd':day<=100000) (h0:0<=s) (h1:s < l.wells.length) {c:List Nat} {w u:Int} (hc:c.length<=24) (hw:goW true l p s day c=some (w,u)) :
 ∃ ss,YK l p s day (c.map λn:Nat=>(n:Int))=(ss,0,0):=by
 obtain ⟨e1,ss,e2⟩:=Zjh (a:=day) (k:=0) (acc:=[]) hw;refine ⟨ss,?_⟩;unfold YK;rw [if_neg (by simp [Ul,h.land,h.pace]),if_neg (by simp [inR];omega),if_neg (by simp;omega),e1];exact e2
theorem Gr.ends {l:Land} {p:Span} {s day to best:Int} {n0:Nat} (hg:OkLP l p) (hd:0<=day) (hd':day<=100000) (h0:0<=s) (h1:s < l.wells.length) (hb:best=Xm true l p s day to) (hb':best<=100000) :
 ∀ {n:Nat} {v t:Int} {out:List Nat},Gr l p s day to best n0 n v t out->∃ v' t' out',Gr l p s day to best n0 0 v' t' out'
 | 0,v,t,out,h=>⟨v,t,out,h⟩
 | n+1,v,t,out,h=>by
  obtain ⟨i,_,hf⟩:=h.ex hg hd hd' h0 h1 hb hb';obtain ⟨m,⟨x,g1,g2,g3,g4⟩,hm⟩:=Go.Sx.least_ex (λi=>Fit l p to best n v t i) ⟨i,hf⟩;exact Gr.ends hg hd hd' h0 h1 hb hb' (h.step hg hd hd' h0 h1 hb g1 g2 g3 g4 λj hj hq=>by have:=hm j hq;omega)
open Go.Sx
def U7 (l:Land) (p:Span) (to till:Int):List Int->Int->Int->List Nat->Prop
 | _,v,t,[]=>v=to/\t<=till
 | been,v,t,i :: r=>∃ x,l.legs[i]? = some x/\0<=Zm x v/\ZB true x p t<=100000/\Zm x v ∉ v :: been/\U7 l p to till (v :: been) (Zm x v) (ZB true x p t) r
theorem U7.le {l:Land} {p:Span} (h:OkLP l p) {to till:Int}:∀ {a:List Nat} {been:List Int} {v t:Int},U7 l p to till been v t a->t<=100001->t<=till
 | [],_,_,_,q,_=>q.2
 | i :: r,been,v,t,q,ht=>by
  obtain ⟨x,hx,ho,hr,hn,q⟩:=q;have:=Uw (k:=true) (h.leg hx) h.pace ht;have:=U7.le h q (by omega);omega
theorem U7.nin {l:Land} {p:Span} {to till:Int}:∀ {a:List Nat} {been:List Int} {v t:Int},U7 l p to till been v t a->v ∉ been->to ∉ been
 | [],_,_,_,q,hv=>by rw [<- q.1];exact hv
 | i :: r,been,v,t,q,hv=>by
  obtain ⟨x,hx,ho,hr,hn,q⟩:=q;have:=U7.nin q hn;exact λh=>this (List.mem_cons_of_mem _ h)
theorem Zlo {l:Land} {p:Span} (h:OkLP l p) {to till:Int} (htill:till<=100000):∀ {f:Nat} {been:List Int} {v t:Int} {a:List Nat},ZiH l f been->v ∉ been->(0<=v/\v < l.wells.length)->t<=100001 ->
 (a ∈ XW l p to till f been v t↔U7 l p to till been v t a):=by
 intro f
 induction f with
 | zero =>
  intro been v t a hR hv hvi;obtain ⟨g,q,_⟩:=hR.pos hv hvi;omega
 | succ f ih =>
  intro been v t a hR hv hvi ht;obtain ⟨g,hg,hR'⟩:=hR.pos hv hvi;have hgf:g=f:=by omega
  subst hgf;rw [Xk];by_cases h1:t > till
  . rw [if_pos h1];constructor
    . intro q;cases q
    . intro q;have:=q.le h ht;omega
  rw [if_neg h1];by_cases h2:v=to
  . rw [if_pos h2,List.mem_singleton];constructor
    . rintro rfl;exact ⟨h2,by omega⟩
    . intro q;cases a with
      | nil=>rfl
      | cons i r =>
       obtain ⟨x,hx,ho,hr,hn,q⟩:=q;have:=q.nin hn;exact absurd (by simp [h2]) this
  rw [if_neg h2];simp only [Yq,List.mem_flatMap,List.mem_range];constructor
  . rintro ⟨i,hi,q⟩;simp only [Wh] at q;cases hx:l.legs[i]? with
    | none=>rw [hx] at q;cases q
    | some x =>
     rw [hx] at q;simp only at q;by_cases hc:Zm x v < 0\/Zm x v ∈ v :: been
     . rw [if_pos hc] at q;cases q
     rw [if_neg hc] at q;obtain ⟨r,hr,rfl⟩:=List.mem_map.1 q;have ho:¬ Zm x v < 0:=λz=>hc (.inl z);have hn:Zm x v ∉ v :: been:=λz=>hc (.inr z);have ha:=Xf (k:=true) (h.leg hx) h.pace ht;have hr':=(ih hR' hn (Yc h hx ho).1 (by omega)).1 hr;refine ⟨x,hx,by omega,?_,hn,hr'⟩;have:=hr'.le h (by omega);omega
  . intro q;cases a with
    | nil=>exact absurd q.1 h2
    | cons i r =>
     obtain ⟨x,hx,ho,hr,hn,q⟩:=q;refine ⟨i,(List.getElem?_eq_some_iff.1 hx).1,?_⟩;rw [VZ hx (by omega) hn];exact List.mem_map.2 ⟨r,(ih hR' hn (Yc h hx (by omega)).1 (by omega)).2 q,rfl⟩
theorem U7.len {l:Land} {p:Span} (h:OkLP l p) {to till:Int}:∀ {a:List Nat} {f:Nat} {been:List Int} {v t:Int},U7 l p to till been v t a->ZiH l f been->v ∉ been->(0<=v/\v < l.wells.length)->a.length+1<=f
 | [],f,been,v,t,q,hR,hv,hi=>by obtain ⟨g,hg,_⟩:=hR.pos hv hi;simp;omega
 | i :: r,f,been,v,t,q,hR,hv,hi=>by
  obtain ⟨g,hg,hR'⟩:=hR.pos hv hi;obtain ⟨x,hx,ho,hr,hn,q⟩:=q;have:=U7.len h q hR' hn (Yc h hx (by omega)).1;simp;omega
theorem Zgt {l:Land} {i:Nat} {v:Int}:W9 l i v=match l.legs[i]? with | some x=>Zm x v | none=>-1:=by
 cases h:l.legs[i]? with
 | none=>rw [List.getElem?_eq_none_iff] at h;exact Zfu (.inr (by omega))
 | some x =>
  obtain ⟨hi,hx⟩:=List.getElem?_eq_some_iff.1 h;rw [Zck hi,hx]
theorem ZaB {l:Land} {p:Span} {to till:Int}:∀ {c:List Nat} {been:List Int} {v t:Int},
 U7 l p to till been v t c↔Xr l v (v :: been) (Yx c)=some to/\∃ u,goW true l p v t c=some (to,u)/\u<=till
 | [],been,v,t=>by
  simp only [U7,Yx,List.map_nil,Xr,Option.some.injEq,goW,Prod.mk.injEq];constructor
  . rintro ⟨h1,h2⟩;exact ⟨h1,t,⟨h1,rfl⟩,h2⟩
  . rintro ⟨h1,u,⟨_,rfl⟩,h2⟩;exact ⟨h1,h2⟩
 | i :: c,been,v,t=>by
  simp only [U7,Yx,List.map_cons,Xr,goW];rw [Zgt];cases hx:l.legs[i]? with
  | none =>
   constructor
   . rintro ⟨x,hx',_⟩;cases hx'
   . rintro ⟨h1,_⟩;simp at h1
  | some x =>
   simp only;constructor
   . rintro ⟨y,hy,ho,hr,hn,q⟩;cases hy
     obtain ⟨q1,q2⟩:=(ZaB (c:=c)).1 q;rw [if_neg (by omega),if_neg hn,if_neg (by omega),if_neg (by omega)];exact ⟨q1,q2⟩
   . rintro ⟨h1,h2⟩;split at h1
     . cases h1
     rename_i h3;split at h1
     . cases h1
     rename_i h4;rw [if_neg h3] at h2;split at h2
     . obtain ⟨u,hu,_⟩:=h2;cases hu
     rename_i h5;exact ⟨x,rfl,by omega,by omega,h4,(ZaB (c:=c)).2 ⟨h1,h2⟩⟩
theorem ZeA {l:Land} {p:Span} (hg:OkLP l p):∀ {legs:List Int} {v u:Int} {been:List Int},been.Nodup->(∀ b ∈ been,0<=b/\b < l.wells.length)->Xr l v been legs=some u->legs.length+been.length<=l.wells.length
 | [],v,u,been,h1,h2,_=>by have:=ZeV h1 h2;simpa using this
 | i :: r,v,u,been,h1,h2,h=>by
  simp only [Xr] at h;split at h
  . cases h
  rename_i he;split at h
  . cases h
  rename_i hn;obtain ⟨k,x,_,_,hx,_,e⟩:=ZaK he;have hin:=(Yc hg hx (by rw [<- e];exact he)).1;have:=ZeA hg (List.nodup_cons.2 ⟨hn,h1⟩) (λb hb=>(List.mem_cons.1 hb).elim (λq=>by rw [q,e];exact hin) (h2 b)) h;simp only [List.length_cons] at this ⊢;omega
open Go.Proofs.YtiigiflofnjilaaGreat
theorem Zgf:∀ {a b:List Nat},Yx a=Yx b->a=b
 | [],[],_=>rfl
 | x :: a,y :: b,h=>by
  simp only [Yx,List.map_cons,List.cons.injEq] at h;rw [Zgf (a:=a) (b:=b) h.2,show x=y by omega]
 | [],_ :: _,h=>by simp [Yx] at h
 | _ :: _,[],h=>by simp [Yx] at h
theorem ZBH {s:Season} (h:OkS s) {legs:List Int} {u:Int} (hg:Xr s.land s.start [s.start] legs=some u):legs.length < s.land.wells.length/\legs.length<=24:=by
 have:=ZeA h.lp (legs:=legs) (v:=s.start) (u:=u) (been:=[s.start]) (by simp) (λb hb=>by simp only [List.mem_singleton] at hb;subst hb;exact h.start) hg;have hw:=h.land;simp only [ZX,inR,Bool.and_eq_true,decide_eq_true_eq] at hw;simp only [List.length_cons,List.length_nil] at this;omega
theorem Zgn {s:Season} (h:OkS s) {c:List Nat} (hc:c.length<=24):X7 s (Yx c)=true↔∃ v u,goW true s.land s.pace s.start s.day c=some (v,u)/\u<=s.till:=by
 have hn:=h.num;have hst:=h.start;have key:∀ {ss:List Stop} {at':Int},YK s.land s.pace s.start s.day (Yx c)=(ss,at',0)->(X7 s (Yx c)=true↔∃ v u,goW true s.land s.pace s.start s.day c=some (v,u)/\u<=s.till):=λ{ss at'} hw=>by
  obtain ⟨_,ht⟩:=ZrG hw;have hss:Zy s (Yx c)=ss:=by unfold Zy;rw [hw]
  have hlen:=ht.len;simp only [Yx,List.length_map] at hlen;unfold X7;rw [hss,hw];simp only [decide_true,Bool.true_and,Bool.or_eq_true,decide_eq_true_eq];by_cases h0:ss.length=0
  . have:c=[]:=List.eq_nil_of_length_eq_zero (by omega);subst this;exact ⟨λ_=>⟨s.start,s.day,rfl,by omega⟩,λ_=>.inl h0⟩
  . obtain ⟨c',h1,h2,h3,_⟩:=ht.at h.lp (Int.le_refl _) (by omega) (ss.length - 1) (Zer ss) (ZbR h0);have hcc:c'=c:=by
     have e:(Yx c).take (ss.length - 1+1)=Yx c:=List.take_of_length_le (by simp [Yx];omega);rw [e] at h2;exact Zgf h2.symm
    subst hcc;constructor
    . rintro (q | q)
      . exact absurd q h0
      . exact ⟨_,_,h3,q⟩
    . rintro ⟨v,u,e,q⟩;rw [h3] at e;simp only [Option.some.injEq,Prod.mk.injEq] at e;exact .inr (by omega)
 constructor
 . intro q;have q':=q;simp only [X7,Bool.and_eq_true,decide_eq_true_eq] at q';have:YK s.land s.pace s.start s.day (Yx c)=((YK s.land s.pace s.start s.day (Yx c)).1,(YK s.land s.pace s.start s.day (Yx c)).2.1,0):=by
    rw [<- q'.1]
   exact (key this).1 q
 . rintro ⟨v,u,e,q⟩;obtain ⟨ss,hw⟩:=Zys h.lp (by omega) (by omega) hst.1 hst.2 hc e;exact (key hw).2 ⟨v,u,e,q⟩
theorem ZgZ {k:Bool} {l:Land} {p:Span} {w u to:Int}:∀ {c:List Nat} {v t:Int} {been:List Int},goW k l p v t c=some (w,u)->Xr l v been (Yx c)=some to->w=to
 | [],v,t,been,h,h'=>by
  simp only [goW,Option.some.injEq,Prod.mk.injEq,Yx,List.map_nil,Xr] at h h';omega
 | i :: c,v,t,been,h,h'=>by
  simp only [goW,Yx,List.map_cons,Xr] at h h';rw [Zgt] at h';cases hx:l.legs[i]? with
  | none=>rw [hx] at h;cases h
  | some x =>
   rw [hx] at h h';simp only at h h';split at h
   . cases h
   rename_i h1;split at h
   . cases h
   rw [if_neg h1] at h';split at h'
   . cases h'
   exact ZgZ h h'
theorem Zgw {s:Season} (h:OkS s) {to:Int} {c:List Nat}:c ∈ XB s.land s.pace s.start to s.day s.till↔Xr s.land s.start [s.start] (Yx c)=some to/\X7 s (Yx c)=true:=by
 have hn:=h.num;unfold XB;rw [Zlo h.lp (by omega) ZiH.start (by simp) h.start (by omega),ZaB];constructor
 . rintro ⟨h1,u,h2,h3⟩;have hl:=(ZBH h h1).2;exact ⟨h1,(Zgn h (by simpa [Yx] using hl)).2 ⟨_,_,h2,h3⟩⟩
 . rintro ⟨h1,h2⟩;have hl:=(ZBH h h1).2;obtain ⟨v,u,h3,h4⟩:=(Zgn h (by simpa [Yx] using hl)).1 h2;refine ⟨h1,u,?_,h4⟩;rw [ZgZ h3 h1] at h3;exact h3
theorem Znp {l:Land} {well day:Int}:0<=(Xo l well [] day).1.lo:=by
 unfold Xo;split
 . exact Int.le_refl _
 rename_i h1;split
 . exact Int.le_refl _
 rename_i h2;split
 . exact Int.le_refl _
 split
 . exact Int.le_refl _
 split
 . rename_i w hw;simp only [Bool.not_eq_false,ZX,Bool.and_eq_true,List.all_eq_true,inR,decide_eq_true_eq] at h1 h2;have hwell:=h1.1.2 w (List.mem_of_getElem? hw);simp only [YS,Yl,inR,Bool.and_eq_true,decide_eq_true_eq] at hwell;have:0<=(day - 1 - -1) * w.yld.lo:=Int.mul_nonneg (by omega) (by omega);simp only [Wd,Y6];omega
 . exact Int.le_refl _
theorem ZkB {s:Season} {x:Scene} (st:Stop):0<=ZaF s x st:=Znp
theorem Zgu {s:Season} {p:Plan} {to:Int} (hto:Xr s.land s.start [s.start] p.legs=some to) (ha:0<=p.animals/\p.animals<=s.herd) (hs:0<=p.slabs/\p.slabs<=12):U9 s p=true:=by
 simp only [U9,hto,Option.isSome_some,inR,Bool.true_and,Bool.and_eq_true,decide_eq_true_eq];omega
theorem ZgP {s:Season} (h:OkS s) {a:List Int} {k m:Int} (hm:1<=m):m<=UH s a k↔m<=s.herd/\∀ x ∈ s.scenes,(WR s ⟨a,m,k⟩ x).1=0 :=
 Zgh hm h.beast.1 h.beast.2 (λ_ _=>ZkB)
theorem ZdF {s:Season} (h:OkS s) {a:List Int} {k:Int}:0<=UH s a k/\UH s a k<=s.herd:=Zi1 (by have:=h.num;omega) (λ_ _=>ZkB)
end Go.Azalai
namespace Go.Proofs.YtiigiflofnjilaaGreat
open Go Go.Sx
def c64:SC:=(sr1 [o1 2 (Jz 0 0 37),o1 4 (.alloc zv7 142)] (sr1 [m1 5 1,o1 6 (ao 2 1),o1 7 (lf 6 1),o1 8 (.un .neg (.t 7)),o1 9 (ao 2 2),o1 10 (lf 9 1),o1 11 (.un .neg (.t 10)),o1 12 (ao 2 0),o1 13 (lf 12 1),o1 14 (Jl 13),o1 15 (.un .neg (.t 14)),o1 16
 (.build zv7 [(0,1,.t 5),(1,1,.t 8),(2,1,.t 11),(3,1,.t 15)]),Js 4 16 4] .ret))
def r64:List RV:=[.cell 4 4 true]
theorem t64:Qt1 Tryz.prog 64 c64 r64 17:=Z0 Tryz.func64
def c67:SC:=(sr1 [o1 4 (Jz 0 0 37),o1 5 (Jz 1 0 142),o1 6 (Jz 2 0 37),o1 7 (Jz 3 0 142),Jw 8 Jf] (.seq (sr1 [o1 10 (lt 5 4),o1 11 (lt 7 4),o1 12 (.eqs false true [1,1,1,1] (.t 10) (.t 11))] (Ji 12 (sr1 [o1 13 (ao 4 0),o1 14 (lf 13 1),o1 15 (ao 6 0),o1
 16 (lf 15 1),o1 17 (J2 114 14 16),o1 18 (Jc .lss 17 0),m1 8 18] .ret) .skip)) (.seq (sr1 [Jk 19 0] (.block 0 (.loop (sr1 [o1 20 (Jc .lss 19 4)] (.seq (Ji 20 .skip (.exit 0)) (.seq (.block 1 (sr1 [m1 21 19,m1 9 21] (.seq (.regd (Jr 7) [Jm 22 9,Jp 23
 (.ixa (.t 5) (.t 22) 4 1) [0],Jp 24 (lf 23 1) [1],Jm 25 9,Jp 26 (.ixa (.t 7) (.t 25) 4 1) [3],Jp 27 (lf 26 1) [4],Jp 28 (Jb .neq 24 27) [2,5]] 0 0 []) (Ji 28 (.seq (.regd (Jr 8) [Jm 29 9,Jp 30 (.ixa (.t 5) (.t 29) 4 1) [0],Jp 31 (lf 30 1) [1],Jm 32
 9,Jp 33 (.ixa (.t 7) (.t 32) 4 1) [3],Jp 34 (lf 33 1) [4],Jp 35 (Jb .gtr 31 34) [2,5],Jp 8 (.mv (.t 35)) (Jr 7)] 0 0 []) .ret) .skip)))) (.reg [o1 36 (Jc .add 19 1),m1 19 36]))))))) (sr1 [Jw 8 Jf] .ret))))
def r67:List RV:=[.tmp 8]
theorem t67:Qt1 Tryz.prog 67 c67 r67 37:=Z0 Tryz.func67
def c27:SC:=(sr1 [o1 1 (Jz 0 0 34),Jk 2 0,Jk 3 0] (.seq (sr1 [o1 14 (lt 1 37),o1 15 (J1 16 14),m1 4 15] (sr1 [m1 16 4,o1 17 (Jc .neq 16 0)] (Ji 17 (sr1 [m1 18 4,Jk 2 0,m1 3 18] .ret) .skip))) (sr1 [o1 20 (ao 1 0),o1 21 (lt 20 2),o1 22 (ao 1 33),o1 23
 (lf 22 1),o1 24 (ao 1 34),o1 25 (lf 24 1),o1 26 (ao 1 2),o1 27 (lt 26 2),o1 28 (J4 52 21 23 25 27),m1 19 28,o1 29 (Je 19 0),o1 30 (Je 19 1),m1 5 29,m1 6 30] (sr1 [o1 31 (ao 1 4),o1 32 (ao 31 15),o1 33 (ao 32 0),o1 34 (lf 33 1),o1 35 (ao 1 30),o1 36
 (lf 35 1),o1 37 (.div .quo (.t 34) (.t 36)),o1 38 (.mm false [cn 12,.t 37]),m1 7 38] (sr1 [o1 8 (.mv (.c (.slice none 0 0)))] (.seq (sr1 [o1 39 (ao 1 36),o1 40 (lf 39 1),o1 41 (Jl 40),Jk 42 0] (.block 0 (.loop (sr1 [o1 43 (Jb .lss 42 41)] (.seq (Ji
 43 .skip (.exit 0)) (.seq (.block 1 (sr1 [o1 44 (Jx 40 42 6),o1 45 (lt 44 6),o1 10 (.alloc zv5 72),Js 10 45 6] (sr1 [o1 46 (ao 1 32),o1 47 (lf 46 1),m1 11 47] (.seq (sr1 [m1 48 5,o1 49 (Jl 48),Jk 50 0] (.block 2 (.loop (sr1 [o1 51 (Jb .lss 50 49)]
 (.seq (Ji 51 .skip (.exit 2)) (.seq (.block 3 (sr1 [m1 52 50,o1 53 (Jx 48 50 2),o1 54 (lt 53 2),o1 13 (.alloc zv0 27),m1 12 52,Js 13 54 2] (sr1 [o1 55 (ao 13 1),o1 56 (lf 55 1),o1 57 (ao 1 35),o1 58 (lf 57 1),o1 59 (Jb .leq 56 58)] (Ji 59 (.regd (Jr
 13) [Jm 60 11,Jm 61 7,Jo 62 (ao 10 5),Jp 63 (lf 62 1) [2],Jm 64 12,Jp 65 (Jx 63 64 1) [3,4],Jp 66 (lf 65 1) [5],Jo 67 (ao 1 31),Jp 68 (lf 67 1) [7],Jp 69 (Jb .sub 66 68) [6,8],Jp 70 (Jb .mul 61 69) [1,9],Jp 71 (.mm true [.t 60,.t 70]) [0,10]] 0 0
 [⟨some 11,.mv (.t 71),none,(Jr 12)⟩]) .skip)))) (.reg [o1 72 (Jc .add 50 1),m1 50 72]))))))) (.gh (.reg [m1 73 8,o1 74 (ao 1 28),o1 75 (lf 74 1),m1 76 11,o1 77 (Jb .mul 75 76),o1 78 (.bsl 1 3 [.t 77]),o1 79 (.appm 1 8 3 (.t 73) (.t 78)),m1 8
 79])))))) (.gh (.reg [o1 80 (Jc .add 42 1),m1 42 80])))))))) (.gh (sr1 [m1 81 8,o1 82 (J1 71 81),m1 2 82,Jk 3 0] .ret))))))))
def r27:List RV:=[.tmp 2,.tmp 3]
theorem t27:Qt1 Tryz.prog 27 c27 r27 83:=Z0 Tryz.func27
open Go.Azalai
theorem goalN {s:Season} (h:OkS s) {p:Plan} (hp:U9 s p=true):∃ m:Nat,m < s.land.wells.length/\Xr s.land s.start [s.start] p.legs=some (m:Int):=by
 obtain ⟨⟨to,hto⟩,_⟩:=UK hp;have:=Zha h.lp h.start hto;exact ⟨to.toNat,by omega,by rw [hto];congr 1;omega⟩
theorem ZmE (s:Season) (h:OkS s) (p:Plan) (hp:U9 s p=true) (hg:p.legs.length<=1000):Ct Tryz.prog 60 [.agg (Zs s),.agg (ZK p)] (I (ZeQ s p ((Xr s.land s.start [s.start] p.legs).getD 0))):=by
 have hsc:=h.scs;obtain ⟨m,hm,hto⟩:=goalN h hp;refine t60.1 (by simp [Zs,ZK,Zi,Zf,Zl,Zg,Zc,Zn,Za]) (by simp) ?_;dsimp only [c60,r60,Zs,ZK,go_sem];refine call (Zuj s h.small h.land h.pace h.start p.legs hg _) ?_;dsimp only [go_sem];rw [hto];simp only [Option.getD_some];have step:∀ k,k < s.scenes.length->Zbj ((s.scenes.map (Xx s p m)).take (k+1))=if k=0 then Xx s p m (s.scenes[k]?.getD ⟨⟨0,0⟩,⟨0,0⟩,[],[]⟩) else min (Zbj ((s.scenes.map (Xx s p m)).take k)) (Xx s p m (s.scenes[k]?.getD ⟨⟨0,0⟩,⟨0,0⟩,[],[]⟩)):=λk hk=>by
  rw [List.take_succ_eq_append_getElem (by simpa using hk),List.getElem_map,List.getElem?_eq_getElem hk,Option.getD_some];split
  . rename_i h0;subst h0;simp [Zbj]
  . rename_i h0;rw [Zcx (ZfT h0 (by simp;omega))]
 refine XE [2,3,5,6,7] rfl (λk:Nat=>[(6,I (Zbj ((s.scenes.map (Xx s p m)).take k))),(7,I k)]) (λ_=>[]) (λk=>k<=s.scenes.length) (λk=>s.scenes.length - k) 0 (Nat.zero_le _) ?_ ?_
 . (refine Zj ?_ ?_ ?_ rfl rfl<;>dsimp only [Zf,Zl,Zg,Zi,Zc,Zn,Zbj,id,go_sem]<;>simp [Zf,Zl,Zg,Zi,Zc,Zn,Zbj,Za])
 intro k hk;dsimp only [go_sem];simp only [List.length_map];by_cases hlt:k < s.scenes.length
 case neg =>
  refine Zr (by simp;omega) ?_;dsimp only [go_sem];rw [List.take_of_length_le (by simp;omega)];rfl
 refine Zq (by simpa using hlt) ?_;dsimp only [go_sem];refine Zo k hlt rfl ?_;dsimp only [Zi,go_sem];obtain ⟨hq,_⟩:=Zab h hlt hm;refine Zo m hq rfl ?_;dsimp only [Zn,go_sem];obtain ⟨hww,hwb⟩:=ZkV h hp hlt hm hq;rw [hww];have hst:=step k hlt;rw [List.getElem?_eq_getElem hlt,Option.getD_some] at hst;repeat (refine gb ?_;dsimp only [go_sem])
 have hnext:IntKind.i64.wrap ((k:Int)+1)=((k+1:Nat):Int):=by rw [Zh (by omega) (by omega)];omega
 by_cases hb:k=0\/Xx s p m s.scenes[k] < Zbj ((s.scenes.map (Xx s p m)).take k)
 . refine Zq (by simp;omega) ?_;dsimp only [go_sem];rw [hnext];have:Xx s p m s.scenes[k]=Zbj ((s.scenes.map (Xx s p m)).take (k+1)):=by
    rw [hst];split<;>omega
   rw [this];refine ⟨k+1,hlt,by omega,?_⟩;(refine Zj ?_ ?_ ?_ rfl rfl<;>dsimp only [Zf,Zl,Zg,Zi,Zc,Zn,id,go_sem]<;>simp [Zf,Zl,Zg,Zi,Zc,Zn,Za])
 . refine Zr (by simp;omega) ?_;dsimp only [go_sem];rw [hnext];have:Zbj ((s.scenes.map (Xx s p m)).take k)=Zbj ((s.scenes.map (Xx s p m)).take (k+1)):=by
    rw [hst,if_neg (by omega)];omega
   rw [this];refine ⟨k+1,hlt,by omega,?_⟩;(refine Zj ?_ ?_ ?_ rfl rfl<;>dsimp only [Zf,Zl,Zg,Zi,Zc,Zn,id,go_sem]<;>simp [Zf,Zl,Zg,Zi,Zc,Zn,Za])
end Go.Proofs.YtiigiflofnjilaaGreat
namespace Go.Azalai
open Go.Sx Go.Proofs.YtiigiflofnjilaaGreat
theorem ZqS {l:Land} {well day:Int}:(Xo l well [] day).1.lo<=1000000000:=by
 unfold Xo;split
 . simp
 rename_i h1;split
 . simp
 split
 . simp
 split
 . simp
 split
 . rename_i w hw;simp only [Bool.not_eq_false,ZX,Bool.and_eq_true,List.all_eq_true,inR,decide_eq_true_eq] at h1;have hwell:=h1.1.2 w (List.mem_of_getElem? hw);simp only [YS,Yl,inR,Bool.and_eq_true,decide_eq_true_eq] at hwell;simp only [Wd,Y6];omega
 . simp
theorem ZAp {s:Season} {x:Scene} (st:Stop):ZaF s x st<=1000000000:=ZqS
theorem Zf2 {s:Season} {p:Plan} {x:Scene} (h:OkS s) (hp:U9 s p=true):∀ d ∈ WP s p x,0<=d.water/\d.water<=30000000:=by
 have hn:=h.num;obtain ⟨_,hpl⟩:=UK hp;intro d hd;unfold WP at hd;split at hd
 . unfold WU at hd;split at hd
   . cases hd
   split at hd
   . obtain ⟨st,_,rfl⟩:=List.mem_map.1 hd;simp
   . unfold Ws at hd;obtain ⟨i,hi,rfl⟩:=List.getElem_of_mem hd;simp only [List.length_zipWith] at hi;rw [List.getElem_zipWith];have hb:=(Zg1 (x:=x) (slabs:=p.slabs) (l:=Zy s p.legs) h.beast.1 h.beast.2).1 _ (List.getElem_mem (show i < _ by omega));simp only [VJ];have h1:0<=p.animals * ((goF s x p.slabs (Zy s p.legs)).2.2[i]'(by omega)).1:=Int.mul_nonneg hpl.1 hb.1;have h2:p.animals * ((goF s x p.slabs (Zy s p.legs)).2.2[i]'(by omega)).1<=30 * 1000000:=Int.mul_le_mul (by omega) hb.2 hb.1 (by decide)
     omega
 . cases hd
theorem Zmy {s:Season} {p:Plan} {x:Scene} (hg:p.legs.length<=1000):(WP s p x).length<=1000:=by
 have h1:(Zy s p.legs).length<=1000:=Nat.le_trans VG hg;unfold WP WU;split
 . split
   . simp
   split
   . simp;omega
   . simp only [Ws,List.length_zipWith];omega
 . simp
end Go.Azalai
namespace Go.Proofs.YtiigiflofnjilaaGreat
open Go Go.Sx Go.Azalai
theorem Zyn (s:Season) (h:OkS s) (a:List Int) (ha:(Xr s.land s.start [s.start] a).isSome=true) (hg:a.length<=1000) (k:Int) (hk:0<=k/\k<=12) :
 Ct Tryz.prog 66 [.agg (Zs s),.sl false 1 (a.map Zn),I k] (I (UH s a k)):=by
 have hnum:=h.num;have hsc:=h.scs;have hp:U9 s ⟨a,1,k⟩=true:=by
  simp only [U9,ha,inR,Bool.true_and,Bool.and_eq_true,decide_eq_true_eq];omega
 refine tw66.1 (by simp [Zs,Zi,Zf,Zl,Zg,Zc,Zn,Za]) (by simp) ?_;dsimp only [cw66,rw66,Zs,go_sem];simp only [List.length_map];refine XE [1,2,3,7,18,19] rfl (λq:Nat × Int=>[(19,I q.1),(7,I q.2)]) (λ_=>[])
  (λq=>q.1<=s.scenes.length/\Zll s a k (s.scenes.drop q.1) q.2=UH s a k/\0<=q.2/\q.2<=30) (λq=>s.scenes.length - q.1) (0,s.herd) ⟨Nat.zero_le _,rfl,by simp only;omega,by simp only;omega⟩ ?_ ?_
 . (refine Zj ?_ ?_ ?_ rfl rfl<;>dsimp only [Zf,Zl,Zg,Zi,Zc,Zn,id,go_sem]<;>simp [Zf,Zl,Zg,Zi,Zc,Zn,Za])
 rintro ⟨j,n⟩ ⟨hj,hi,hn0,hn1⟩;simp only at hj hi hn0 hn1;dsimp only [go_sem];by_cases hlt:j < s.scenes.length
 case neg =>
  refine Zr (by simp;omega) ?_;dsimp only [go_sem];rw [List.drop_eq_nil_of_le (by omega),Zll] at hi;rw [hi]
 refine Zq (by simpa using hlt) ?_;dsimp only [go_sem];have ht:=ZA9 s h j hlt ⟨a,1,k⟩ hp hg;have hx:=h.scene _ (List.getElem_mem hlt);have hy:s.scenes[j].yields.length=s.land.wells.length:=by simp only [YB,Bool.and_eq_true,decide_eq_true_eq] at hx;omega
 have hwat:=Zf2 (x:=s.scenes[j]) h hp;have hlen:=Zmy (s:=s) (p:=⟨a,1,k⟩) (x:=s.scenes[j]) hg;rw [List.drop_eq_getElem_cons hlt,Zll] at hi;generalize WP s ⟨a,1,k⟩ s.scenes[j]=D at ht hi hwat hlen;generalize WR s ⟨a,1,k⟩ s.scenes[j]=w at ht hi;refine Y7 [] ht rfl rfl rfl ?_ ?_ ?_
 . exact Zb (by simp [YG,ZK,Zf,Zl,Zg,Zi,Zc,Zn,Zw,Za])
 . trivial
 rintro _ rfl
 (repeat first | dsimp only [ZyN,go_sem] | simp only [nbr])
 by_cases hw0:w.1=0
 case neg =>
  refine Zq (by simpa using hw0) ?_;dsimp only [go_sem];rw [if_pos hw0] at hi;rw [<- hi]
 refine Zr (by simpa using hw0) ?_;dsimp only [go_sem];rw [if_neg (by simpa using hw0)] at hi;simp only [List.length_map];refine XE [1,2,3,7,9,18,19,36,37,38] rfl (λq:Nat × Int=>[(38,I q.1),(7,I q.2)]) (λ_=>[])
  (λq=>q.1<=D.length/\ZhO s s.scenes[j] (D.drop q.1) q.2=ZhO s s.scenes[j] D n/\0<=q.2/\q.2<=30) (λq=>D.length - q.1) (0,n) ⟨Nat.zero_le _,rfl,hn0,hn1⟩ ?_ ?_
 . (refine Zj ?_ ?_ ?_ rfl rfl<;>dsimp only [YG,Zf,Zl,Zg,Zi,Zc,Zn,Zw,Z2,id,go_sem]<;>simp [YG,Zf,Zl,Zg,Zi,Zc,Zn,Zw,Z2,Za])
 rintro ⟨i,m⟩ ⟨hi0,hi1,hm0,hm1⟩;simp only at hi0 hi1 hm0 hm1;dsimp only [go_sem];by_cases hilt:i < D.length
 case neg =>
  refine Zr (by simp;omega) ?_;dsimp only [go_sem];rw [List.drop_eq_nil_of_le (by omega),ZhO] at hi1;rw [Zh (n:=(j:Int)+1) (by omega) (by omega)];refine ⟨(j+1,m),⟨hlt,by simp only;rw [hi1];exact hi,hm0,hm1⟩,by simp only;omega,?_⟩;(refine Zj ?_ ?_ ?_ rfl rfl<;>dsimp only [YG,Zf,Zl,Zg,Zi,Zc,Zn,Zw,Z2,id,go_sem]<;>simp [YG,Zf,Zl,Zg,Zi,Zc,Zn,Zw,Z2,Za])
 refine Zq (by simpa using hilt) ?_;dsimp only [go_sem];refine Zo i hilt rfl ?_;dsimp only [Z2,go_sem];rw [List.drop_eq_getElem_cons hilt,ZhO] at hi1;have hw:=hwat _ (List.getElem_mem hilt);have hnext:IntKind.i64.wrap ((i:Int)+1)=((i+1:Nat):Int):=by rw [Zh (by omega) (by omega)];omega
 by_cases hpos:D[i].water > 0
 . refine Zq (by simpa using hpos) ?_;dsimp only [go_sem];refine call (Ztl s h.small j hlt hy ⟨0,D[i].well,⟨0,0⟩,⟨D[i].day,0⟩⟩) ?_;dsimp only [go_sem];refine ZcV (by omega) ?_;have h1:=ZkB (s:=s) (x:=s.scenes[j]) ⟨0,D[i].well,⟨0,0⟩,⟨D[i].day,0⟩⟩;have h2:=ZAp (s:=s) (x:=s.scenes[j]) ⟨0,D[i].well,⟨0,0⟩,⟨D[i].day,0⟩⟩;have h3:=YY (d:=D[i].water) h1 h2 (by omega);dsimp only [go_sem];rw [Zh (n:=(ZaF s s.scenes[j] ⟨0,D[i].well,⟨0,0⟩,⟨D[i].day,0⟩⟩).tdiv D[i].water) (by omega) (by omega),hnext]
   rw [if_pos hpos] at hi1;refine ⟨(i+1,min m ((ZaF s s.scenes[j] ⟨0,D[i].well,⟨0,0⟩,⟨D[i].day,0⟩⟩).tdiv D[i].water)),⟨hilt,hi1,by simp only;omega,by simp only;omega⟩,by simp only;omega,?_⟩;(refine Zj ?_ ?_ ?_ rfl rfl<;>dsimp only [YG,Zf,Zl,Zg,Zi,Zc,Zn,Zw,Z2,id,go_sem]<;>simp [YG,Zf,Zl,Zg,Zi,Zc,Zn,Zw,Z2,Za])
 . refine Zr (by simpa using hpos) ?_;dsimp only [go_sem];rw [hnext];rw [if_neg hpos] at hi1;refine ⟨(i+1,m),⟨hilt,hi1,hm0,hm1⟩,by simp only;omega,?_⟩;(refine Zj ?_ ?_ ?_ rfl rfl<;>dsimp only [YG,Zf,Zl,Zg,Zi,Zc,Zn,Zw,Z2,id,go_sem]<;>simp [YG,Zf,Zl,Zg,Zi,Zc,Zn,Zw,Z2,Za])
def Vt (b:Bst):List SV:=[I b.w,I (-b.an),I (-b.sl),I (-(b.legs.length:Int))]
theorem Zfv (a:List Nat):(Yx a).map Zn=a.map ZI:=by simp [Yx,ZI,Zn]
theorem Y5 (a:List Nat):(Yx a).length=a.length:=by simp [Yx]
structure SmB (b:Bst):Prop where
 len:b.legs.length<=1000
 an:0<=b.an/\b.an<=30
 sl:0<=b.sl/\b.sl<=12
theorem Zen (b:Bst) (hb:SmB b):Ct Tryz.prog 64 [.agg (ZK b.plan),I b.w] (.agg (Vt b)):=by
 obtain ⟨h1,h2,h3⟩:=hb;refine t64.1 (by simp [ZK,Bst.plan,Zn,Za,KFL,KF]) (by simp [Vt]) ?_;dsimp only [c64,r64,ZK,Bst.plan,Vt,go_sem];simp only [List.length_map,Y5];rw [Int.zero_sub,Int.zero_sub,Int.zero_sub,Zh (n:=-b.an) (by omega) (by omega),Zh (n:=-b.sl) (by omega) (by omega),Zh (n:=-(b.legs.length:Int)) (by omega) (by omega)]
theorem ZkZ (q p:Bst) (hq:SmB q) (hp:SmB p):Ct Tryz.prog 67 [.agg (ZK q.plan),.agg (Vt q),.agg (ZK p.plan),.agg (Vt p)] (B (Z5 q p)):=by
 have hq1:=hq.len;have hp1:=hp.len;refine t67.1 (by simp [ZK,Bst.plan,Zn,Za,Vt,KFL,KF]) (by simp) ?_;dsimp only [c67,r67,ZK,Bst.plan,Vt,go_sem];by_cases e:q.w=p.w/\q.an=p.an/\q.sl=p.sl/\q.legs.length=p.legs.length
 . obtain ⟨e1,e2,e3,e4⟩:=e;refine Zq (by simp [e1,e2,e3,e4]) ?_;dsimp only [go_sem];have hc:=Zis q.legs p.legs (by omega) (by omega);simp only [ZS,<- Zfv] at hc;refine call hc ?_;dsimp only [go_sem];rw [Zg2];simp [Z5,e1,e2,e3,e4]
 refine Zr (by simp;omega) ?_;dsimp only [go_sem];refine Xt 5 ?_;dsimp only [Zd,go_sem];refine Zq (by decide) ?_;dsimp only [Zd,go_sem];repeat (refine ixa 0 rfl (by decide) ?_;dsimp only [Zd,go_sem])
 by_cases e1:q.w=p.w
 case neg =>
  refine Zq (by simpa using e1) ?_;dsimp only [Zd,go_sem];repeat (refine ixa 0 rfl (by decide) ?_;dsimp only [Zd,go_sem])
  simp [Z5,e1]
 refine Zr (by simpa using e1) ?_;dsimp only [Zd,go_sem];refine Zq (by decide) ?_;dsimp only [Zd,go_sem];repeat (refine ixa 1 rfl (by decide) ?_;dsimp only [Zd,go_sem])
 by_cases e2:q.an=p.an
 case neg =>
  refine Zq (by simp;omega) ?_;dsimp only [Zd,go_sem];repeat (refine ixa 1 rfl (by decide) ?_;dsimp only [Zd,go_sem])
  have:decide (-q.an > -p.an)=decide (q.an < p.an):=by rw [decide_eq_decide];omega
  simp [Z5,e1,e2]
 refine Zr (by simp;omega) ?_;dsimp only [Zd,go_sem];refine Zq (by decide) ?_;dsimp only [Zd,go_sem];repeat (refine ixa 2 rfl (by decide) ?_;dsimp only [Zd,go_sem])
 by_cases e3:q.sl=p.sl
 case neg =>
  refine Zq (by simp;omega) ?_;dsimp only [Zd,go_sem];repeat (refine ixa 2 rfl (by decide) ?_;dsimp only [Zd,go_sem])
  simp [Z5,e1,e2,e3]
 refine Zr (by simp;omega) ?_;dsimp only [Zd,go_sem];refine Zq (by decide) ?_;dsimp only [Zd,go_sem];repeat (refine ixa 3 rfl (by decide) ?_;dsimp only [Zd,go_sem])
 have e4:¬ q.legs.length=p.legs.length:=λe4=>e ⟨e1,e2,e3,e4⟩;refine Zq (by simp;omega) ?_;dsimp only [Zd,go_sem];repeat (refine ixa 3 rfl (by decide) ?_;dsimp only [Zd,go_sem])
 simp [Z5,e1,e2,e3,e4]
end Go.Proofs.YtiigiflofnjilaaGreat
namespace Go.Sx
open Go Go.RowKit
theorem Zd9 {m:Nat} {σ : St} (k:Nat) {l l':List SV} {T':TypeId} (hk:lkh k σ.hp = .cells l T') (hw:∀ (w:World) (E:Env) (n ok:Nat->Prop) (ys:List Value),RL w E n ok l ys->RL w E n ok l' ys) :
 Ent m σ ⟨σ.fr,(k,.cells l' T') :: σ.hp,σ.n,σ.N,σ.gs⟩:=λC E a w _ h=>by
 have hocc:∀ b,occ E k (.cells l' T') b↔occ E k (lkh k σ.hp) b:=λb=>by rw [hk];rfl
 obtain ⟨h6,h7⟩:=Wf (hb:=.cells l' T') (B:=E.β k) h.hs hocc (by rw [hk];rfl) ⟨rfl,rfl,rfl,rfl,λ_ _=>rfl⟩ (λhst=>by
  have hb:=h.hs.bk k;rw [hk] at hb;simp only [Z9] at hb ⊢;obtain ⟨cs,e1,e2⟩:=hb
  exact ⟨cs,e1,hw _ _ _ _ _ (ZJ hst (λ_ _=>Ele.rfl) (λ_ h=>h) _ _ e2)⟩)
 exact ⟨E,λu=>Xy h7 (λ_ _=>Ele.rfl) (λ_ h=>h) (λ_ _ _ _=>Iff.rfl) (h.fr u),h.sz,XU h7 h.df,h.gs,h6⟩
end Go.Sx
namespace Go.Proofs.YtiigiflofnjilaaGreat
open Go Go.Sx Go.Azalai
def ZxA (r:Plan × Int × Int):SV:=.tup [.agg (ZK r.1),I r.2.1,I r.2.2]
theorem ZtX (w:Int):Ct Tryz.prog 64 [.agg [.v (.slice none 0 0),I 0,I 0],I w] (.agg [I w,I 0,I 0,I 0]) :=
 (Zen ⟨[],0,0,w⟩ ⟨by simp,by simp,by simp⟩).args (by simp) (ZC (UN (ZC Yk XK)) XK)
theorem ZlQ {s:Season} {to:Int} {a:List Nat} {k n:Int} (ha:a.length<=1000) (hn:0<=n/\n<=30) (hk:0<=k/\k<=12):SmB (YR s to a k n):=⟨ha,hn,hk⟩
end Go.Proofs.YtiigiflofnjilaaGreat
namespace Go.Sx
open Go Go.RowKit
section
variable {g:Option (Nat × Bool)} {k v' m0 T o m' T':Nat} {xs:List (List SV)} {inn:List (List (List SV))} {d:Option Nat} {σ : St} {r:KT} {K:RK}
theorem ZzJ {j:Int} (n:Nat) (hi:j=(n:Int)) (hn:n < xs.length) (hk:YD d (.pr k v' m0 n 0) g σ r K) :
 ∃ i rows TT,v'=v'+i/\YF k v' m0 xs T o m' inn T' i=some (m0,rows,TT)/\IXR g k v' m0 rows.length j d σ r K :=
 ⟨0,_,_,rfl,rfl,Wi n hi (by rw [YV];exact hn) hk⟩
end
theorem Zg5 {α : Type} {f:α->List SV} {h:α->List (List SV)} (o m':Nat):∀ l:List α,ZdL o m' (l.map h) (l.map f)=l.map λx=>(f x).set o (.sl false m' (h x))
 | []=>rfl
 | x :: l=>by simp only [List.map_cons,ZdL,Zg5 o m' l]
end Go.Sx
