/- Walks and plain laws that lead to the given statement, part 7 of 10. -/
import Derived.Test.YtongccnhomncnaaGreatQF
import Derived.Test.YtongccnhomncnaaGreatProg
import Derived.WideLaws
set_option maxRecDepth 100000
set_option maxHeartbeats 8000000
set_option linter.all false
open Nat renaming beq_refl->nbr
namespace Go.Proofs.YtongccnhomncnaaGreat
open Go Go.Sx Go.Azalai
theorem ZaF {α : Type} (p:α->Bool) {l:List α} {k:Nat} (h:k < l.length):(l.drop k).all p=(p l[k] && (l.drop (k+1)).all p):=by
 rw [List.drop_eq_getElem_cons h,List.all_cons]
theorem ibne (a b:Nat):((a:Int) != (b:Int)) = !decide (a=b):=by
 rw [Bool.eq_iff_iff];simp [bne];omega
theorem okX1 (n:Nat) (x:Scene):(!ZX 0 60 x.heat || !ZX 0 1000000 x.grass || (x.yields.length:Int) != (n:Int) || !x.yields.all (ZX 0 10000000) || (x.prices.length:Int) != (n:Int) || !x.prices.all (inR 0 1000000)) = !Yz n x:=by
 simp only [ibne,Yz];generalize ZX 0 60 x.heat=a;generalize ZX 0 1000000 x.grass=b;generalize decide (x.yields.length=n)=c;generalize decide (x.prices.length=n)=d;generalize x.yields.all (ZX 0 10000000)=e;generalize x.prices.all (inR 0 1000000)=f
 revert a b c d e f;decide
theorem okX2 (n:Nat) (x:Scene) (h:(!ZX 0 60 x.heat || !ZX 0 1000000 x.grass || (x.yields.length:Int) != (n:Int) || (x.prices.length:Int) != (n:Int))=true):Yz n x=false:=by
 simp only [ibne] at h;simp only [Yz]
 revert h
 generalize ZX 0 60 x.heat=a;generalize ZX 0 1000000 x.grass=b;generalize decide (x.yields.length=n)=c;generalize decide (x.prices.length=n)=d;generalize x.yields.all (ZX 0 10000000)=e;generalize x.prices.all (inR 0 1000000)=f
 revert a b c d e f;decide
theorem okX3 (n:Nat) (x:Scene) (h:(!ZX 0 60 x.heat || !ZX 0 1000000 x.grass || (x.yields.length:Int) != (n:Int) || (x.prices.length:Int) != (n:Int))=false) :
 Yz n x=(x.yields.all (ZX 0 10000000) && x.prices.all (inR 0 1000000))/\x.yields.length=n/\x.prices.length=n:=by
 simp only [ibne,Bool.or_eq_false_iff,Bool.not_eq_false',decide_eq_true_eq] at h;obtain ⟨⟨⟨h1,h2⟩,h3⟩,h4⟩:=h;refine ⟨?_,h3,h4⟩;simp only [Yz,h1,h2,h3,h4,decide_true,Bool.true_and]
theorem ZmV (s:Season) (hs:SmallS s):∃ xs:List (List SV),KFR xs/\Ct Tryz.prog 53 [.agg (Ye s.land),I s.start,I s.day,.agg (Ze s.pace)] (.tup [.sl false 2 xs,I (Wy s.land s.pace s.start s.day)]):=by
 have h:=Zkw s.land hs.land s.start s.day s.pace;unfold XX at h;split at h
 . exact ⟨_,by simp [Za,Ze],h⟩
 . exact ⟨[],trivial,h.res (res0:=.tup [.sl false 2 [],I (Wy s.land s.pace s.start s.day)]) (by simp [Za,KFR]) (VG (ZN Xd Wd))⟩
theorem ZvE {s:Season}:Wy s.land s.pace s.start s.day=0↔Z1 s.land=true/\Z6 s.pace=true/\inR 0 (s.land.wells.length - 1) s.start=true/\inR 0 100000 s.day=true:=by
 unfold Wy ZaN;cases Z1 s.land<;>cases Z6 s.pace<;>cases inR 0 (s.land.wells.length - 1) s.start<;>cases inR 0 100000 s.day<;>simp
theorem Zgc (s:Season):ZB s=((decide (Wy s.land s.pace s.start s.day=0) && decide (Zav s.breed s.camel=0) && UH s && inR 1 4 s.scenes.length) && s.scenes.all (Yz s.land.wells.length)):=by
 have hd:UH s=true->inR 0 100000 s.day=true:=λh=>by
  simp only [UH,inR,Bool.and_eq_true,decide_eq_true_eq] at h ⊢;omega
 have hr:decide (Wy s.land s.pace s.start s.day=0)=(Z1 s.land && Z6 s.pace && inR 0 (s.land.wells.length - 1) s.start && inR 0 100000 s.day):=by
  rw [Bool.eq_iff_iff,decide_eq_true_eq,ZvE];simp only [Bool.and_eq_true,and_assoc]
 rw [hr];simp only [ZB];cases hn:UH s
 . simp
 . rw [hd hn];cases Z1 s.land<;>cases Z6 s.pace<;>cases inR 0 (s.land.wells.length - 1) s.start<;>simp
theorem Zeo (s:Season) (hs:SmallS s):Ct Tryz.prog 27 [.agg (Zt s)] (I (if ZB s=true then 0 else 90)):=by
 have hw:=hs.land.1;have hsc:=hs.sc;refine t27.1 (by simp [Zt,Zl,Zh,Zn,Zi,Ze,Zq,Za]) (by simp) ?_;dsimp only [c27,r27,Zt,go_sem];obtain ⟨x,hx0,hc⟩:=ZmV s hs;refine call hc ?_;dsimp only [go_sem];repeat (first | (refine gb ?_;dsimp only [go_sem]) | (refine call (ZkV _ _ _ _) ?_;dsimp only [go_sem]) | (refine call (Zti _ _ _ _ _) ?_;dsimp only [go_sem]) | (refine call (Cm.checkCamel_ok s.breed s.camel) ?_;dsimp only [go_sem]))
 simp only [List.length_map];by_cases hA:(decide (Wy s.land s.pace s.start s.day=0) && decide (Zav s.breed s.camel=0) && UH s && inR 1 4 s.scenes.length)=true
 case neg =>
  refine Zr ?_ ?_
  . simp only [UH] at hA;grind
  dsimp only [go_sem];rw [Zgc,Bool.eq_false_iff.2 hA,Bool.false_and];rfl
 refine Zo ?_ ?_
 . simp only [UH] at hA;grind
 dsimp only [go_sem];rw [Zgc,hA,Bool.true_and];simp only [List.length_map];refine UD [1,3,85,86,87] rfl (λk:Nat=>[(87,I k)]) (λ_=>[]) (λk=>k<=s.scenes.length/\(s.scenes.drop k).all (Yz s.land.wells.length)=s.scenes.all (Yz s.land.wells.length)) (λk=>s.scenes.length - k) 0 ⟨Nat.zero_le _,rfl⟩ ?_ ?_
 . (refine Zj ?_ ?_ ?_ rfl rfl<;>dsimp only [Zi,Zh,Zn,Zl,Ze,Zq,hx0,id,go_sem]<;>simp [Zi,Zh,Zn,Zl,Ze,Zq,hx0,Za])
 intro k ⟨hk,hi⟩;dsimp only [go_sem];by_cases hlt:k < s.scenes.length
 . refine Zr (by simpa using hlt) ?_;dsimp only [go_sem];have hx:=hs.each _ (List.getElem_mem hlt);refine Zp k hlt rfl ?_;dsimp only [Zl,go_sem];repeat (first | (refine gb ?_;dsimp only [go_sem]) | (refine call (Zec _ _ s.scenes[k].heat _) ?_;dsimp only [go_sem]) | (refine call (Zec _ _ s.scenes[k].grass _) ?_;dsimp only [go_sem]) | (refine call (Zao _ _ s.scenes[k].yields (by omega) _) ?_;dsimp only [go_sem]) | (refine call (ZaZ _ _ s.scenes[k].prices (by omega) _) ?_;dsimp only [go_sem]))
   simp only [List.length_map];rw [ZaF _ hlt] at hi;rw [okX1];refine br ?_ ?_
   . intro hb;dsimp only [go_sem];rw [<- hi,(by simpa using hb:Yz s.land.wells.length s.scenes[k]=false)];rfl
   intro hb;dsimp only [go_sem];rw [Zg (n:=(k:Int)+1) (by omega) (by omega)];rw [(by simpa using hb:Yz s.land.wells.length s.scenes[k]=true),Bool.true_and] at hi;refine ⟨k+1,⟨hlt,hi⟩,by omega,?_⟩;(refine Zj ?_ ?_ ?_ rfl rfl<;>dsimp only [Zi,Zh,Zn,Zl,Ze,Zq,hx0,id,go_sem]<;>simp [Zi,Zh,Zn,Zl,Ze,Zq,hx0,Za])
 refine Zo (by simp;omega) ?_;dsimp only [go_sem];rw [<- hi,List.drop_eq_nil_of_le (by omega)];rfl
theorem ZkG (s:Season) (hs:SmallS s):Ct Tryz.prog 41 [.agg (Zt s)] (B (ZB s)):=by
 refine t41.1 (by simp [Zt,Zl,Zh,Zn,Zi,Ze,Zq,Za]) (by simp) ?_;dsimp only [c41,r41,Zt,go_sem];refine call (Zjx s.land hs.land) ?_;dsimp only [go_sem];repeat (first | (refine gb ?_;dsimp only [go_sem]) | (refine call (ZpM s.pace) ?_;dsimp only [go_sem]) | (refine call (Cm.checkCamelR_ok s.breed s.camel) ?_;dsimp only [go_sem]))
 have hw:=hs.land.1;have hsc:=hs.sc;refine br ?_ ?_
 . intro h;dsimp only [go_sem]
   (simp only [ZB,Option.some.injEq,SV.v.injEq,Value.bool.injEq]<;>grind)
 intro h;dsimp only [go_sem];repeat (first | (refine gb ?_;dsimp only [go_sem]) | (refine call (XR _ _ _) ?_;dsimp only [go_sem]))
 refine br ?_ ?_
 . intro h2;dsimp only [go_sem]
   (simp only [ZB,UH,Option.some.injEq,SV.v.injEq,Value.bool.injEq]<;>grind)
 intro h2;dsimp only [go_sem];simp only [List.length_map];rw [Zg (n:=(s.land.wells.length:Int) - 1) (by omega) (by omega)];repeat (first | (refine gb ?_;dsimp only [go_sem]) | (refine call (XR _ _ _) ?_;dsimp only [go_sem]))
 simp only [List.length_map];refine br ?_ ?_
 . intro h3;dsimp only [go_sem]
   (simp only [ZB,UH,Option.some.injEq,SV.v.injEq,Value.bool.injEq]<;>grind)
 intro h3;dsimp only [go_sem];have hO:ZB s=s.scenes.all (Yz s.land.wells.length):=by simp only [ZB,UH];grind
 rw [hO];refine UD [1,3] rfl (λk:Nat=>[(3,I k)]) (λ_=>[]) (λk=>k<=s.scenes.length/\(s.scenes.drop k).all (Yz s.land.wells.length)=s.scenes.all (Yz s.land.wells.length)) (λk=>s.scenes.length - k) 0 ⟨Nat.zero_le _,rfl⟩ ?_ ?_
 . (refine Zj ?_ ?_ ?_ rfl rfl<;>dsimp only [Zi,Zh,Zn,Zl,Ze,Zq,id,go_sem]<;>simp [Zi,Zh,Zn,Zl,Ze,Zq,Za])
 intro k ⟨hk,hi⟩;dsimp only [go_sem];simp only [List.length_map];by_cases hlt:k < s.scenes.length
 . refine Zr (by simpa using hlt) ?_;dsimp only [go_sem];have hx:=hs.each _ (List.getElem_mem hlt);refine Zp k hlt rfl ?_;dsimp only [Zl,go_sem];rw [ZaF _ hlt] at hi;repeat (first | (refine gb ?_;dsimp only [go_sem]) | (refine call (V9 s.scenes[k].heat _ _) ?_;dsimp only [go_sem]) | (refine call (V9 s.scenes[k].grass _ _) ?_;dsimp only [go_sem]))
   simp only [List.length_map];refine br ?_ ?_
   . intro hb;dsimp only [go_sem];rw [<- hi,okX2 _ _ hb];rfl
   intro hb;dsimp only [go_sem];obtain ⟨hy,hx1,hx2⟩:=okX3 _ _ hb;rw [hy] at hi;refine UD [1,3,4,5] rfl (λj:Nat=>[(5,I j)]) (λ_=>[]) (λj=>j<=s.scenes[k].yields.length/\((s.scenes[k].yields.drop j).all (ZX 0 10000000) && (s.scenes[k].prices.drop j).all (inR 0 1000000))=(s.scenes[k].yields.all (ZX 0 10000000) && s.scenes[k].prices.all (inR 0 1000000))) (λj=>s.scenes[k].yields.length - j) 0 ⟨Nat.zero_le _,rfl⟩ ?_ ?_
   . (refine Zj ?_ ?_ ?_ rfl rfl<;>dsimp only [Zi,Zh,Zn,Zl,Ze,Zq,id,go_sem]<;>simp [Zi,Zh,Zn,Zl,Ze,Zq,Za])
   intro j ⟨hj,hij⟩;dsimp only [go_sem];simp only [List.length_map];by_cases hlj:j < s.scenes[k].yields.length
   . refine Zr (by simpa using hlj) ?_;dsimp only [go_sem];refine Zp j hlj rfl ?_;dsimp only [Ze,go_sem];refine call (V9 s.scenes[k].yields[j] _ _) ?_;dsimp only [go_sem];have hlp:j < s.scenes[k].prices.length:=by omega
     rw [ZaF _ hlj,ZaF _ hlp] at hij;repeat (first | (refine gb ?_;dsimp only [go_sem]) | (refine Zp j hlp rfl ?_;dsimp only [Zq,go_sem]) | (refine Ztd j hlp rfl ?_;dsimp only [Zq,go_sem]) | (refine call (XR _ _ _) ?_;dsimp only [go_sem]))
     refine br ?_ ?_
     . intro hc;dsimp only [go_sem];rw [<- hi,<- hij];cases h1:ZX 0 10000000 s.scenes[k].yields[j]<;>cases h2:inR 0 1000000 s.scenes[k].prices[j]<;>simp [h1,h2] at hc ⊢
     intro hc;dsimp only [go_sem];rw [Zg (n:=(j:Int)+1) (by omega) (by omega)];simp only [Bool.or_eq_false_iff,Bool.not_eq_false'] at hc;rw [hc.1,hc.2,Bool.true_and,Bool.true_and] at hij;refine ⟨j+1,⟨hlj,hij⟩,by omega,?_⟩;(refine Zj ?_ ?_ ?_ rfl rfl<;>dsimp only [Zi,Zh,Zn,Zl,Ze,Zq,id,go_sem]<;>simp [Zi,Zh,Zn,Zl,Ze,Zq,Za])
   refine Zo (by simp;omega) ?_;dsimp only [go_sem];rw [List.drop_eq_nil_of_le (by omega),List.drop_eq_nil_of_le (by omega)] at hij;rw [<- hij] at hi;rw [Zg (n:=(k:Int)+1) (by omega) (by omega)];refine ⟨k+1,⟨hlt,by simpa using hi⟩,by omega,?_⟩;(refine Zj ?_ ?_ ?_ rfl rfl<;>dsimp only [Zi,Zh,Zn,Zl,Ze,Zq,id,go_sem]<;>simp [Zi,Zh,Zn,Zl,Ze,Zq,Za])
 refine Zo (by simp;omega) ?_;dsimp only [go_sem];rw [<- hi,List.drop_eq_nil_of_le (by omega)];rfl
end Go.Proofs.YtongccnhomncnaaGreat
namespace Go.Azalai
open Go.Sx
def Vy (l:Land) (p:Span) (to till:Int):Nat->List Int->Int->Int->List (List Nat)
 | 0,_,_,_=>[]
 | f+1,been,v,t =>
  if t > till then []
  else if v=to then [[]]
  else (List.range l.legs.length).flatMap λi=>match l.legs[i]? with
   | none=>[]
   | some x=>if Zk x v < 0\/Zk x v ∈ v :: been then [] else (Vy l p to till f (v :: been) (Zk x v) (Z0 true x p t)).map (i :: ·)
def Wl (l:Land) (p:Span) (to till:Int) (f:Nat) (been:List Int) (v t:Int) (i:Nat):List (List Nat) :=
 match l.legs[i]? with
 | none=>[]
 | some x=>if Zk x v < 0\/Zk x v ∈ v :: been then [] else (Vy l p to till f (v :: been) (Zk x v) (Z0 true x p t)).map (i :: ·)
def YP (l:Land) (p:Span) (to till:Int) (f:Nat) (been:List Int) (v t:Int) (j:Nat):List (List Nat):=(List.range j).flatMap (Wl l p to till f been v t)
theorem Zms {l:Land} {p:Span} {to till:Int} {f:Nat} {been:List Int} {v t:Int}:YP l p to till f been v t 0=[]:=rfl
theorem Y5 {l:Land} {p:Span} {to till:Int} {f:Nat} {been:List Int} {v t:Int} {j:Nat}:YP l p to till f been v t (j+1)=YP l p to till f been v t j ++ Wl l p to till f been v t j:=by
 simp [YP,List.range_succ]
theorem XU {l:Land} {p:Span} {to till:Int} {f:Nat} {been:List Int} {v t:Int}:Vy l p to till (f+1) been v t=if t > till then [] else if v=to then [[]] else YP l p to till f been v t l.legs.length:=rfl
theorem Zij {l:Land} {p:Span} {to till:Int} {f:Nat} {been:List Int} {v t:Int} (h:t > till):Vy l p to till f been v t=[]:=by
 cases f with
 | zero=>rfl
 | succ f=>rw [XU,if_pos h]
def cap (L:List (List Nat)):List (List Nat):=L.take 201
theorem Zmi {A B:List (List Nat)} (h:A.length > 200):cap (A ++ B)=cap A:=by
 unfold cap;rw [List.take_append_of_le_length (by omega)]
theorem ZcN {A:List (List Nat)} (h:A.length<=201):cap A=A:=List.take_of_length_le h
def Znb (l:Land) (f:Nat) (been:List Int):Prop:=been.Nodup/\(∀ v ∈ been,0<=v/\v < l.wells.length)/\f+been.length=l.wells.length+1
theorem ZeI {n:Nat}:∀ {been:List Int},been.Nodup->(∀ v ∈ been,0<=v/\v < n)->been.length<=n:=by
 intro been hn hb;have h1:(been.map Int.toNat).Nodup:=by
  rw [List.Nodup,List.pairwise_map];refine List.Pairwise.imp_of_mem (λ{a b} ha hb' hab=>?_) hn;have:=hb a ha;have:=hb b hb';omega
 have h2:∀ x ∈ been.map Int.toNat,x ∈ List.range n:=λx hx=>by
  obtain ⟨v,hv,rfl⟩:=List.mem_map.1 hx;have:=hb v hv;simp only [List.mem_range];omega
 have:=List.Nodup.length_le_of_subset h1 h2;simpa using this
theorem Znb.pos {l:Land} {f:Nat} {been:List Int} {v:Int} (h:Znb l f been) (hv:v ∉ been) (hi:0<=v/\v < l.wells.length):∃ g,f=g+1/\Znb l g (v :: been):=by
 obtain ⟨h1,h2,h3⟩:=h;have hn:(v :: been).Nodup:=List.nodup_cons.2 ⟨hv,h1⟩;have hb:∀ u ∈ v :: been,0<=u/\u < l.wells.length:=λu hu=>by
  rcases List.mem_cons.1 hu with rfl | hu
  . exact hi
  . exact h2 u hu
 have:=ZeI hn hb;simp only [List.length_cons] at this;exact ⟨f - 1,by omega,hn,hb,by simp only [List.length_cons];omega⟩
theorem Znb.start {l:Land}:Znb l (l.wells.length+1) []:=⟨List.nodup_nil,λv h=>(by cases h),by simp⟩
def Zdw (l:Land) (p:Span) (s to day till:Int):Int :=
 if ZaN l p≠0 then ZaN l p
 else if (inR 0 (l.wells.length - 1) s && inR 0 (l.wells.length - 1) to && inR 0 100000 day && inR 0 100000 till)=false then 2
 else if (Vy l p to till (l.wells.length+1) [] s day).length > 200 then 9 else 0
def U6 (l:Land) (p:Span) (s to day till:Int):List (List Nat):=Vy l p to till (l.wells.length+1) [] s day
end Go.Azalai
namespace Go.Proofs.YtongccnhomncnaaGreat
open Go Go.Sx Go.Azalai
def YR (n:Nat):List SV:=[I (n:Int)]
def YC (a:List Nat):SV:=.sl false 1 (a.map YR)
theorem Ztz (a:Int):Ct Tryz.prog 140 [I a] (B false):=by
 refine t140.1 (by simp [KFR]) (by simp) ?_;dsimp only [c140,r140,go_sem];simp
def Zm7 (a b:Int):Int:=if a < b then -1 else if a > b then 1 else 0
theorem ZtF (a b:Int):Ct Tryz.prog 103 [I a,I b] (I (Zm7 a b)):=by
 refine t103.1 (by simp [KFR]) (by simp) ?_;dsimp only [c103,r103,go_sem];refine call (Ztz a) ?_;dsimp only [go_sem];refine call (Ztz b) ?_;dsimp only [go_sem];refine Zo rfl ?_;dsimp only [go_sem];refine Zo rfl ?_;dsimp only [go_sem];by_cases h:a < b
 . refine Zr (by simpa using h) ?_;dsimp only [go_sem];simp [Zm7,h]
 refine Zo (by simpa using h) ?_;dsimp only [go_sem];by_cases h':a > b
 . refine Zr (by simpa using h') ?_;dsimp only [go_sem];simp only [Zm7,if_neg h,if_pos h']
 refine Zo (by simpa using h') ?_;dsimp only [go_sem];simp only [Zm7,if_neg h,if_neg h']
def Zau:List Nat->List Nat->Int
 | [],[]=>0
 | [],_ :: _=>-1
 | _ :: _,[]=>1
 | x :: a,y :: b=>if x < y then -1 else if x > y then 1 else Zau a b
theorem ZgK:∀ {a b:List Nat},decide (Zau a b < 0)=Vj a b
 | [],[]=>rfl
 | [],_ :: _=>rfl
 | _ :: _,[]=>rfl
 | x :: a,y :: b=>by
  have ih:=ZgK (a:=a) (b:=b);have e:Zau (x :: a) (y :: b)=if x < y then -1 else if x > y then 1 else Zau a b:=rfl
  generalize Zau (x :: a) (y :: b)=c at e;subst e;simp only [Vj];by_cases h:x < y
  . simp [h]
  . by_cases h':x > y
    . have:(x == y)=false:=by simp;omega
      rw [this];simp [h,h']
    . have:(x == y)=true:=by simp;omega
      rw [this];simp [h,h',<- ih]
theorem Zif (a b:List Nat) (ha:a.length<=1000000) (hb:b.length<=1000000):Ct Tryz.prog 64 [YC a,YC b] (I (Zau a b)):=by
 refine t64.1 (by simp [Za,YC,YR]) (by simp) ?_;dsimp only [c64,r64,YC,go_sem];simp only [List.length_map];refine YF (λj:Nat=>[(11,I j)]) (λ_=>[]) (λj=>j<=a.length/\Zau (a.drop j) (b.drop j)=Zau a b/\j<=b.length) (λj=>a.length - j) 0 ⟨Nat.zero_le _,rfl,Nat.zero_le _⟩ ?_ ?_
 . (refine Zj ?_ ?_ ?_ rfl rfl<;>dsimp only [YR,id,go_sem]<;>simp [YR,Za])
 rintro j ⟨hj,hi,hjb⟩;dsimp only [go_sem];by_cases hlt:j < a.length
 . refine Zr (by simpa using hlt) ?_;dsimp only [go_sem];refine Zp j hlt rfl ?_;dsimp only [YR,go_sem];simp only [List.length_map];rw [List.drop_eq_getElem_cons hlt] at hi;by_cases hb:j < b.length
   . refine Zo (by simpa using hb) ?_;dsimp only [go_sem];refine Zp j hb rfl ?_;dsimp only [YR,go_sem];refine call (ZtF _ _) ?_;dsimp only [go_sem];rw [List.drop_eq_getElem_cons hb] at hi;simp only [Zau] at hi;by_cases h:a[j] < b[j]
     . rw [if_pos h] at hi;have e:Zm7 (a[j]:Int) (b[j]:Int) = -1:=by simp only [Zm7];rw [if_pos (by omega)]
       rw [e];refine Zr rfl ?_;dsimp only [go_sem];rw [<- hi]
     rw [if_neg h] at hi;by_cases h':a[j] > b[j]
     . rw [if_pos h'] at hi;have e:Zm7 (a[j]:Int) (b[j]:Int)=1:=by simp only [Zm7];rw [if_neg (by omega),if_pos (by omega)]
       rw [e];refine Zr rfl ?_;dsimp only [go_sem];rw [<- hi]
     rw [if_neg h'] at hi;have e:Zm7 (a[j]:Int) (b[j]:Int)=0:=by simp only [Zm7];rw [if_neg (by omega),if_neg (by omega)]
     rw [e];refine Zo rfl ?_;dsimp only [go_sem];rw [Zg (n:=(j:Int)+1) (by omega) (by omega)];refine ⟨j+1,⟨hlt,hi,hb⟩,by omega,?_⟩;(refine Zj ?_ ?_ ?_ rfl rfl<;>dsimp only [YR,id,go_sem]<;>simp [YR,Za])
   . refine Zr (by simp;omega) ?_;dsimp only [go_sem];rw [List.drop_of_length_le (l:=b) (i:=j) (by omega)] at hi;simp only [Zau] at hi;rw [<- hi]
 refine Zo (by simp;omega) ?_;dsimp only [go_sem];simp only [List.length_map];rw [List.drop_of_length_le (by omega)] at hi;have hje:j=a.length:=by omega
 subst hje;by_cases hb:a.length < b.length
 . refine Zr (by simpa using hb) ?_;dsimp only [go_sem];rw [List.drop_eq_getElem_cons hb] at hi;simp only [Zau] at hi;rw [<- hi]
 . refine Zo (by simpa using hb) ?_;dsimp only [go_sem];rw [List.drop_of_length_le (by omega)] at hi;simp only [Zau] at hi;rw [<- hi]
theorem u78 {args:List SV} {res:SV} (ka:KFL args) (kr:KF res) (h:sx Tryz.prog Y0 0 c59 (st0 args 8) (Zz0 r59 res)) (hA:Nat.ble args.length 8=true:=by rfl):Ct Tryz.prog 59 args res:=Zd4 Tryz.func59 rfl b59 ZBl Zzf n59 (Nat.le_of_ble_eq_true hA) ka kr h
theorem Zen (a:List Nat) (ha:a.length<=1000000):Ct Tryz.prog 59 [YC a] (YC a):=by
 refine u78 (by simp [Za,YC,YR]) (by simp [Za,YC,YR]) ?_;dsimp only [c59,r59,YC,go_sem];intro b hb;dsimp only [go_sem];refine br ?_ ?_
 . intro h;have:=hb h;dsimp only [go_sem];rw [List.map_eq_nil_iff.1 this];exact ⟨_,rfl,Xd⟩
 . intro h;dsimp only [go_sem];refine ZBX (by simp;omega) ?_;dsimp only [go_sem];exact ⟨_,rfl,Zcy.rfl⟩
theorem ZxF (a:List Nat) (ha:a.length<=1000000):Ct Tryz.prog 99 [YC a] (.sl true 1 (a.map YR)):=by
 refine t99.1 (by simp [Za,YC,YR]) (by simp [Za,YC,YR]) ?_;dsimp only [c99,r99,YC,go_sem];refine ⟨Zx.2 λ_=>⟨rfl,rfl⟩,?_⟩;dsimp only [go_sem]
theorem ZmH (a:List Nat) (i:Nat) (ha:a.length<=1000000):Ct Tryz.prog 62 [YC a,I i] (YC (a ++ [i])):=by
 refine t62.1 (by simp [Za,YC,YR]) (by simp [KFL,KF,YC,Za,YR,Zd,KFR]) ?_;dsimp only [c62,r62,go_sem];refine call (Zen a ha) ?_;dsimp only [go_sem];refine call (ZxF a ha) ?_;dsimp only [go_sem];refine ZBX (by simp;omega) ?_;dsimp only [YC,go_sem];simp [YR]
theorem Yh {K V:Type} {key:K->Value} {val:V->SV}:mpS key val ([]:List (Nat × K × V))=[]:=rfl
def c58:FB:=(.seq (.gh (.reg [
 o1 8 (.box (.t 0) 0 135),
 o1 9 (.box (.t 1) 0 35),
 o1 10 (.alloc [.bool false] 4)]))
 (.seq (.seq (.reg [
 o1 13 (.addo (.t 8) 1),
 o1 14 (.ld (.t 13) 1 false),
 o1 15 (.ld (.t 2) 1 false),
 o1 16 (.bin .gtr (.t 14) (.t 15))])
 (.cond (.t 16)
 (.seq (.reg [
  ⟨none,.st (.t 10) (.c (.bool true)) 1,none,[]⟩])
  .ret)
 .skip))
 (.seq (.seq (.reg [
 o1 17 (.addo (.t 8) 0),
 o1 18 (.ld (.t 17) 1 false),
 o1 19 (.ld (.t 3) 1 false),
 o1 20 (.bin .eql (.t 18) (.t 19))])
 (.cond (.t 20)
 (.seq (.regd [0,1,2,3,4,5] [
  .op (o1 21 (.ld (.t 4) 1 false)),
  .op (o1 22 (.ld (.t 9) 1 false)),
  .op ⟨some 23,.call 59 [.t 22],none,[1]⟩,
  .op ⟨some 24,.bsl 1 35 [.t 23],none,[2]⟩] 0 2 [
  ⟨some 25,.appm 1 24 35 (.t 21) (.t 24),none,[0,2,3]⟩,
  ⟨none,.st (.t 4) (.t 25) 1,none,[0,1,2,3,4]⟩])
  (.seq (.reg [
  o1 26 (.ld (.t 4) 1 false),
  o1 27 (.len (.t 26)),
  o1 28 (.bin .leq (.t 27) (.c (.int .i64 200))),
  ⟨none,.st (.t 10) (.t 28) 1,none,[]⟩])
  .ret))
 .skip))
 (.seq (.reg [
 o1 29 (.ld (.t 5) 1 false),
 o1 30 (.addo (.t 8) 0),
 o1 31 (.ld (.t 30) 1 false),
 ⟨none,.raw (Go.Op.mapUpdate 116 (Go.Operand.tmp 29) (Go.Operand.tmp 31) (Go.Operand.const (Go.Value.bool Bool.true))) 0,none,[]⟩])
 (.dfr [
 o1 32 (.ld (.t 5) 1 false),
 o1 33 (.addo (.t 8) 0),
 o1 34 (.ld (.t 33) 1 false)] (.t 32) (.t 34) 116
 (.tail (.seq (.seq (.reg [
 o1 35 (.ld (.t 6) 4 true),
 o1 36 (.addo (.t 8) 0),
 o1 37 (.ld (.t 36) 1 false),
 o1 38 (.callm 60 [.t 35,.t 37])])
 (.block 0 (.gh (.rfun (.t 38) [39,40] (.seq (.reg [
  m1 11 39])
  (.reg [
  m1 12 40]))
  (.block 1 (.seq (.regs [0,1,2,3,4,5,6,7,8,9,10,11,12,13,14,15,16,17,18,19,20,21,22] ⟨[
   .op (o1 41 (.ld (.t 5) 1 false)),
   .op (m1 42 12)],0,0,[
   ⟨some 43,.raw (Go.Op.lookup 116 (Go.Operand.tmp 41) (Go.Operand.tmp 42) Bool.false) 4,none,[0,1]⟩]⟩ [⟨[
   .op ⟨some 44,.un .not (.t 43),none,[2]⟩,
   .op ⟨some 45,.mv (.t 44),none,[3]⟩,
   .op ⟨some 46,.ld (.t 7) 1 false,some (45,true),[4]⟩,
   .op ⟨some 47,.mv (.t 12),some (45,true),[4]⟩,
   .op ⟨some 48,.ld (.t 6) 4 true,some (45,true),[4]⟩,
   .op ⟨some 49,.mv (.t 11),some (45,true),[4]⟩,
   .op ⟨some 50,.addo (.t 8) 1,some (45,true),[4]⟩,
   .op ⟨some 51,.ld (.t 50) 1 false,some (45,true),[4,9]⟩,
   .op ⟨some 52,.addo (.t 8) 1,some (45,true),[4]⟩,
   .op ⟨some 53,.ld (.t 52) 1 false,some (45,true),[4,11]⟩,
   .op ⟨some 54,.build zv0 [(0,1,.t 51),(1,1,.t 53)],some (45,true),[4,10,12]⟩,
   .op ⟨some 55,.call 61 [.t 48,.t 49,.t 54],some (45,true),[4,7,8,13]⟩,
   .op ⟨some 56,.idx (.t 55) (.c (.int .i64 1)) 2 1 false,some (45,true),[4,14]⟩,
   .op ⟨some 57,.build zv0 [(0,1,.t 47),(1,1,.t 56)],some (45,true),[4,6,15]⟩,
   .op ⟨some 58,.ld (.t 9) 1 false,some (45,true),[4]⟩,
   .op ⟨some 59,.mv (.t 11),some (45,true),[4]⟩,
   .op ⟨some 60,.call 62 [.t 58,.t 59],some (45,true),[4,14,17,18]⟩],0,0,[
   ⟨some 61,.calvm (.t 46) [.t 57,.t 60],some (45,true),[4,5,16,19]⟩,
   ⟨some 62,.un .not (.t 61),some (45,true),[4,20]⟩,
   ⟨some 63,.pick (.t 45) (.t 62) (.c (.bool false)),none,[4,21]⟩]⟩])
   (.cond (.t 63)
   (.seq (.reg [
    ⟨none,.st (.t 10) (.c (.bool false)) 1,none,[]⟩])
    .ret)
   .skip)))))))
 (.seq (.reg [
 ⟨none,.st (.t 10) (.c (.bool true)) 1,none,[]⟩])
 .ret))))))))
def r58:List RV:=[.cell 10 1 false]
theorem n58:Tryz.f58.ntmps=64:=by kernel_rfl
theorem b58:Yn Tryz.prog 58=true:=by kernel_rfl
theorem ZAh:Zaz Tryz.prog c58 ((Tryz.f58.body).getD .skip)=true:=by kernel_rfl
theorem ZzZ:XV Tryz.prog r58 Tryz.f58.results.toList=true:=by kernel_rfl
theorem m58 {n0:Nat} {hp0:List (Nat × HB)} {args:List SV} {ZO:Ot->Prop} (hh:hpb n0 hp0) (hx:∀ o,ZO o->KX o.res/\KXP o.hp) (h:fx Tryz.prog n0 c58 ⟨Xx 0 args,hp0,n0,64,[]⟩ (Uk r58 λo=>∃ o',ZO o'/\Zbs n0 o o')) (hA:Nat.ble args.length 64=true:=by rfl):CtM Tryz.prog 58 hp0 n0 args ZO:=Zcq Tryz.func58 rfl b58 ZAh ZzZ n58 (Nat.le_of_ble_eq_true hA) hh hx h
def c29:SC:=(sr1 [o1 6 (Jz 0 0 25),o1 8 (Jz 2 0 3),o1 10 (Jz 4 0 3),o1 11 (Jz 5 0 27),o1 12 (.mv (.c (.slice none 0 0))),Jk 13 0] (sr1 [o1 20 (lt 6 2),o1 21 (lt 11 2),o1 22 (J2 56 20 21),m1 19 22,o1 23 (Je 19 0),o1 24 (Je 19 1),o1 14 (.alloc ZoM
 130),Js 14 23 4,m1 15 24] (.seq (.block 0 (sr1 [m1 26 15,o1 27 (Jc .neq 26 0),m1 25 27] (Ji 25 (sr1 [m1 28 15,o1 12 (.mv (.c (.slice none 0 0))),m1 13 28] .ret) (sr1 [o1 30 (ao 6 0),o1 31 (lf 30 1),o1 32 (Jl 31),o1 33 (Jc .sub 32 1),m1 34 1,o1 35 (lf
 8 1),o1 36 (.bsl 1 3 [.t 34,.t 35]),o1 37 (.call 57 [cn 0,.t 33,.t 36]),o1 38 (Jh 37),m1 39 38,g1 40 39 false (.mv (.t 3)),g1 41 39 false (lf 10 1),g1 42 39 false (.bsl 1 3 [.t 40,.t 41]),g1 43 39 false (.call 57 [cn 0,cn 100000,.t 42]),g1 44 39
 false (Jh 43),o1 45 (.pick (.t 39) Jt (.t 44)),m1 29 45] (Ji 29 (sr1 [o1 12 (.mv (.c (.slice none 0 0))),Jk 13 2] .ret) .skip))))) (sr1 [o1 16 (.alloc [.slice none 0 0] 80)] (sr1 [o1 46 (.raw (Go.Op.makeMap 116 Option.none) 116),o1 17 (.alloc [.map
 none] 116),Js 17 46 1] (sr1 [o1 18 (.alloc [.nilFunc] 133)] (sr1 [o1 47 (.mkf 58 [.t 10,.t 8,.t 16,.t 17,.t 14,.t 18]),Js 18 47 1] (.seq (.seq (.gh (.reg [o1 48 (lf 18 1),m1 49 1,m1 50 3,o1 51 (.build zv0 [(0,1,.t 49),(1,1,.t 50)]),o1 52 (.calvm (.t
 48) [.t 51,.c (.slice none 0 0)]),o1 53 (Jh 52)])) (Ji 53 (sr1 [o1 12 (.mv (.c (.slice none 0 0))),Jk 13 9] .ret) .skip)) (sr1 [o1 54 (lf 16 1),m1 12 54,Jk 13 0] .ret)))))))))
def r29:List RV:=[.tmp 12,.tmp 13]
theorem t29:Qt1 Tryz.prog 29 c29 r29 55:=ZH Tryz.func29
end Go.Proofs.YtongccnhomncnaaGreat
namespace Go.Azalai
open Go.Sx
theorem W5 {l:Land} {p:Span} {to till:Int} {f:Nat} {been:List Int} {v t:Int} {j:Nat}:∀ (k:Nat),∃ R,YP l p to till f been v t (j+k)=YP l p to till f been v t j ++ R
 | 0=>⟨[],by simp⟩
 | k+1=>by
  obtain ⟨R,h⟩:=W5 k;exact ⟨R ++ Wl l p to till f been v t (j+k),by rw [<- Nat.add_assoc,Y5,h,List.append_assoc]⟩
theorem Zbo {l:Land} {p:Span} {to till:Int} {f:Nat} {been:List Int} {v t:Int} {j:Nat} {x:Leg} (hx:l.legs[j]? = some x) (h:Zk x v < 0\/Zk x v ∈ v :: been):Wl l p to till f been v t j=[]:=by
 simp only [Wl,hx];rw [if_pos h]
theorem U3 {l:Land} {p:Span} {to till:Int} {f:Nat} {been:List Int} {v t:Int} {j:Nat} {x:Leg} (hx:l.legs[j]? = some x) (h0:¬ Zk x v < 0) (h:Zk x v ∉ v :: been) :
 Wl l p to till f been v t j=(Vy l p to till f (v :: been) (Zk x v) (Z0 true x p t)).map (j :: ·):=by
 simp only [Wl,hx];rw [if_neg (λq=>q.elim h0 h)]
end Go.Azalai
namespace Go.Proofs.YtongccnhomncnaaGreat
open Go Go.Sx Go.Azalai
def XE (w:List Nat):List SV:=[YC w]
def Wq (l:Land) (p:Span) (till to:Int) (all:List (List Nat)) (ver:Nat) (L:List (Nat × Int × Bool)) (clk:Nat):List (Nat × HB) :=
 [(0,.cells [I till] 3),(1,.cells [I to] 3),(2,.cells [.mr 6 ver] 80),(3,.cells [.mp 7] 116),(4,.cells (Yc l p) 130),(5,.cells [.cl 58 [.p 0 0,.p 1 0,.p 2 0,.p 3 0,.p 4 0,.p 5 0]] 133),(6,.row ver 1 (all.map XE) 35),(7,.map (mpS kI B L) clk)]
def lookP (l:Land) (p:Span) (till to:Int) (all:List (List Nat)) (L:List (Nat × Int × Bool)) (W:List (List Nat)):Ot->Prop:=λo =>
 ∃ ver clk,MW L clk/\o=⟨false,B (decide ((all ++ W).length<=200)),Wq l p till to (cap (all ++ W)) ver L clk,8⟩
def ZfQ (been:List Int) (L:List (Nat × Int × Bool)):Prop:=∀ u:Int,XH u L=if u ∈ been then some true else none
theorem Zoj {L:List (Nat × Int × Bool)} {c:Nat} {v:Int} {b:Bool} (h:XH v L=none):UM v (UR c v b L)=L:=by
 rw [ZaE h];have key:∀ (L:List (Nat × Int × Bool)),XH v L=none->UM v (L ++ [(c,v,b)])=L:=by
  intro L
  induction L with
  | nil=>intro _;simp [UM]
  | cons e L ih =>
   intro h;have hne:e.2.1≠v:=XC.1 h e (by simp);have hL:XH v L=none:=XC.2 λx hx=>XC.1 h x (by simp [hx]);have:=ih hL;obtain ⟨e1,e2,e3⟩:=e;simp only at hne;simp only [List.cons_append,UM];rw [this];simp [hne,Ne.symm hne]
 exact key L h
theorem ZtM (l:Land) (p:Span) (hs:WT l) (hok:OkLP l p) (till to:Int):∀ (f:Nat) (been:List Int) (v t:Int) (way:List Nat) (all:List (List Nat)) (ver clk:Nat) (L:List (Nat × Int × Bool)) (s1:SV),Znb l f been->v ∉ been->(0<=v/\v < l.wells.length)->(0<=t/\t<=100001) ->
 way.length+f<=1000->all.length<=200->MW L clk->ZfQ been L->(s1=YC way\/s1 = .v (.slice none 0 0)/\way=[]) ->
 CtM Tryz.prog 58 (Wq l p till to all ver L clk) 8 [.agg [I v,I t],s1,.p 0 0,.p 1 0,.p 2 0,.p 3 0,.p 4 0,.p 5 0] (lookP l p till to all L ((Vy l p to till f been v t).map (way ++ ·))):=by
 intro f
 induction f with
 | zero =>
  intro been v t way all ver clk L s1 hR hv hvi;obtain ⟨g,h,_⟩:=hR.pos hv hvi;omega
 | succ f ih =>
 intro been v t way all ver clk L s1 hR hv hvi ht hlen hall hM hbL hs1;obtain ⟨g,hg,hR'⟩:=hR.pos hv hvi;have hgf:g=f:=by omega
 subst hgf;have hleg:=hs.2.1;refine m58 (by simp [hpb,Wq]) (λo ho=>?_) ?_
 . obtain ⟨ver',clk',_,rfl⟩:=ho;simp [Wq,KX,KXL,KXP,KXH,Za,KFL,KF,Yc,Zh,Zn,Zi,XE,YC,YR,ZF,Zw]
 dsimp only [c58,r58,Wq,go_sem];rcases hs1 with rfl | ⟨rfl,hw0⟩
 refine gh Xu ?_
 rotate_left
 refine gh (Zb3 (s':=.sl false 1 (way.map YR)) 1 rfl (by subst hw0;exact Xd) (λ_ _ _ h=>by cases h)) ?_
 all_goals
  dsimp only [YC,go_sem];refine br ?_ ?_
  . intro hlate;have hlate:t > till:=of_decide_eq_true hlate;dsimp only [go_sem];refine ⟨_,⟨ver,clk,hM,rfl⟩,?_⟩;rw [Zij hlate,List.map_nil,List.append_nil,ZcN (by omega),decide_eq_true hall];(refine ZT ?_ ?_ ?_ rfl<;>dsimp only [Yc,Zh,Zn,Zi,XE,YC,YR,Yh,ZF,Zw,Za,Wq,id,go_sem]<;>simp [Yc,Zh,Zn,Zi,XE,YC,YR,Yh,ZF,Zw,Za,Wq,Za])
  intro hlate;have hlate:¬ t > till:=of_decide_eq_false hlate;dsimp only [go_sem];refine br ?_ ?_
  . intro hto;have hto:v=to:=by simpa using hto
    dsimp only [go_sem];refine call (Zen way (by omega)) ?_;dsimp only [YC,go_sem];simp only [nbr];dsimp only [go_sem];refine ⟨(by intro c hc;simp only [List.mem_singleton] at hc;subst hc;rfl),by simp;omega,?_⟩;dsimp only [go_sem];simp only [nbr];dsimp only [go_sem];have e:all.map XE ++ [[SV.sl false 1 (way.map YR)]]=(all ++ [way]).map XE:=by simp [XE,YC]
    rw [e];refine ⟨_,⟨ver+1,clk,hM,rfl⟩,?_⟩;rw [XU,if_neg hlate,if_pos hto];simp only [List.map_cons,List.map_nil,List.append_nil,List.length_map];rw [ZcN (by simp;omega)];have hd:decide (((all ++ [way]).length:Int)<=200)=decide ((all ++ [way]).length<=200):=by simp;omega
    rw [hd];(refine ZT ?_ ?_ ?_ rfl<;>dsimp only [Yc,Zh,Zn,Zi,XE,YC,YR,Yh,ZF,Zw,Za,Wq,id,go_sem]<;>simp [Yc,Zh,Zn,Zi,XE,YC,YR,Yh,ZF,Zw,Za,Wq,Za])
  intro hto;have hto:¬ v=to:=by simpa using hto
  dsimp only [go_sem];refine ZcV (ins:=false) (key:=kI) (val:=B) (L:=L) (k:=v) (v:=true) rfl rfl Zia Zhp rfl rfl (by simp) ?_;dsimp only [go_sem];refine ⟨rfl,?_⟩;have hvL:XH v L=none:=by rw [hbL,if_neg hv]
  have hM1:=hM.set (k:=v) true;have hL1:ZfQ (v :: been) (UR clk v true L):=λu=>by
   rw [ZaP];by_cases hu:u=v
   . simp [hu]
   . rw [if_neg hu,hbL];simp [hu]
  have hdel:=Zoj (L:=L) (c:=clk) (b:=true) hvL;generalize UR clk v true L=L1 at hM1 hL1 hdel ⊢;generalize Zcn clk v L=clk1 at hM1 ⊢;refine Zan [] (Zc9 l p v) rfl rfl rfl ?_ ?_ ?_
  . exact Zc (by simp [Yc,Zh,Zn,Zi,Za])
  . trivial
  dsimp only [Zcv,Yc,go_sem];refine gh Xu ?_;dsimp only [go_sem];refine ⟨b95,λrec=>?_⟩;refine y95 ?_;dsimp only [c95,r95,go_sem];refine YF (λq:Nat × List (List Nat) × Nat × Nat=>[(10,I q.1)]) (λq=>[(2,.cells [.mr 6 q.2.2.1] 80),(6,.row q.2.2.1 1 (q.2.1.map XE) 35),(7,.map (mpS kI B L1) q.2.2.2)])
   (λq=>q.1<=l.legs.length/\MW L1 q.2.2.2/\q.2.1=all ++ (YP l p to till g been v t q.1).map (way ++ ·)/\q.2.1.length<=200) (λq=>l.legs.length - q.1) (0,all,ver,clk1) ⟨Nat.zero_le _,hM1,by simp [Zms],hall⟩ ?_ ?_
  . (refine Zj ?_ ?_ ?_ rfl rfl<;>dsimp only [Yc,Zh,Zn,Zi,XE,YC,YR,Yh,ZF,Zw,Za,id,go_sem]<;>simp [Yc,Zh,Zn,Zi,XE,YC,YR,Yh,ZF,Zw,Za,Za])
  rintro ⟨j,allj,ver,clk⟩ ⟨hj,hMj,hallj,hlenj⟩;simp only at hj hMj hallj hlenj;dsimp only [go_sem];simp only [List.length_map];by_cases hlt:j < l.legs.length
  . refine Zr (by simpa using hlt) ?_;dsimp only [go_sem];refine Zp j hlt rfl ?_;dsimp only [Zn,go_sem];have hgl:GoodLeg l.legs[j]:=WB hok.land _ (List.getElem_mem _);have hends:=hok.ends (List.getElem_mem hlt);have hxj:l.legs[j]? = some l.legs[j]:=List.getElem?_eq_getElem hlt;have hin:inR 0 100001 t=true:=by simp only [inR,decide_eq_true_eq];omega
    have hab:=X1 (k:=true) (t:=t) hgl hok.pace (by omega);by_cases hca:v=l.legs[j].a
    . refine Zr (by simpa using hca) ?_;have hoth:Zk l.legs[j] v=l.legs[j].b:=by rw [Zk,if_pos hca.symm]
      dsimp only [go_sem];refine ⟨rfl,rfl,?_⟩;refine Zfb (key:=kI) (sv:=sI) (val:=B) (L:=L1) (k:=l.legs[j].b) (z:=.bool false) (zs:=B false) rfl rfl Zia Zhp rfl (by kernel_rfl) (λw E n ok=>by simp only [R]) ?_ ?_
      . intro b hget;have hb:b=true/\Zk l.legs[j] v ∈ v :: been:=by
         have h:=hL1 l.legs[j].b;rw [hget] at h;rw [hoth];split at h
         . rename_i hm;exact ⟨Option.some.inj h,hm⟩
         . cases h
        obtain ⟨rfl,hmem⟩:=hb;dsimp only [Bool.not_true,go_sem];repeat (refine YW (by decide) ?_;dsimp only [go_sem])
        refine Zo (by decide) ?_;dsimp only [go_sem];refine ⟨rfl,?_⟩;refine Zo (by decide) ?_;dsimp only [go_sem];rw [Zg (n:=(j:Int)+1) (by omega) (by omega)];refine ⟨(j+1,allj,ver,clk),⟨hlt,hMj,by rw [Y5,Zbo hxj (.inr hmem),List.append_nil];exact hallj,hlenj⟩,by simp only;omega,?_⟩;(refine Zj ?_ ?_ ?_ rfl rfl<;>dsimp only [Yc,Zh,Zn,Zi,XE,YC,YR,Yh,ZF,Zw,Za,id,go_sem]<;>simp [Yc,Zh,Zn,Zi,XE,YC,YR,Yh,ZF,Zw,Za,Za])
      intro hget;have hnb:Zk l.legs[j] v ∉ v :: been:=λhm=>by
       have h:=hL1 l.legs[j].b;rw [hoth] at hm;rw [hget,if_pos hm] at h;cases h
      have hn0:¬ Zk l.legs[j] v < 0:=by rw [hoth];omega
      dsimp only [Bool.not_false,go_sem];iterate 10 (refine ZR rfl ?_;dsimp only [go_sem])
      refine call (Vp l p j hlt t t hgl hok.pace hin hin) ?_;dsimp only [go_sem];refine ZR rfl ?_;dsimp only [go_sem];refine ixa 1 rfl (by decide) ?_;dsimp only [go_sem];iterate 4 (refine ZR rfl ?_;dsimp only [go_sem])
      refine call (ZmH way j (by omega)) ?_;dsimp only [YC,go_sem];refine ZR rfl ?_;dsimp only [go_sem];have hot:=Yb hok hxj hn0;have hih:=ih (v :: been) (Zk l.legs[j] v) (Z0 true l.legs[j] p t) (way ++ [j]) allj ver clk L1 (YC (way ++ [j])) hR' hnb hot.1 (by omega) (by simp;omega) hlenj hMj hL1 (.inl rfl);have hWj:(Vy l p to till g (v :: been) (Zk l.legs[j] v) (Z0 true l.legs[j] p t)).map (way ++ [j] ++ ·)=(Wl l p to till g been v t j).map (way ++ ·):=by
       rw [U3 hxj hn0 hnb,List.map_map];simp [Function.comp_def]
      rw [hWj,hoth] at hih;refine Yd [0,1,2,3,4,5,6,7] hih rfl rfl ?_ ?_ ?_ ?_
      . rfl
      . dsimp only [rho,YC,go_sem];simp [Za,Zd,KFR,KFL,KF,Zc,mtO,nbr,Yc,Zh,Zn,Zi,XE,YC,YR,ZF,Zw]
      . dsimp only [rho,Wq,Yc,go_sem];simp [Za,Zd,KFR,KFL,KF,Zc,mtO,nbr,Yc,Zh,Zn,Zi,XE,YC,YR,ZF,Zw]
      rintro o ⟨ver',clk',hM',rfl⟩;dsimp only [Wq,Yc,go_sem];refine ZR rfl ?_;dsimp only [Bool.not_false,go_sem];have hnext:all ++ (YP l p to till g been v t (j+1)).map (way ++ ·)=allj ++ (Wl l p to till g been v t j).map (way ++ ·):=by
       rw [Y5,List.map_append,<- List.append_assoc,<- hallj]
      generalize hWW:(Wl l p to till g been v t j).map (way ++ ·)=Wj at hnext ⊢;by_cases hsm:(allj ++ Wj).length<=200
      . refine Zo (by simp only [hsm,decide_true];rfl) ?_;dsimp only [go_sem];refine ⟨rfl,?_⟩;refine Zo (by decide) ?_;dsimp only [go_sem];rw [Zg (n:=(j:Int)+1) (by omega) (by omega),ZcN (by omega)];rw [<- hnext] at hsm ⊢;refine ⟨(j+1,_,ver',clk'),⟨hlt,hM',rfl,hsm⟩,by simp only;omega,?_⟩;generalize all ++ (YP l p to till g been v t (j+1)).map (way ++ ·)=alln;(refine Zj ?_ ?_ ?_ rfl rfl<;>dsimp only [Yc,Zh,Zn,Zi,XE,YC,YR,Yh,ZF,Zw,Za,id,go_sem]<;>simp [Yc,Zh,Zn,Zi,XE,YC,YR,Yh,ZF,Zw,Za,Za])
      . refine Zr (by simp only [hsm,decide_false];rfl) ?_;dsimp only [go_sem];refine ⟨rfl,?_⟩;refine Zr rfl ?_;dsimp only [go_sem];have hWs:Vy l p to till (g+1) been v t=YP l p to till g been v t l.legs.length:=by rw [XU,if_neg hlate,if_neg hto]
        obtain ⟨R,hRs⟩:=W5 (l:=l) (p:=p) (to:=to) (till:=till) (f:=g) (been:=been) (v:=v) (t:=t) (j:=j+1) (l.legs.length - (j+1));rw [show j+1+(l.legs.length - (j+1))=l.legs.length by omega] at hRs;have hall2:all ++ (Vy l p to till (g+1) been v t).map (way ++ ·)=allj ++ Wj ++ R.map (way ++ ·):=by
         rw [hWs,hRs,List.map_append,<- List.append_assoc,hnext]
        have hlong:¬ (allj ++ Wj ++ R.map (way ++ ·)).length<=200:=by rw [List.length_append];omega
        refine ⟨_,delR (key:=kI) (val:=B) (sv:=sI) (L:=L1) (k:=v) Zia Zhp,?_⟩;rw [hdel];have hMf:MW L clk':=by have:=hM'.del (k:=v);rw [hdel] at this;exact this
        refine ⟨_,⟨ver',clk',hMf,rfl⟩,?_⟩;have hc2:cap (allj ++ Wj ++ R.map (way ++ ·))=cap (allj ++ Wj):=Zmi (by omega);rw [hall2,hc2,decide_eq_false hlong];generalize cap (allj ++ Wj)=alln;(refine ZT ?_ ?_ ?_ rfl<;>dsimp only [Yc,Zh,Zn,Zi,XE,YC,YR,Yh,ZF,Zw,Za,Wq,id,go_sem]<;>simp [Yc,Zh,Zn,Zi,XE,YC,YR,Yh,ZF,Zw,Za,Wq,Za])
    refine Zo (by simpa using hca) ?_;dsimp only [go_sem];by_cases hcb:v=l.legs[j].b
    . refine Zr (by simpa using hcb) ?_;have hoth:Zk l.legs[j] v=l.legs[j].a:=by rw [Zk,if_neg (λh=>hca h.symm),if_pos hcb.symm]
      dsimp only [go_sem];refine ⟨rfl,rfl,?_⟩;refine Zfb (key:=kI) (sv:=sI) (val:=B) (L:=L1) (k:=l.legs[j].a) (z:=.bool false) (zs:=B false) rfl rfl Zia Zhp rfl (by kernel_rfl) (λw E n ok=>by simp only [R]) ?_ ?_
      . intro b hget;have hb:b=true/\Zk l.legs[j] v ∈ v :: been:=by
         have h:=hL1 l.legs[j].a;rw [hget] at h;rw [hoth];split at h
         . rename_i hm;exact ⟨Option.some.inj h,hm⟩
         . cases h
        obtain ⟨rfl,hmem⟩:=hb;dsimp only [Bool.not_true,go_sem];repeat (refine YW (by decide) ?_;dsimp only [go_sem])
        refine Zo (by decide) ?_;dsimp only [go_sem];refine ⟨rfl,?_⟩;refine Zo (by decide) ?_;dsimp only [go_sem];rw [Zg (n:=(j:Int)+1) (by omega) (by omega)];refine ⟨(j+1,allj,ver,clk),⟨hlt,hMj,by rw [Y5,Zbo hxj (.inr hmem),List.append_nil];exact hallj,hlenj⟩,by simp only;omega,?_⟩;(refine Zj ?_ ?_ ?_ rfl rfl<;>dsimp only [Yc,Zh,Zn,Zi,XE,YC,YR,Yh,ZF,Zw,Za,id,go_sem]<;>simp [Yc,Zh,Zn,Zi,XE,YC,YR,Yh,ZF,Zw,Za,Za])
      intro hget;have hnb:Zk l.legs[j] v ∉ v :: been:=λhm=>by
       have h:=hL1 l.legs[j].a;rw [hoth] at hm;rw [hget,if_pos hm] at h;cases h
      have hn0:¬ Zk l.legs[j] v < 0:=by rw [hoth];omega
      dsimp only [Bool.not_false,go_sem];iterate 10 (refine ZR rfl ?_;dsimp only [go_sem])
      refine call (Vp l p j hlt t t hgl hok.pace hin hin) ?_;dsimp only [go_sem];refine ZR rfl ?_;dsimp only [go_sem];refine ixa 1 rfl (by decide) ?_;dsimp only [go_sem];iterate 4 (refine ZR rfl ?_;dsimp only [go_sem])
      refine call (ZmH way j (by omega)) ?_;dsimp only [YC,go_sem];refine ZR rfl ?_;dsimp only [go_sem];have hot:=Yb hok hxj hn0;have hih:=ih (v :: been) (Zk l.legs[j] v) (Z0 true l.legs[j] p t) (way ++ [j]) allj ver clk L1 (YC (way ++ [j])) hR' hnb hot.1 (by omega) (by simp;omega) hlenj hMj hL1 (.inl rfl);have hWj:(Vy l p to till g (v :: been) (Zk l.legs[j] v) (Z0 true l.legs[j] p t)).map (way ++ [j] ++ ·)=(Wl l p to till g been v t j).map (way ++ ·):=by
       rw [U3 hxj hn0 hnb,List.map_map];simp [Function.comp_def]
      rw [hWj,hoth] at hih;refine Yd [0,1,2,3,4,5,6,7] hih rfl rfl ?_ ?_ ?_ ?_
      . rfl
      . dsimp only [rho,YC,go_sem];simp [Za,Zd,KFR,KFL,KF,Zc,mtO,nbr,Yc,Zh,Zn,Zi,XE,YC,YR,ZF,Zw]
      . dsimp only [rho,Wq,Yc,go_sem];simp [Za,Zd,KFR,KFL,KF,Zc,mtO,nbr,Yc,Zh,Zn,Zi,XE,YC,YR,ZF,Zw]
      rintro o ⟨ver',clk',hM',rfl⟩;dsimp only [Wq,Yc,go_sem];refine ZR rfl ?_;dsimp only [Bool.not_false,go_sem];have hnext:all ++ (YP l p to till g been v t (j+1)).map (way ++ ·)=allj ++ (Wl l p to till g been v t j).map (way ++ ·):=by
       rw [Y5,List.map_append,<- List.append_assoc,<- hallj]
      generalize hWW:(Wl l p to till g been v t j).map (way ++ ·)=Wj at hnext ⊢;by_cases hsm:(allj ++ Wj).length<=200
      . refine Zo (by simp only [hsm,decide_true];rfl) ?_;dsimp only [go_sem];refine ⟨rfl,?_⟩;refine Zo (by decide) ?_;dsimp only [go_sem];rw [Zg (n:=(j:Int)+1) (by omega) (by omega),ZcN (by omega)];rw [<- hnext] at hsm ⊢;refine ⟨(j+1,_,ver',clk'),⟨hlt,hM',rfl,hsm⟩,by simp only;omega,?_⟩;generalize all ++ (YP l p to till g been v t (j+1)).map (way ++ ·)=alln;(refine Zj ?_ ?_ ?_ rfl rfl<;>dsimp only [Yc,Zh,Zn,Zi,XE,YC,YR,Yh,ZF,Zw,Za,id,go_sem]<;>simp [Yc,Zh,Zn,Zi,XE,YC,YR,Yh,ZF,Zw,Za,Za])
      . refine Zr (by simp only [hsm,decide_false];rfl) ?_;dsimp only [go_sem];refine ⟨rfl,?_⟩;refine Zr rfl ?_;dsimp only [go_sem];have hWs:Vy l p to till (g+1) been v t=YP l p to till g been v t l.legs.length:=by rw [XU,if_neg hlate,if_neg hto]
        obtain ⟨R,hRs⟩:=W5 (l:=l) (p:=p) (to:=to) (till:=till) (f:=g) (been:=been) (v:=v) (t:=t) (j:=j+1) (l.legs.length - (j+1));rw [show j+1+(l.legs.length - (j+1))=l.legs.length by omega] at hRs;have hall2:all ++ (Vy l p to till (g+1) been v t).map (way ++ ·)=allj ++ Wj ++ R.map (way ++ ·):=by
         rw [hWs,hRs,List.map_append,<- List.append_assoc,hnext]
        have hlong:¬ (allj ++ Wj ++ R.map (way ++ ·)).length<=200:=by rw [List.length_append];omega
        refine ⟨_,delR (key:=kI) (val:=B) (sv:=sI) (L:=L1) (k:=v) Zia Zhp,?_⟩;rw [hdel];have hMf:MW L clk':=by have:=hM'.del (k:=v);rw [hdel] at this;exact this
        refine ⟨_,⟨ver',clk',hMf,rfl⟩,?_⟩;have hc2:cap (allj ++ Wj ++ R.map (way ++ ·))=cap (allj ++ Wj):=Zmi (by omega);rw [hall2,hc2,decide_eq_false hlong];generalize cap (allj ++ Wj)=alln;(refine ZT ?_ ?_ ?_ rfl<;>dsimp only [Yc,Zh,Zn,Zi,XE,YC,YR,Yh,ZF,Zw,Za,Wq,id,go_sem]<;>simp [Yc,Zh,Zn,Zi,XE,YC,YR,Yh,ZF,Zw,Za,Wq,Za])
    refine Zo (by simpa using hcb) ?_;dsimp only [go_sem];rw [Zg (n:=(j:Int)+1) (by omega) (by omega)];have hoth:Zk l.legs[j] v = -1:=by rw [Zk,if_neg (λh=>hca h.symm),if_neg (λh=>hcb h.symm)]
    refine ⟨(j+1,allj,ver,clk),⟨hlt,hMj,by rw [Y5,Zbo hxj (.inl (by omega)),List.append_nil];exact hallj,hlenj⟩,by simp only;omega,?_⟩;(refine Zj ?_ ?_ ?_ rfl rfl<;>dsimp only [Yc,Zh,Zn,Zi,XE,YC,YR,Yh,ZF,Zw,Za,id,go_sem]<;>simp [Yc,Zh,Zn,Zi,XE,YC,YR,Yh,ZF,Zw,Za,Za])
  refine Zo (by simp;omega) ?_;dsimp only [go_sem];have hje:j=l.legs.length:=by omega
  subst hje;have hWs:Vy l p to till (g+1) been v t=YP l p to till g been v t l.legs.length:=by rw [XU,if_neg hlate,if_neg hto]
  refine ⟨_,delR (key:=kI) (val:=B) (sv:=sI) (L:=L1) (k:=v) Zia Zhp,?_⟩;rw [hdel];have hMf:MW L clk:=by have:=hMj.del (k:=v);rw [hdel] at this;exact this
  refine ⟨_,⟨ver,clk,hMf,rfl⟩,?_⟩;rw [hWs,<- hallj,ZcN (by omega),decide_eq_true hlenj];(refine ZT ?_ ?_ ?_ rfl<;>dsimp only [Yc,Zh,Zn,Zi,XE,YC,YR,Yh,ZF,Zw,Za,Wq,id,go_sem]<;>simp [Yc,Zh,Zn,Zi,XE,YC,YR,Yh,ZF,Zw,Za,Wq,Za])
end Go.Proofs.YtongccnhomncnaaGreat
namespace Go.Azalai
open Go.Sx
def YN (l:Land):Int->List Int->List Int->Option Int
 | v,_,[]=>some v
 | v,been,i :: r=>if Vh l i v < 0 then none else if Vh l i v ∈ been then none else YN l (Vh l i v) (Vh l i v :: been) r
end Go.Azalai
namespace Go.Proofs.YtongccnhomncnaaGreat
open Go Go.Sx Go.Azalai
theorem ZfQ.set {been:List Int} {L:List (Nat × Int × Bool)} {c:Nat} {v:Int} (h:ZfQ been L):ZfQ (v :: been) (UR c v true L):=λu=>by
 rw [ZaP];by_cases hu:u=v
 . simp [hu]
 . rw [if_neg hu,h u];simp [hu]
theorem ZAt:Y1 Tryz.prog 4=some (.bool false):=by kernel_rfl
theorem bz_RS:∀ w E n ok,R w E n ok (B false) (.bool false):=λw E n ok=>by simp only [R]
theorem Zd6 (s:Season) (hs:SmallS s) (hl:Z1 s.land=true) (hp:Z6 s.pace=true) (h0:0<=s.start/\s.start < s.land.wells.length) (legs:List Int) (hg:legs.length<=1000) (c:Bool) :
 Ct Tryz.prog 17 [.agg (Zt s),.sl c 1 (legs.map Zq)] (.tup [I ((YN s.land s.start [s.start] legs).getD 0),B (YN s.land s.start [s.start] legs).isSome]):=by
 have hw:=hs.land.1;have hlg:=hs.land.2.1;have hlp:OkLP s.land s.pace:=⟨hl,hp⟩
 refine t17.1 (by simp [Zt,Zl,Zh,Zn,Zi,Ze,Zq,Za]) (by simp) ?_;dsimp only [c17,r17,Zt,go_sem];refine Za8 rfl rfl rfl ?_;dsimp only [go_sem];refine ZcV (ins:=true) (key:=kI) (val:=B) (L:=[]) (k:=s.start) (v:=true) rfl rfl Zia Zhp rfl rfl (by simp) ?_;dsimp only [go_sem];have hb0:ZfQ [s.start] (UR 0 s.start true []):=λu=>by rw [ZaP];simp [XH]
 refine UD [1,2,6,16,17,18,4,5] rfl (λq:Nat × Int × List Int × List (Nat × Int × Bool) × Nat=>[(18,I q.1),(4,I q.2.1)]) (λq=>[(1,.map (mpS kI B q.2.2.2.1) q.2.2.2.2)])
  (λq=>q.1<=legs.length/\YN s.land q.2.1 q.2.2.1 (legs.drop q.1)=YN s.land s.start [s.start] legs/\ZfQ q.2.2.1 q.2.2.2.1/\MW q.2.2.2.1 q.2.2.2.2/\0<=q.2.1/\q.2.1 < s.land.wells.length)
  (λq=>legs.length - q.1) (0,s.start,[s.start],UR 0 s.start true [],Zcn 0 s.start ([]:List (Nat × Int × Bool))) ⟨Nat.zero_le _,rfl,hb0,MW.nil.set true,h0⟩ ?_ ?_
 . (refine Zj ?_ ?_ ?_ rfl rfl<;>dsimp only [Zi,Zh,Zn,Zl,Ze,Zq,ZF,Zw,id,go_sem]<;>simp [Zi,Zh,Zn,Zl,Ze,Zq,ZF,Zw,Za])
 rintro ⟨k,v,been,L,c⟩ ⟨hk,hi,hb,hM,hv⟩;simp only at hk hi hb hM hv;dsimp only [go_sem];simp only [List.length_map];by_cases hlt:k < legs.length
 case neg =>
  refine Zo (by simp;omega) ?_;dsimp only [go_sem];rw [<- hi,List.drop_eq_nil_of_le (by omega)];rfl
 refine Zr (by simpa using hlt) ?_;dsimp only [go_sem];refine Zp k hlt rfl ?_;dsimp only [Zq,go_sem];simp only [List.length_map];rw [Zg (n:=(s.land.legs.length:Int) - 1) (by omega) (by omega)];refine call (ZkV _ _ _ _) ?_;dsimp only [go_sem];rw [List.drop_eq_getElem_cons hlt,YN] at hi;by_cases hr:inR 0 (s.land.legs.length - 1) legs[k]=true
 case neg =>
  refine Zr (by simpa using hr) ?_;dsimp only [go_sem];simp only [inR,decide_eq_true_eq] at hr;rw [if_pos (by rw [Zfd (by omega)];decide)] at hi;rw [<- hi];rfl
 refine Zo (by simpa using hr) ?_;dsimp only [go_sem];simp only [inR,decide_eq_true_eq] at hr;obtain ⟨n,hn⟩:=Int.eq_ofNat_of_zero_le hr.1;rw [hn] at hr hi ⊢;have hnl:n < s.land.legs.length:=by omega
 refine Zp n hnl rfl ?_;dsimp only [Zn,go_sem];have hends:=hlp.ends (List.getElem_mem hnl);rw [ZbV hnl] at hi;repeat (refine gb ?_;dsimp only [go_sem])
 by_cases hof:v=s.land.legs[n].a\/v=s.land.legs[n].b
 case neg =>
  refine Zr (by simp [bne];omega) ?_;dsimp only [go_sem];rw [if_pos (by unfold Zk;rw [if_neg (by omega),if_neg (by omega)];decide)] at hi;rw [<- hi];rfl
 refine Zo (by simp [bne];omega) ?_;dsimp only [go_sem];have ho:Zk s.land.legs[n] v=s.land.legs[n].a+s.land.legs[n].b - v:=by
  unfold Zk;rcases hof with h | h
  . rw [if_pos h.symm];omega
  . rw [if_neg (by omega),if_pos h.symm];omega
 rw [Zg (n:=s.land.legs[n].a+s.land.legs[n].b) (by omega) (by omega),Zg (n:=s.land.legs[n].a+s.land.legs[n].b - v) (by omega) (by omega)];have hoi:0<=s.land.legs[n].a+s.land.legs[n].b - v/\s.land.legs[n].a+s.land.legs[n].b - v < s.land.wells.length:=by omega
 rw [ho,if_neg (by omega)] at hi;generalize s.land.legs[n].a+s.land.legs[n].b - v=u at hi hoi;have hbu:=hb u;refine Zfb (key:=kI) (val:=B) (sv:=sI) (L:=L) (k:=u) (zs:=B false) rfl rfl Zia Zhp rfl ZAt bz_RS (λb hg=>?_) (λhg=>?_)
 . rw [hbu] at hg;by_cases hm:u ∈ been
   case neg=>rw [if_neg hm] at hg;cases hg
   rw [if_pos hm] at hg hi;cases hg
   dsimp only [go_sem];refine Zr rfl ?_;dsimp only [go_sem];rw [<- hi];rfl
 . rw [hbu] at hg;by_cases hm:u ∈ been
   . rw [if_pos hm] at hg;cases hg
   rw [if_neg hm] at hi;dsimp only [go_sem];refine Zo rfl ?_;dsimp only [go_sem];refine ZcV (ins:=false) (key:=kI) (val:=B) (L:=L) (k:=u) (v:=true) rfl rfl Zia Zhp rfl rfl (by simp) ?_;dsimp only [go_sem];rw [Zg (n:=(k:Int)+1) (by omega) (by omega)];refine ⟨(k+1,u,u :: been,UR c u true L,Zcn c u L),⟨hlt,hi,hb.set,hM.set true,hoi⟩,by simp only;omega,?_⟩;(refine Zj ?_ ?_ ?_ rfl rfl<;>dsimp only [Zi,Zh,Zn,Zl,Ze,Zq,ZF,Zw,id,go_sem]<;>simp [Zi,Zh,Zn,Zl,Ze,Zq,ZF,Zw,Za])
def Zci (n:Nat) (been:List Int):List Bool:=(List.range n).map λu:Nat=>decide ((u:Int) ∈ been)
theorem YB {n:Nat} {been:List Int}:(Zci n been).length=n:=by simp [Zci]
theorem Wu {n u:Nat} {been:List Int} (h:u < (Zci n been).length):(Zci n been)[u]=decide ((u:Int) ∈ been):=by simp [Zci]
theorem ZaY {n u:Nat} {been:List Int} (h:u < n):(Zci n been).set u true=Zci n ((u:Int) :: been):=by
 apply List.ext_getElem (by simp [YB]);intro i h1 h2;rw [List.getElem_set,Wu];by_cases hi:u=i
 . subst hi;rw [if_pos rfl,Wu];simp
 . rw [if_neg hi,Wu];have:¬ (i:Int)=(u:Int):=by omega
   simp [this]
theorem Zmu {n:Nat}:Zci n []=List.replicate n false:=by
 apply List.ext_getElem (by simp [YB]);intro i h1 h2;rw [Wu];simp
theorem Zua (s:Season) (hs:SmallS s) (hl:Z1 s.land=true) (hp:Z6 s.pace=true) (h0:0<=s.start/\s.start < s.land.wells.length) (legs:List Int) (hg:legs.length<=1000) (c:Bool) :
 Ct Tryz.prog 42 [.agg (Zt s),.sl c 1 (legs.map Zq)] (I ((YN s.land s.start [s.start] legs).getD (-1))):=by
 have hw:=hs.land.1;have hlg:=hs.land.2.1;have hlp:OkLP s.land s.pace:=⟨hl,hp⟩
 refine t42.1 (by simp [Zt,Zl,Zh,Zn,Zi,Ze,Zq,Za]) (by simp) ?_;dsimp only [c42,r42,Zt,go_sem];simp only [List.length_map];refine ⟨s.land.wells.length,rfl,by omega,?_⟩;dsimp only [go_sem];obtain ⟨n0,hn0⟩:=Int.eq_ofNat_of_zero_le h0.1;have hb0:List.replicate s.land.wells.length [B false]=(Zci s.land.wells.length []).map λb=>[B b]:=by rw [Zmu];simp
 rw [hb0];rw [hn0] at h0 ⊢;refine Uu n0 rfl (by simp [YB];omega) ?_;dsimp only [go_sem];refine ZxJ true (by simp [YB];omega) (by simp) (by simp [Zv]) ?_;rw [ZaY (by omega)];dsimp only [go_sem];refine UD [1,2,4,5,6,7] rfl (λq:Nat × Int × List Int=>[(7,I q.1),(6,I q.2.1)]) (λq=>[(1,.row 0 1 ((Zci s.land.wells.length q.2.2).map λb=>[B b]) 4)])
  (λq=>q.1<=legs.length/\YN s.land q.2.1 q.2.2 (legs.drop q.1)=YN s.land n0 [(n0:Int)] legs/\0<=q.2.1/\q.2.1 < s.land.wells.length)
  (λq=>legs.length - q.1) (0,n0,[(n0:Int)]) ⟨Nat.zero_le _,rfl,h0⟩ ?_ ?_
 . (refine Zj ?_ ?_ ?_ rfl rfl<;>dsimp only [Zi,Zh,Zn,Zl,Ze,Zq,id,go_sem]<;>simp [Zi,Zh,Zn,Zl,Ze,Zq,Za])
 rintro ⟨k,v,been⟩ ⟨hk,hi,hv⟩;simp only at hk hi hv;dsimp only [go_sem];simp only [List.length_map];by_cases hlt:k < legs.length
 case neg =>
  refine Zo (by simp;omega) ?_;dsimp only [go_sem];rw [<- hi,List.drop_eq_nil_of_le (by omega)];rfl
 refine Zr (by simpa using hlt) ?_;dsimp only [go_sem];refine Zp k hlt rfl ?_;dsimp only [Zq,go_sem];simp only [List.length_map];rw [Zg (n:=(s.land.legs.length:Int) - 1) (by omega) (by omega)];refine call (XR _ _ _) ?_;dsimp only [go_sem];rw [List.drop_eq_getElem_cons hlt,YN] at hi;by_cases hr:inR 0 (s.land.legs.length - 1) legs[k]=true
 case neg =>
  refine Zr (by simpa using hr) ?_;dsimp only [go_sem];simp only [inR,decide_eq_true_eq] at hr;rw [if_pos (by rw [Zfd (by omega)];decide)] at hi;rw [<- hi];rfl
 refine Zo (by simpa using hr) ?_;dsimp only [go_sem];refine Zp k hlt rfl ?_;dsimp only [Zq,go_sem];simp only [inR,decide_eq_true_eq] at hr;obtain ⟨n,hn⟩:=Int.eq_ofNat_of_zero_le hr.1;rw [hn] at hr hi ⊢;have hnl:n < s.land.legs.length:=by omega
 refine Zp n hnl rfl ?_;dsimp only [Zn,go_sem];have hends:=hlp.ends (List.getElem_mem hnl);rw [ZbV hnl] at hi;by_cases hva:v=s.land.legs[n].a
 . refine Zr (by simpa using hva) ?_;dsimp only [go_sem];rw [show Zk s.land.legs[n] v=s.land.legs[n].b from by unfold Zk;rw [if_pos hva.symm],if_neg (by omega)] at hi;have hoi:0<=s.land.legs[n].b/\s.land.legs[n].b < s.land.wells.length:=by omega
   obtain ⟨u,hu⟩:=Int.eq_ofNat_of_zero_le hoi.1;rw [hu] at hi hoi ⊢;refine Uu u rfl (by simp [YB];omega) ?_;dsimp only [go_sem];refine ZgX (by simp [YB];omega) ?_;rw [Wu];dsimp only [go_sem];by_cases hm:(u:Int) ∈ been
   . refine Zr (by simpa using hm) ?_;dsimp only [go_sem];rw [if_pos hm] at hi;rw [<- hi];rfl
   refine Zo (by simpa using hm) ?_;dsimp only [go_sem];rw [if_neg hm] at hi;refine Uu u rfl (by simp [YB];omega) ?_;dsimp only [go_sem];refine ZxJ true (by simp [YB];omega) (by simp) (by simp [Zv]) ?_;rw [ZaY (by omega)];dsimp only [go_sem];rw [Zg (n:=(k:Int)+1) (by omega) (by omega)];refine ⟨(k+1,u,(u:Int) :: been),⟨hlt,hi,hoi⟩,by simp only;omega,?_⟩;(refine Zj ?_ ?_ ?_ rfl rfl<;>dsimp only [Zi,Zh,Zn,Zl,Ze,Zq,id,go_sem]<;>simp [Zi,Zh,Zn,Zl,Ze,Zq,Za])
 refine Zo (by simpa using hva) ?_;dsimp only [go_sem];by_cases hvb:v=s.land.legs[n].b
 case neg =>
  refine Zo (by simpa using hvb) ?_;dsimp only [go_sem];rw [if_pos (by unfold Zk;rw [if_neg (by omega),if_neg (by omega)];decide)] at hi;rw [<- hi];rfl
 refine Zr (by simpa using hvb) ?_;dsimp only [go_sem];rw [show Zk s.land.legs[n] v=s.land.legs[n].a from by unfold Zk;rw [if_neg (by omega),if_pos hvb.symm],if_neg (by omega)] at hi;have hoi:0<=s.land.legs[n].a/\s.land.legs[n].a < s.land.wells.length:=by omega
 obtain ⟨u,hu⟩:=Int.eq_ofNat_of_zero_le hoi.1;rw [hu] at hi hoi ⊢;refine Uu u rfl (by simp [YB];omega) ?_;dsimp only [go_sem];refine ZgX (by simp [YB];omega) ?_;rw [Wu];dsimp only [go_sem];by_cases hm:(u:Int) ∈ been
 . refine Zr (by simpa using hm) ?_;dsimp only [go_sem];rw [if_pos hm] at hi;rw [<- hi];rfl
 refine Zo (by simpa using hm) ?_;dsimp only [go_sem];rw [if_neg hm] at hi;refine Uu u rfl (by simp [YB];omega) ?_;dsimp only [go_sem];refine ZxJ true (by simp [YB];omega) (by simp) (by simp [Zv]) ?_;rw [ZaY (by omega)];dsimp only [go_sem];rw [Zg (n:=(k:Int)+1) (by omega) (by omega)];refine ⟨(k+1,u,(u:Int) :: been),⟨hlt,hi,hoi⟩,by simp only;omega,?_⟩;(refine Zj ?_ ?_ ?_ rfl rfl<;>dsimp only [Zi,Zh,Zn,Zl,Ze,Zq,id,go_sem]<;>simp [Zi,Zh,Zn,Zl,Ze,Zq,Za])
end Go.Proofs.YtongccnhomncnaaGreat
namespace Go.Azalai
open Go.Sx
def XB (s:Season) (p:Plan):Bool:=(YN s.land s.start [s.start] p.legs).isSome && inR 0 s.herd p.animals && inR 0 12 p.slabs
def Yp (s:Season) (legs:List Int):List Stop:=(Xp s.land s.pace s.start s.day legs).1
def ZhI (l:List Stop):Stop:=l.getLast?.getD ⟨0,0,⟨0,0⟩,⟨0,0⟩⟩
def US (s:Season) (legs:List Int):Bool:=decide ((Xp s.land s.pace s.start s.day legs).2.2=0) && (decide ((Yp s legs).length=0) || decide ((ZhI (Yp s legs)).arrives.hi<=s.till))
theorem ZdE {l:Land} {p:Span} (hg:OkLP l p):∀ {legs:List Int} {v:Int} {been:List Int} {u:Int},0<=v/\v < l.wells.length->YN l v been legs=some u->0<=u/\u < l.wells.length
 | [],v,_,u,hv,h=>by simp only [YN,Option.some.injEq] at h;subst h;exact hv
 | i :: r,v,been,u,hv,h=>by
  simp only [YN] at h;split at h
  . cases h
  rename_i he;split at h
  . cases h
  obtain ⟨k,x,_,_,hx,_,e⟩:=ZbY he;rw [e] at he h;exact ZdE hg (Yb hg hx he).1 h
theorem Zd5 {l:List Stop} (h:l.length≠0):l[l.length - 1]? = some (ZhI l):=by
 unfold ZhI;rw [List.getLast?_eq_getElem?];rw [List.getElem?_eq_getElem (by omega)];rfl
theorem ZmQ {l:Land} {p:Span}:∀ {legs:List Int} {v a b:Int} {k:Nat} {acc:List Stop},(goS l p v a b legs k acc).2.2≠0->(goS l p v a b legs k acc).1=[]
 | [],_,_,_,_,_,h=>by simp [goS] at h
 | i :: r,v,a,b,k,acc,h=>by
  simp only [goS] at h ⊢;split
  . rfl
  . rename_i x hx;rw [hx] at h;simp only at h;split
    . rfl
    . rename_i hn;rw [if_neg hn] at h;exact ZmQ h
theorem ZiM {l:Land} {p:Span}:∀ {legs:List Int} {v a b:Int} {k:Nat} {acc:List Stop},(goS l p v a b legs k acc).1.length<=acc.length+legs.length
 | [],_,_,_,_,_=>by simp [goS]
 | i :: r,v,a,b,k,acc=>by
  simp only [goS];split
  . simp
  . split
    . simp
    . refine Nat.le_trans ZiM ?_;simp;omega
theorem Zbu {l:Land} {p:Span} {s d:Int} {legs:List Int}:(Xp l p s d legs).1.length<=legs.length:=by
 unfold Xp;split
 . simp
 split
 . simp
 split
 . simp
 split
 . simp
 refine Nat.le_trans ZiM (by simp)
theorem ZmG {l:Land} {p:Span} {s d:Int} {legs:List Int} (h:(Xp l p s d legs).2.2≠0):(Xp l p s d legs).1=[]:=by
 unfold Xp at h ⊢;split
 . rfl
 rename_i h1;rw [if_neg h1] at h;split
 . rfl
 rename_i h2;rw [if_neg h2] at h;split
 . rfl
 rename_i h3;rw [if_neg h3] at h;split
 . rfl
 rename_i h4;rw [h4] at h;exact ZmQ h
end Go.Azalai
namespace Go.Proofs.YtongccnhomncnaaGreat
open Go Go.Sx Go.Azalai
structure OkS (s:Season):Prop where
 small:SmallS s
 ok:ZB s=true
theorem OkS.land {s:Season} (h:OkS s):Z1 s.land=true:=by have:=h.ok;simp only [ZB,Bool.and_eq_true] at this;exact this.1.1.1.1.1.1
theorem OkS.pace {s:Season} (h:OkS s):Z6 s.pace=true:=by have:=h.ok;simp only [ZB,Bool.and_eq_true] at this;exact this.1.1.1.1.1.2
theorem OkS.lp {s:Season} (h:OkS s):OkLP s.land s.pace:=⟨h.land,h.pace⟩
theorem OkS.beast {s:Season} (h:OkS s):ZD s.breed=true/\Zz s.breed s.camel=true:=by
 have:=h.ok;simp only [ZB,Bool.and_eq_true,decide_eq_true_eq] at this;exact Cm.errC_0.1 this.1.1.1.1.2
theorem OkS.num {s:Season} (h:OkS s):1<=s.herd/\s.herd<=30/\1<=s.hours/\s.hours<=24/\1<=s.slab/\s.slab<=1000000/\0<=s.cost/\s.cost<=1000000/\0<=s.sale/\s.sale<=1000000/\0<=s.day/\s.day<=s.till/\s.till<=100000:=by
 have:=h.ok;simp only [ZB,UH,inR,Bool.and_eq_true,decide_eq_true_eq] at this;omega
theorem OkS.start {s:Season} (h:OkS s):0<=s.start/\s.start < s.land.wells.length:=by
 have:=h.ok;simp only [ZB,inR,Bool.and_eq_true,decide_eq_true_eq] at this;omega
theorem OkS.scs {s:Season} (h:OkS s):1<=s.scenes.length/\s.scenes.length<=4:=by
 have:=h.ok;simp only [ZB,inR,Bool.and_eq_true,decide_eq_true_eq] at this;omega
theorem OkS.scene {s:Season} (h:OkS s):∀ x ∈ s.scenes,Yz s.land.wells.length x=true:=by
 have:=h.ok;simp only [ZB,Bool.and_eq_true,List.all_eq_true] at this;exact this.2
theorem Zx3 (s:Season) (h:OkS s) (p:Plan) (hg:p.legs.length<=1000):Ct Tryz.prog 15 [.agg (Zt s),.agg (ZL p)] (B (XB s p)):=by
 refine t15.1 (by simp [Zt,ZL,Zl,Zh,Zn,Zi,Ze,Zq,Za]) (by simp) ?_;dsimp only [c15,r15,Zt,ZL,go_sem];refine call (Zua s h.small h.land h.pace h.start p.legs hg _) ?_;dsimp only [go_sem];repeat (first | (refine gb ?_;dsimp only [go_sem]) | (refine call (XR _ _ _) ?_;dsimp only [go_sem]))
 have:decide ((YN s.land s.start [s.start] p.legs).getD (-1) ≥ 0)=(YN s.land s.start [s.start] p.legs).isSome:=by
  cases hq:YN s.land s.start [s.start] p.legs with
  | none=>rfl
  | some u=>have:=(ZdE h.lp h.start hq).1;simpa using this
 rw [this];rfl
theorem Zsl (s:Season) (hs:SmallS s) (p:Plan) (hg:p.legs.length<=1000):Ct Tryz.prog 44 [.agg (Zt s),.agg (ZL p)] (I (if ZB s=false then 90 else if XB s p=false then 91 else 0)):=by
 refine t44.1 (by simp [Zt,ZL,Zl,Zh,Zn,Zi,Ze,Zq,Za]) (by simp) ?_;dsimp only [c44,r44,Zt,ZL,go_sem];refine call (Zeo s hs) ?_;dsimp only [go_sem];by_cases ho:ZB s=true
 case neg =>
  refine Zr (by simp [ho]) ?_;dsimp only [go_sem];simp [ho]
 refine Zo (by simp [ho]) ?_;dsimp only [go_sem];have h:OkS s:=⟨hs,ho⟩
 refine call (Zd6 s h.small h.land h.pace h.start p.legs hg _) ?_;dsimp only [go_sem];repeat (first | (refine gb ?_;dsimp only [go_sem]) | (refine call (ZkV _ _ _ _) ?_;dsimp only [go_sem]))
 refine br ?_ ?_
 . intro hb;dsimp only [go_sem];have:XB s p=false:=by simp only [XB];revert hb;generalize Option.isSome _=a;generalize inR 0 s.herd p.animals=b;generalize inR 0 12 p.slabs=c;revert a b c;decide
   rw [ho,this];rfl
 intro hb;dsimp only [go_sem];have:XB s p=true:=by simp only [XB];revert hb;generalize Option.isSome _=a;generalize inR 0 s.herd p.animals=b;generalize inR 0 12 p.slabs=c;revert a b c;decide
 rw [ho,this];rfl
theorem walkS (s:Season) (h:OkS s) (legs:List Int) (hg:legs.length<=1000) (c:Bool) {f:Nat}
 (hc:Ct Tryz.prog f [.agg (Ye s.land),I s.start,I s.day,.agg (Ze s.pace),.sl c 1 (legs.map Zq)] (ZbD (Xp s.land s.pace s.start s.day legs))) :
 Ct Tryz.prog f [.agg (Ye s.land),I s.start,I s.day,.agg (Ze s.pace),.sl c 1 (legs.map Zq)] (.tup [.sl false 6 ((Yp s legs).map ZZ),I (Xp s.land s.pace s.start s.day legs).2.1,I (Xp s.land s.pace s.start s.day legs).2.2]):=by
 unfold ZbD XX at hc;split at hc
 . exact hc
 . rename_i he;refine hc.res (by simp [Za,ZZ]) ?_;rw [Yp,ZmG he];exact VG (ZN Xd Wd)
theorem Zqt (s:Season) (h:OkS s) (legs:List Int) (hg:legs.length<=1000) (c:Bool):Ct Tryz.prog 81 [.agg (Zt s),.sl c 1 (legs.map Zq)] (.tup [.sl false 6 ((Yp s legs).map ZZ),B (US s legs)]):=by
 refine t81.1 (by simp [Zt,Zl,Zh,Zn,Zi,Ze,Zq,Za]) (by simp [Za,ZZ]) ?_;dsimp only [c81,r81,Zt,go_sem];refine call (walkS s h legs hg c (Znp s.land h.small.land s.start s.day s.pace legs hg c)) ?_;dsimp only [go_sem];repeat (refine gb ?_;dsimp only [go_sem])
 have hlen:(Yp s legs).length<=1000:=Nat.le_trans Zbu hg;simp only [List.length_map];refine Ztd ((Yp s legs).length - 1) (ZZ (ZhI (Yp s legs))) rfl (λhb=>?_) ?_
 . have hz:(Yp s legs).length≠0:=by simpa using hb
   rw [Zg (by omega) (by omega)];exact ⟨by omega,by rw [List.getElem?_map,Zd5 hz];rfl⟩
 dsimp only [ZZ,go_sem];repeat (refine gb ?_;dsimp only [go_sem])
 have:((Xp s.land s.pace s.start s.day legs).2.2 == 0 && (((Yp s legs).length:Int) == 0 || decide ((ZhI (Yp s legs)).arrives.hi<=s.till)))=US s legs:=by
  have h1:(((Yp s legs).length:Int) == 0)=decide ((Yp s legs).length=0):=by rw [Bool.eq_iff_iff];simp
  simp only [US,h1];rfl
 rw [this]
end Go.Proofs.YtongccnhomncnaaGreat
namespace Go.Sx
open Go Go.RowKit
section
variable {K V:Type} [DecidableEq K] {k k':K} {v v0:V} {c:Nat} {L:List (Nat × K × V)}
end
section
variable {P:Program} {K' V:Type} [DecidableEq K'] {key:K'->Value} {sv:K'->SV} {val:V->SV} {L:List (Nat × K' × V)} {km c:Nat} {kt et t ty:TypeId} {mx ix vx sx:Operand} {σ : St} {r:KT} {K:RK} {d:Option Nat} {k:K'}
end
section
variable {P:Program} {ty T T':TypeId} {ix jx:Operand} {σ : St} {r:KT} {K:RK} {d:Option Nat} {s:SV}
def Zd7 (P:Program) (T:TypeId):Bool :=
 match P.underlying T with
 | some (.interface _)=>false
 | some _=>true
 | none=>false
theorem ZmU (hT:Zd7 P T=true) (hi:Ug σ ix=s) (hg:∀ j b u,s≠.gd j b u) (h:Yq d (.ifc T s) none σ r K):RAW P d (.makeInterface T ix) ty σ r K:=by
 intro o C E a w next Q e1 e2 e3 hS hn hq;have hiv:=XO hS hi hg;have hx:(execOp a.eval o).run P w = .ok (.value (.iface T (a.eval ix))) w:=by
  obtain ⟨dst',op',ty',pos,after,guard⟩:=o;simp only at e2;subst e2;unfold Zd7 at hT;cases hu:P.underlying T with
  | none=>rw [hu] at hT;cases hT
  | some u =>
   rw [hu] at hT;cases u<;>first | exact absurd hT Bool.false_ne_true | simp [execOp,Sem.run_bind,Instr.makeInterface,run_underlying hu,Result.andThen_ok,Sem.run_pure]
 refine Zy hx (by simp) ?_;show next (a.put o.dst _) _;rw [e1];refine XF h hS ?_ hn;simp only [R];exact ⟨_,rfl,hiv⟩
theorem Zm2 (hi:Ug σ ix = .ifc T s) (h:K (.pan (.ifc T s)) σ):RAW P d (.panic ix) ty σ r K:=by
 intro o C E a w next Q e1 e2 e3 hS hn hq;have hiv:=XO hS hi (λ_ _ _=>by simp);simp only [R] at hiv;obtain ⟨x,hx,hR⟩:=hiv;have hy:(execOp a.eval o).run P w = .halt (.panic (.iface T x)) w:=by
  obtain ⟨dst',op',ty',pos,after,guard⟩:=o;simp only at e2;subst e2;simp [execOp,Sem.run_bind,hx,Instr.panic,goPanic,Result.andThen]
 exact Zi1 hy (by rw [e2];simp) (hq _ _ _ _ _ h hS (by simp only [R];exact ⟨x,rfl,hR⟩))
theorem Zbn (hT:Zd7 P T=true) (hi:Ug σ ix = .ifc T s) (h:Yq d (.tup [s,.v (.bool true)]) none σ r K):RAW P d (.typeAssert ix T' T true) ty σ r K:=by
 intro o C E a w next Q e1 e2 e3 hS hn hq;have hiv:=XO hS hi (λ_ _ _=>by simp);simp only [R] at hiv;obtain ⟨x,hx,hR⟩:=hiv;have hy:(execOp a.eval o).run P w = .ok (.value (.tuple #[x,.bool true])) w:=by
  obtain ⟨dst',op',ty',pos,after,guard⟩:=o;simp only at e2;subst e2;unfold Zd7 at hT;cases hu:P.underlying T with
  | none=>rw [hu] at hT;cases hT
  | some u =>
   rw [hu] at hT;cases u<;>first | exact absurd hT Bool.false_ne_true | simp [execOp,Sem.run_bind,hx,Instr.typeAssert,run_underlying hu,Result.andThen_ok,Sem.run_pure]
 refine Zy hy (by simp) ?_;show next (a.put o.dst _) _;rw [e1];refine XF h hS ?_ hn;simp only [R,RL];exact ⟨_,rfl,_,_,rfl,hR,_,_,rfl,rfl,rfl⟩
end
section
variable {K V:Type} [DecidableEq K] {P:Program} {key:K->Value} {sv:K->SV} {val:V->SV} {L:List (Nat × K × V)} {km c:Nat} {kt et t:TypeId} {σ : St} {k:K} {i j:Nat} {ok:Bool} {zs:SV} {z:Value} {v:V}
end
end Go.Sx
namespace Go.Azalai
open Go.Sx
def ZeO (s:Season) (x:Scene) (slabs:Int):March:=⟨s.hours,slabs * s.slab,x.heat,x.grass,⟨0,0⟩⟩
def ZiE (b:Breed) (c:Camel):Span:=if Zav b c=0 then Zzr b c else ZaC
def Zl5 (a b:Span):Span:=⟨min a.lo b.lo,max a.hi b.hi⟩
def ZnC (a b:Camel):Camel:=⟨Zl5 a.water b.water,Zl5 a.fat b.fat,Zl5 a.sore b.sore,a.milks⟩
def Zbz (b:Breed) (m:March) (lo:Int):Nat->Nat->Camel->Camel->Camel × Int
 | 0,_,_,out=>(out,0)
 | j+1,n,c,out =>
  if m.load > (ZiE b c).lo then (Xa,2)
  else if (XJ b c m).2.2≠0\/(XJ b c m).2.1≠0 then (Xa,3)
  else Zbz b m lo j (n+1) (XJ b c m).1 (if (n:Int)+1=lo then (XJ b c m).1 else if (n:Int)+1 > lo then ZnC out (XJ b c m).1 else out)
def Xz (s:Season) (x:Scene) (d:Span) (slabs:Int) (c:Camel):Camel × Int:=Zbz s.breed (ZeO s x slabs) d.lo d.hi.toNat 0 c Xa
end Go.Azalai
namespace Go.Proofs.YtongccnhomncnaaGreat
open Go Go.Sx Go.Azalai
abbrev camelL:=Cm.camelL
abbrev U8 (n:Int):SV:=.v (.int .u8 n)
def Yv (s:Season) (k:Int):List SV :=
 [.sl false 9 (s.land.wells.map Zh),.sl false 5 (s.land.legs.map Zn),I s.pace.lo,I s.pace.hi,
  I s.breed.full,I s.breed.fed,I s.breed.rest.lo,I s.breed.rest.hi,I s.breed.heat.lo,I s.breed.heat.hi,I s.breed.toil.lo,I s.breed.toil.hi,I s.breed.burn.lo,I s.breed.burn.hi,I s.breed.rub.lo,I s.breed.rub.hi,I s.breed.milk.lo,I s.breed.milk.hi,I s.breed.heal,I s.breed.strong.lo,I s.breed.strong.hi,
  I s.camel.water.lo,I s.camel.water.hi,I s.camel.fat.lo,I s.camel.fat.hi,I s.camel.sore.lo,I s.camel.sore.hi,B s.camel.milks,
  I s.herd,I s.hours,I s.slab,I s.cost,I s.sale,I s.start,I s.day,I s.till,.sl false 6 (s.scenes.map Zl),I k]
theorem Ze0 (a b:Span) (c:Bool):Ct Tryz.prog 177 [.agg (Ze a),.sl c 2 [[I b.lo,I b.hi]]] (.agg (Ze (Zl5 a b))):=by
 refine t177.1 ⟨by simp [KF,KFL,Ze],by simp [KF,KFR,KFL],trivial⟩ (by simp [Ze]) ?_;dsimp only [c177,r177,Ze,go_sem];refine ZY 2 ?_;dsimp only [Zb,go_sem];refine Zr (by decide) ?_;dsimp only [go_sem];refine ixs 0 [I b.lo,I b.hi] rfl rfl ?_;dsimp only [go_sem];refine Zo (by decide) ?_;dsimp only [go_sem];rfl
theorem Zdb:Zd7 Tryz.prog 111=true:=by kernel_rfl
def XG (why at_:Int):Ot:=⟨true,.ifc 111 (.agg [U8 why,I at_]),[],0⟩
theorem Uy (w k:Int):CtM Tryz.prog 82 [] 0 [B true,U8 w,I k] (λo=>o=⟨false,.tup [],[],0⟩):=by
 refine m82 (by simp [hpb]) (λo ho=>by subst ho;simp [KX,KXL,KXP]) ?_;dsimp only [c82,r82,go_sem];refine Zo rfl ?_;dsimp only [go_sem];refine ⟨_,rfl,?_⟩;(refine ZT ?_ ?_ ?_ rfl<;>dsimp only [id,go_sem]<;>simp [Za])
theorem ZbK (w k:Int):CtM Tryz.prog 82 [] 0 [B false,U8 w,I k] (λo=>o=XG w k):=by
 refine m82 (by simp [hpb]) (λo ho=>by subst ho;simp [XG,KX,KXL,KXP]) ?_;dsimp only [c82,r82,go_sem];refine Zr rfl ?_;dsimp only [go_sem];refine ZmU (s:=.agg [U8 w,I k]) Zdb rfl (λ_ _ _ e=>by cases e) ?_;dsimp only [go_sem];refine Zm2 rfl ?_;dsimp only [go_sem];refine ⟨_,rfl,?_⟩;(refine ZT ?_ ?_ ?_ rfl<;>dsimp only [XG,id,go_sem]<;>simp [XG,Za])
theorem Zi2 (s:Season) (k:Nat) (hk:k < s.scenes.length):Ct Tryz.prog 101 [.agg (Yv s k)] (.agg (Zl s.scenes[k])):=by
 refine t101.1 (by simp [Yv,Zl,Zh,Zn,Zi,Ze,Zq,Za]) (by simp [Zl,Ze,Zq,Za]) ?_;dsimp only [c101,r101,Yv,go_sem];refine Zp k hk rfl ?_;dsimp only [Zl,go_sem]
def Zbf (at_:Int) (r:Camel × Int):Ot:=if r.2=0 then ⟨false,.agg (camelL r.1),[],0⟩ else XG r.2 at_
theorem Zo0 (s:Season) (k:Nat) (hk:k < s.scenes.length) (at_:Int) (c:Camel) (d:Span) (slabs:Int) (hn:0<=slabs/\slabs<=12) (hs:0<=s.slab/\s.slab<=1000000) (hd:d.hi<=1000000000) :
 CtM Tryz.prog 162 [] 0 [.agg (Yv s k),I at_,.agg (camelL c),.agg (Ze d),I slabs] (λo=>o=Zbf at_ (Xz s s.scenes[k] d slabs c)):=by
 have hb:0<=slabs * s.slab/\slabs * s.slab<=12 * 1000000:=⟨Int.mul_nonneg hn.1 hs.1,Int.mul_le_mul hn.2 hs.2 hs.1 (by decide)⟩
 refine m162 (by simp [hpb]) (λo ho=>by subst ho;unfold Zbf;split<;>simp [XG,Cm.camelL,KX,KXL,KXP]) ?_;dsimp only [c162,r162,Ze,Cm.camelL,Yv,go_sem];refine call (Zi2 s k hk) ?_;dsimp only [Zl,go_sem];refine call (Zi2 s k hk) ?_;dsimp only [Zl,go_sem];rw [Zg (n:=slabs * s.slab) (by omega) (by omega)];refine UD [1,5,7,8,10,11,12,13,35,36] rfl (λq:Nat × Camel × Camel=>[(36,I q.1)]) (λq=>[(1,.cells (Cm.camelL q.2.1) 31),(5,.cells (Cm.camelL q.2.2) 31)])
  (λq=>q.1<=d.hi.toNat/\Zbz s.breed (ZeO s s.scenes[k] slabs) d.lo (d.hi.toNat - q.1) q.1 q.2.1 q.2.2=Xz s s.scenes[k] d slabs c) (λq=>d.hi.toNat - q.1) (0,c,Xa) ⟨Nat.zero_le _,rfl⟩ ?_ ?_
 . (refine Zj ?_ ?_ ?_ rfl rfl<;>dsimp only [Cm.camelL,Xa,ZaC,Zi,Zh,Zn,Zl,Ze,Zq,mtL,mtB,mtS,id,go_sem]<;>simp [Cm.camelL,Xa,ZaC,Zi,Zh,Zn,Zl,Ze,Zq,mtL,mtB,mtS,Za])
 rintro ⟨n,c,out⟩ ⟨hk',hi⟩;simp only at hk' hi;dsimp only [Cm.camelL,go_sem];by_cases hlt:n < d.hi.toNat
 case neg =>
  refine Zo (by simp;omega) ?_;dsimp only [go_sem];rw [show d.hi.toNat - n=0 from by omega,Zbz] at hi;rw [<- hi];refine ⟨_,rfl,?_⟩;simp only [Zbf,if_true];(refine ZT ?_ ?_ ?_ rfl<;>dsimp only [Cm.camelL,mtL,mtB,mtS,id,go_sem]<;>simp [Cm.camelL,mtL,mtB,mtS,Za])
 refine Zr (by simp;omega) ?_;dsimp only [go_sem];refine call (Cm.carries_ok s.breed c) ?_;dsimp only [Cm.sres,Ze,go_sem];rw [show (if Zav s.breed c=0 then Zzr s.breed c else ZaC)=ZiE s.breed c from rfl];have hj:d.hi.toNat - n=(d.hi.toNat - (n+1))+1:=by omega
 rw [hj,Zbz] at hi;by_cases hw:(ZeO s s.scenes[k] slabs).load > (ZiE s.breed c).lo
 . rw [show decide (slabs * s.slab<=(ZiE s.breed c).lo)=false from decide_eq_false (by have:slabs * s.slab > (ZiE s.breed c).lo:=hw;omega)];refine Yd [] (ZbK 2 at_) rfl rfl rfl ?_ ?_ ?_
   . (repeat first | dsimp only [go_sem] | simp only [nbr])
     try simp [mtL,mtB,mtS]
   . trivial
   rintro _ rfl
   (repeat first | dsimp only [XG,go_sem] | simp only [nbr])
   rw [<- hi,if_pos hw];refine ⟨_,rfl,?_⟩;simp only [Zbf];(refine ZT ?_ ?_ ?_ rfl<;>dsimp only [XG,id,go_sem]<;>simp [XG,Za])
 rw [show decide (slabs * s.slab<=(ZiE s.breed c).lo)=true from decide_eq_true (by have:¬ slabs * s.slab > (ZiE s.breed c).lo:=hw;omega)];refine Yd [] (Uy 2 at_) rfl rfl rfl ?_ ?_ ?_
 . (repeat first | dsimp only [go_sem] | simp only [nbr])
   try simp [mtL,mtB,mtS]
 . trivial
 rintro _ rfl
 (repeat first | dsimp only [go_sem] | simp only [nbr])
 rw [if_neg hw] at hi;refine call (Cm.after1_ok s.breed c (ZeO s s.scenes[k] slabs)) ?_;generalize XJ s.breed c (ZeO s s.scenes[k] slabs)=r at hi ⊢;dsimp only [Cm.camelL,Cm.U8,go_sem];repeat (refine gb ?_;dsimp only [go_sem])
 by_cases hf:r.2.2≠0\/r.2.1≠0
 . rw [show (r.2.2 == 0 && r.2.1 == 0)=false from by simp;omega];refine Yd [] (ZbK 3 at_) rfl rfl rfl ?_ ?_ ?_
   . (repeat first | dsimp only [go_sem] | simp only [nbr])
     try simp [mtL,mtB,mtS]
   . trivial
   rintro _ rfl
   (repeat first | dsimp only [XG,go_sem] | simp only [nbr])
   rw [<- hi,if_pos hf];refine ⟨_,rfl,?_⟩;simp only [Zbf];(refine ZT ?_ ?_ ?_ rfl<;>dsimp only [XG,id,go_sem]<;>simp [XG,Za])
 rw [show (r.2.2 == 0 && r.2.1 == 0)=true from by simp;omega];refine Yd [] (Uy 3 at_) rfl rfl rfl ?_ ?_ ?_
 . (repeat first | dsimp only [go_sem] | simp only [nbr])
   try simp [mtL,mtB,mtS]
 . trivial
 rintro _ rfl
 (repeat first | dsimp only [go_sem] | simp only [nbr])
 rw [if_neg hf] at hi;rw [Zg (n:=(n:Int)+1) (by omega) (by omega)];by_cases hl:(n:Int)+1=d.lo
 . refine Zr (by simpa using hl) ?_;dsimp only [go_sem];rw [if_pos hl] at hi;try rw [Zg (n:=(n:Int)+1) (by omega) (by omega)]
   refine ⟨(n+1,r.1,r.1),⟨hlt,hi⟩,by simp only;omega,?_⟩;(refine Zj ?_ ?_ ?_ rfl rfl<;>dsimp only [Cm.camelL,Xa,ZaC,Zi,Zh,Zn,Zl,Ze,Zq,mtL,mtB,mtS,id,go_sem]<;>simp [Cm.camelL,Xa,ZaC,Zi,Zh,Zn,Zl,Ze,Zq,mtL,mtB,mtS,Za])
 refine Zo (by simpa using hl) ?_;dsimp only [go_sem];rw [if_neg hl] at hi;try rw [Zg (n:=(n:Int)+1) (by omega) (by omega)]
 by_cases hm:(n:Int)+1 > d.lo
 . refine Zr (by simpa using hm) ?_;dsimp only [go_sem];rw [if_pos hm] at hi;refine call (Ze0 out.water r.1.water _) ?_;dsimp only [go_sem];refine call (Ze0 out.fat r.1.fat _) ?_;dsimp only [go_sem];refine call (Ze0 out.sore r.1.sore _) ?_;dsimp only [Ze,go_sem];try rw [Zg (n:=(n:Int)+1) (by omega) (by omega)]
   refine ⟨(n+1,r.1,ZnC out r.1),⟨hlt,hi⟩,by simp only;omega,?_⟩;(refine Zj ?_ ?_ ?_ rfl rfl<;>dsimp only [Cm.camelL,ZnC,Xa,ZaC,Zi,Zh,Zn,Zl,Ze,Zq,mtL,mtB,mtS,id,go_sem]<;>simp [Cm.camelL,ZnC,Xa,ZaC,Zi,Zh,Zn,Zl,Ze,Zq,mtL,mtB,mtS,Za])
 refine Zo (by simp;omega) ?_;dsimp only [go_sem];rw [if_neg hm] at hi;try rw [Zg (n:=(n:Int)+1) (by omega) (by omega)]
 refine ⟨(n+1,r.1,out),⟨hlt,hi⟩,by simp only;omega,?_⟩;(refine Zj ?_ ?_ ?_ rfl rfl<;>dsimp only [Cm.camelL,Xa,ZaC,Zi,Zh,Zn,Zl,Ze,Zq,mtL,mtB,mtS,id,go_sem]<;>simp [Cm.camelL,Xa,ZaC,Zi,Zh,Zn,Zl,Ze,Zq,mtL,mtB,mtS,Za])
def Zut:SC:=(sr1 [o1 2 (.mv (.c (.slice none 0 0)))] (.seq (sr1 [m1 3 0,o1 4 (.isn (.t 3))] (Ji 4 (sr1 [o1 2 (.mv (.c (.slice none 0 0)))] .ret) .skip)) (sr1 [o1 5 (.bsl 9 151 []),m1 6 0,o1 7 (.cln 9 72 151 (.t 5) (.t 6)),m1 2 7] .ret)))
def Zwj:List RV:=[.tmp 2]
theorem nw100:Tryz.f100.ntmps=8:=by kernel_rfl
theorem bw100:Yn Tryz.prog 100=true:=by kernel_rfl
theorem ZqF:Xi Tryz.prog Zut ((Tryz.f100.body).getD .skip)=true:=by kernel_rfl
theorem ZoC:XV Tryz.prog Zwj Tryz.f100.results.toList=true:=by kernel_rfl
theorem mw100 {n0:Nat} {hp0:List (Nat × HB)} {args:List SV} {ZO:Ot->Prop} (hh:hpb n0 hp0) (hx:∀ o,ZO o->KX o.res/\KXP o.hp) (h:sx Tryz.prog Y0 n0 Zut ⟨Xx 0 args,hp0,n0,8,[]⟩ (Uk Zwj λo=>∃ o',ZO o'/\Zbs n0 o o')) (hA:Nat.ble args.length 8=true:=by rfl):CtM Tryz.prog 100 hp0 n0 args ZO:=Yf Tryz.func100 rfl bw100 ZqF ZoC nw100 (Nat.le_of_ble_eq_true hA) hh hx h
def cw63:SC:=(sr1 [o1 2 (Jz 0 0 114),o1 3 (Jz 1 0 148),Jk 4 0] (sr1 [o1 10 (ao 2 0),o1 11 (ao 10 0),o1 12 (lt 11 2),o1 5 (.alloc ZBF 25),Js 5 12 2] (sr1 [o1 13 (ao 5 0),o1 14 (lf 13 1),o1 15 (.callm 100 [.t 14]),o1 16 (ao 5 0),Js 16 15 1] (.seq (sr1
 [o1 17 (ao 5 0),o1 18 (lf 17 1),o1 19 (Jl 18),Jk 20 0] (.block 0 (.loop (sr1 [o1 21 (Jb .lss 20 19)] (.seq (Ji 21 .skip (.exit 0)) (.seq (.block 1 (sr1 [m1 22 20,m1 6 22] (.regd (Jr 12) [Jo 23 (ao 5 0),Jp 24 (lf 23 1) [0],Jm 25 6,Jo 26 (lt 2 38),Jp
 27 (J1 101 26) [3],Jp 28 (.fld (.t 27) 4 1 false) [4],Jm 29 6,Jp 30 (Jx 28 29 2) [5,6],Jp 31 (lt 30 2) [7],Jp 32 (Jx 24 25 9) (Jr 9),Jp 33 (ao 32 3) (Jr 10)] 0 1 [Ju 33 31 2 [0,1,2,3,4,5,6,7,8,10]]))) (.reg [o1 34 (Jc .add 20 1),m1 20 34]))))))) (sr1
 [o1 36 (lt 5 2),o1 37 (ao 3 1),o1 38 (lf 37 1),o1 39 (ao 3 4),o1 40 (ao 39 0),o1 41 (lf 40 1),o1 42 (.call 102 [.t 36,.t 38,.c (.slice none 0 0),.t 41]),m1 35 42,o1 43 (Je 35 0),o1 44 (Je 35 1),o1 45 (Je 35 2),o1 7 (.alloc zv0 27),Js 7 43 2,m1 8
 44,m1 9 45] (sr1 [o1 46 (ao 7 0),o1 47 (lf 46 1),m1 4 47] .ret))))))
def rw63:List RV:=[.tmp 4]
theorem tw63:Qt1 Tryz.prog 63 cw63 rw63 48:=ZH Tryz.func63
end Go.Proofs.YtongccnhomncnaaGreat
namespace Go.Azalai
open Go.Sx
def ZiJ (ws:List Well) (ys:List Span):List Well:=List.zipWith (λw y=>{ w with yld:=y }) ws ys
def U9 (s:Season) (x:Scene):Land:=⟨ZiJ s.land.wells x.yields,s.land.legs⟩
def UJ (ws Z:List Well) (k:Nat):List Well:=Z.take k ++ ws.drop k
theorem Zgb {ws:List Well} {ys:List Span} (h:ys.length=ws.length):(ZiJ ws ys).length=ws.length:=by simp [ZiJ,h]
theorem Zd9 {ws Z:List Well} {k:Nat} (h:Z.length=ws.length) (hk:k<=ws.length):(UJ ws Z k).length=ws.length:=by simp [UJ];omega
theorem ZdT {ws Z:List Well} {k:Nat} (h:Z.length=ws.length) (hk:k < ws.length) (hk':k < (UJ ws Z k).length):(UJ ws Z k)[k]=ws[k]:=by
 simp only [UJ];rw [List.getElem_append_right (by simp;omega)];simp [Nat.min_eq_left (Nat.le_of_lt (h ▸ hk:k < Z.length))]
theorem Zkn {ws Z:List Well} {k:Nat} (h:Z.length=ws.length) (hk:k < ws.length) (hz:k < Z.length):(UJ ws Z k).set k Z[k]=UJ ws Z (k+1):=by
 simp only [UJ];rw [List.set_append_right _ _ (by simp;omega)];have h1:(Z.take k).length=k:=by simp;omega
 rw [h1,Nat.sub_self,List.drop_eq_getElem_cons hk,List.set_cons_zero,List.take_succ_eq_append_getElem hz,List.append_assoc];rfl
theorem Zo1 {ws:List Well} {ys:List Span} {k:Nat} (h1:k < ws.length) (h2:k < ys.length) (h:k < (ZiJ ws ys).length):(ZiJ ws ys)[k]={ ws[k] with yld:=ys[k] }:=by simp [ZiJ]
def ZcE (s:Season) (x:Scene) (st:Stop):Int:=(WJ (U9 s x) st.well [] st.arrives.lo).1.lo
end Go.Azalai
namespace Go.Proofs.YtongccnhomncnaaGreat
open Go Go.Sx Go.Azalai
theorem ZdQ {s:Season} {x:Scene} (h:WT s.land) (hx:x.yields.length=s.land.wells.length):WT (U9 s x):=by
 refine ⟨?_,h.2.1,h.2.2⟩;simp only [U9];rw [Zgb hx];exact h.1
theorem Zml (l:List Well) (hL:l.length<=1000) (k:Bool):CtM Tryz.prog 100 [] 0 [.sl k 9 (l.map Zh)] (λo=>o=⟨false,.mr 0 0,[(0,.row 0 9 (l.map Zh) 151)],1⟩):=by
 refine mw100 (by simp [hpb]) (λo ho=>by subst ho;simp [KX,KXL,KXP,KXH,Za,KFL,KF,Zh]) ?_;dsimp only [Zut,Zwj,go_sem];intro b hb;dsimp only [go_sem];cases b with
 | true =>
  have hl:l=[]:=by simpa using hb rfl
  subst hl;refine Zr rfl ?_;dsimp only [go_sem];refine ⟨_,rfl,?_⟩;refine Ub (YI (Xn 0 9 151 rfl rfl) ?_) (λ_ _ _ e=>by cases e);(refine Zj ?_ ?_ ?_ rfl rfl<;>dsimp only [Zh,id,go_sem]<;>simp [Zh,Za])
 | false =>
  refine Zo rfl ?_;dsimp only [go_sem];refine ⟨by simp;omega,?_⟩;dsimp only [go_sem];refine ⟨_,rfl,?_⟩;(refine ZT ?_ ?_ ?_ rfl<;>dsimp only [Zh,id,go_sem]<;>simp [Zh,Za])
theorem Ztb (s:Season) (hs:SmallS s) (k:Nat) (hk:k < s.scenes.length) (hy:s.scenes[k].yields.length=s.land.wells.length) (st:Stop):Ct Tryz.prog 63 [.agg (Yv s k),.agg (ZZ st)] (I (ZcE s s.scenes[k] st)):=by
 have hw:=hs.land.1;refine tw63.1 (by simp [Yv,ZZ,Zl,Zh,Zn,Zi,Ze,Zq,Za]) (by simp) ?_;dsimp only [cw63,rw63,Yv,ZZ,go_sem];refine Zan [] (Zml s.land.wells hw false) rfl rfl rfl ?_ ?_ ?_
 . exact Zc (by simp [Za,Zh])
 . trivial
 dsimp only [go_sem];simp only [List.length_map];have hz:=Zgb hy;refine UD [2,3,4,5,19,20] rfl (λq:Nat=>[(20,I q)]) (λq=>[(3,.row 0 9 ((UJ s.land.wells (ZiJ s.land.wells s.scenes[k].yields) q).map Zh) 151)])
  (λq=>q<=s.land.wells.length) (λq=>s.land.wells.length - q) 0 (Nat.zero_le _) ?_ ?_
 . (refine Zj ?_ ?_ ?_ rfl rfl<;>dsimp only [Zh,Zn,Zi,Zl,Ze,Zq,UJ,id,go_sem]<;>simp [Zh,Zn,Zi,Zl,Ze,Zq,UJ,Za])
 intro q hq;dsimp only [go_sem];by_cases hlt:q < s.land.wells.length
 . refine Zr (by simpa using hlt) ?_;dsimp only [go_sem];refine call (Zi2 s k hk) ?_;dsimp only [Zl,go_sem];refine Zp q (by omega) rfl ?_;dsimp only [Ze,go_sem];refine Uu q rfl (by simp [Zd9 hz hq];omega) ?_;dsimp only [go_sem];have hq2:q < (UJ s.land.wells (ZiJ s.land.wells s.scenes[k].yields) q).length:=by rw [Zd9 hz hq];exact hlt
   have hq3:q < (ZiJ s.land.wells s.scenes[k].yields).length:=by omega
   refine ZxJ ((ZiJ s.land.wells s.scenes[k].yields)[q]) hq2 (by rw [ZdT hz hlt];simp [Zh]) (by rw [ZdT hz hlt,Zo1 hlt (by omega)];simp [Zh,Zv]) ?_;rw [Zkn hz hlt hq3];dsimp only [go_sem];rw [Zg (n:=(q:Int)+1) (by omega) (by omega)];refine ⟨q+1,by omega,by omega,?_⟩;(refine Zj ?_ ?_ ?_ rfl rfl<;>dsimp only [Zh,Zn,Zi,Zl,Ze,Zq,id,go_sem]<;>simp [Zh,Zn,Zi,Zl,Ze,Zq,Za])
 refine Zo (by simp;omega) ?_;dsimp only [go_sem];have hq':UJ s.land.wells (ZiJ s.land.wells s.scenes[k].yields) q=ZiJ s.land.wells s.scenes[k].yields:=by
  simp only [UJ];rw [List.take_of_length_le (by omega),List.drop_eq_nil_of_le (by omega),List.append_nil]
 rw [hq'];have hwa:=(ZnQ (U9 s s.scenes[k]) (ZdQ hs.land hy) st.well st.arrives.lo [] (by simp)).args (args0:=[.agg (Ye (U9 s s.scenes[k])),I st.well,.v (.slice none 0 0),I st.arrives.lo]) (by simp [Ye,Zh,Zn,Zi,Za]) (ZN (λ_ _ _ _ _ h=>h) (ZN (λ_ _ _ _ _ h=>h) (ZN Xd Wd)));refine Vi (by simp [FLT,ZyX,Zpn,Ze]) (res:=Zpn (WJ (U9 s s.scenes[k]) st.well [] st.arrives.lo)) ?_ ?_
 . dsimp only [go_sem];exact hwa
 dsimp only [Zpn,Ze,go_sem];rfl
end Go.Proofs.YtongccnhomncnaaGreat
namespace Go.Sx
open Go Go.RowKit
theorem VH {l l':List SV} (h:∀ (w:World) (E:Env) (n ok:Nat->Prop) (ys:List Value),RL w E n ok l ys->RL w E n ok l' ys):Zcy (.agg l) (.agg l'):=λw E n ok y hy=>by
 simp only [R] at hy ⊢;obtain ⟨cs,h1,h2⟩:=hy;exact ⟨cs,h1,h _ _ _ _ _ h2⟩
end Go.Sx
namespace Go.Azalai
open Go.Sx
def ZdF (b:Breed) (c:Camel):Camel:={ c with water:=⟨b.full,b.full⟩ }
def goG (s:Season) (x:Scene) (slabs:Int):List Stop->Nat->Camel->List (Int × Int)->Int × Int × List (Int × Int)
 | [],_,_,acc=>(0,0,acc)
 | st :: r,i,c,acc =>
  if (Xz s x (X7 s.land st.leg s.pace).1 slabs c).2≠0 then ((Xz s x (X7 s.land st.leg s.pace).1 slabs c).2,i,acc)
  else goG s x slabs r (i+1) (ZdF s.breed (Xz s x (X7 s.land st.leg s.pace).1 slabs c).1)
   (if r=[] then acc else acc ++ [(s.breed.full - (Xz s x (X7 s.land st.leg s.pace).1 slabs c).1.water.lo,ZcE s x st)])
def goF (s:Season) (x:Scene) (slabs:Int) (l:List Stop):Int × Int × List (Int × Int) :=
 if l=[] then (if slabs * s.slab > (ZiE s.breed s.camel).lo then 2 else 0,0,[]) else goG s x slabs l 0 s.camel []
theorem Zfq {lo hi:Int} {a b:Span} (ha:ZX lo hi a=true) (hb:ZX lo hi b=true):ZX lo hi (Zl5 a b)=true:=by
 simp only [ZX,decide_eq_true_eq] at ha hb;show decide (lo<=min a.lo b.lo/\min a.lo b.lo<=max a.hi b.hi/\max a.hi b.hi<=hi)=true;rw [decide_eq_true_eq];omega
theorem Zjr {b:Breed} {c:Camel} {m:March} (hb:ZD b=true) (hc:Zz b c=true) (he:(XJ b c m).2.2=0):Zz b (XJ b c m).1=true:=by
 unfold XJ at he ⊢;rw [if_neg (by rw [Go.Proofs.YtongccnhomncnaaGreat.Cm.errC_0.2 ⟨hb,hc⟩];simp)] at he ⊢;split
 . rename_i h;rw [if_pos h] at he;simp at he
 . rename_i h;rw [if_neg h] at he;split
   . rename_i h2;rw [if_pos h2] at he;simp at he
   . rename_i h2;exact Go.Azalai.after_ok hb hc (by simpa using h) h2
theorem ZcZ {b:Breed} (hb:ZD b=true):Zz b Xa=true:=by
 have:=Go.Proofs.YtongccnhomncnaaGreat.Cm.breed_bd hb;simp [Zz,Xa,ZX];omega
theorem ZdZ {b:Breed} {m:March} {lo:Int} (hb:ZD b=true):∀ {j n:Nat} {c out:Camel},Zz b c=true->Zz b out=true->Zz b (Zbz b m lo j n c out).1=true
 | 0,_,_,_,_,ho=>ho
 | j+1,n,c,out,hc,ho=>by
  simp only [Zbz];split
  . exact ZcZ hb
  split
  . exact ZcZ hb
  rename_i h1 h2;have ha:=Zjr (m:=m) hb hc (by omega);refine ZdZ hb ha ?_;split
  . exact ha
  split
  . simp only [Zz,Bool.and_eq_true] at ha ho ⊢;exact ⟨⟨Zfq ho.1.1 ha.1.1,Zfq ho.1.2 ha.1.2⟩,Zfq ho.2 ha.2⟩
  . exact ho
theorem Zex {s:Season} {x:Scene} {d:Span} {slabs:Int} {c:Camel} (hb:ZD s.breed=true) (hc:Zz s.breed c=true):Zz s.breed (Xz s x d slabs c).1=true:=ZdZ hb hc (ZcZ hb)
theorem Zc8 {b:Breed} {c:Camel} (hb:ZD b=true) (hc:Zz b c=true):Zz b (ZdF b c)=true:=by
 have:=Go.Proofs.YtongccnhomncnaaGreat.Cm.breed_bd hb;simp only [Zz,ZdF,Bool.and_eq_true] at hc ⊢;exact ⟨⟨by simp only [ZX,decide_eq_true_eq];omega,hc.1.2⟩,hc.2⟩
theorem Zq9 {l:Land} {p:Span} {leg:Int} (hg:OkLP l p):(X7 l leg p).1.hi<=1000000000:=by
 unfold X7;split
 . simp
 split
 . simp
 split
 . rename_i x hx;have:=Go.Azalai.day_bd (hg.leg hx) hg.pace;simp only;omega
 . simp
theorem ZgO {b:Breed} {c:Camel} (hb:ZD b=true) (hc:Zz b c=true):0<=c.water.lo/\c.water.lo<=b.full/\1<=b.full/\b.full<=1000000:=by
 have h1:=Go.Proofs.YtongccnhomncnaaGreat.Cm.breed_bd hb;have h2:=Go.Proofs.YtongccnhomncnaaGreat.Cm.camel_bd hb hc;omega
end Go.Azalai
namespace Go.Proofs.YtongccnhomncnaaGreat
open Go Go.Sx Go.Azalai
theorem days_ok (s:Season) (h:OkS s) (leg:Int):Ct Tryz.prog 73 [.agg (Ye s.land),I leg,.agg (Ze s.pace)] (sres (X7 s.land leg s.pace)):=Zgg s.land h.small.land leg s.pace
end Go.Proofs.YtongccnhomncnaaGreat
namespace Go.Azalai
open Go.Sx
def Zcd (n:Int):List (Int × Int)->Nat->Option Nat
 | [],_=>none
 | p :: r,i=>if n * p.1 > p.2 then some i else Zcd n r (i+1)
def Zce (n:Int) (g:Int × Int × List (Int × Int)):Int × Int :=
 match Zcd n g.2.2 0 with
 | some i=>(4,i)
 | none=>(g.1,g.2.1)
def WU (s:Season) (p:Plan) (x:Scene):Int × Int :=
 if US s p.legs=false then (1,0) else if p.animals=0 then (0,0) else Zce p.animals (goF s x p.slabs (Yp s p.legs))
def Vf (s:Season) (p:Plan):List Scene->Nat->Int × Int × Int × Int
 | [],_=>(0,0,0,0)
 | x :: r,i=>if (WU s p x).1≠0 then ((WU s p x).1,i,(WU s p x).2,0) else Vf s p r (i+1)
def YX (s:Season) (p:Plan):Int × Int × Int × Int :=
 if ZB s=false then (0,0,0,90) else if XB s p=false then (0,0,0,91) else Vf s p s.scenes 0
theorem ZmB {s:Season} {x:Scene} {slabs:Int} (hb:ZD s.breed=true):∀ {l:List Stop} {i:Nat} {c:Camel} {acc:List (Int × Int)},Zz s.breed c=true->(∀ q ∈ acc,0<=q.1/\q.1<=1000000) ->
 (∀ q ∈ (goG s x slabs l i c acc).2.2,0<=q.1/\q.1<=1000000)/\(goG s x slabs l i c acc).2.2.length<=acc.length+l.length
 | [],_,_,acc,_,ha=>⟨ha,by simp [goG]⟩
 | st :: r,i,c,acc,hc,ha=>by
  simp only [goG];split
  . exact ⟨ha,by simp only;omega⟩
  have hbo:=Zex (x:=x) (d:=(X7 s.land st.leg s.pace).1) (slabs:=slabs) hb hc;have hw:=ZgO hb hbo;split
  . obtain ⟨h1,h2⟩:=ZmB (s:=s) (x:=x) (slabs:=slabs) hb (l:=r) (i:=i+1) (acc:=acc) (Zc8 hb hbo) ha;exact ⟨h1,by simp only [List.length_cons];omega⟩
  . obtain ⟨h1,h2⟩:=ZmB (s:=s) (x:=x) (slabs:=slabs) hb (l:=r) (i:=i+1) (acc:=acc ++ [(s.breed.full - (Xz s x (X7 s.land st.leg s.pace).1 slabs c).1.water.lo,ZcE s x st)]) (Zc8 hb hbo) (λq hq=>by
     rcases List.mem_append.1 hq with hq | hq
     . exact ha q hq
     . simp only [List.mem_singleton] at hq;subst hq;simp only;omega)
    exact ⟨h1,by simp only [List.length_cons,List.length_append,List.length_nil] at h2 ⊢;omega⟩
theorem ZAN {s:Season} {x:Scene} {slabs:Int} {l:List Stop} (hb:ZD s.breed=true) (hc:Zz s.breed s.camel=true):(∀ q ∈ (goF s x slabs l).2.2,0<=q.1/\q.1<=1000000)/\(goF s x slabs l).2.2.length<=l.length:=by
 unfold goF;split
 . simp
 . obtain ⟨h1,h2⟩:=ZmB (x:=x) (slabs:=slabs) hb (l:=l) (i:=0) (acc:=[]) hc (by simp);exact ⟨h1,by simpa using h2⟩
end Go.Azalai
namespace Go.Proofs.YtongccnhomncnaaGreat
open Go Go.Sx Go.Azalai
theorem Ul {s:Season} {p:Plan} (h:XB s p=true):(∃ v,YN s.land s.start [s.start] p.legs=some v)/\0<=p.animals/\p.animals<=s.herd/\0<=p.slabs/\p.slabs<=12:=by
 simp only [XB,inR,Bool.and_eq_true,decide_eq_true_eq,Option.isSome_iff_exists] at h;exact ⟨h.1.1,by omega⟩
def Zl7 (r:Int × Int × Int × Int):SV:=.tup [U8 r.1,I r.2.1,I r.2.2.1,I r.2.2.2]
end Go.Proofs.YtongccnhomncnaaGreat
namespace Go.Azalai
open Go.Sx
def Zbv (n:Int) (st:Stop) (p:Int × Int):Draw:=⟨st.well,st.arrives.lo,n * p.1⟩
def Vq (n:Int) (l:List Stop) (g:List (Int × Int)):List Draw:=List.zipWith (Zbv n) l g
def VA (s:Season) (x:Scene) (n slabs:Int) (l:List Stop):List Draw :=
 if l=[] then [] else if n=0 then l.dropLast.map λst=>⟨st.well,st.arrives.lo,0⟩ else Vq n l (goF s x slabs l).2.2
def ZhR (s:Season) (x:Scene) (n slabs:Int) (l:List Stop):Int × Int:=if n=0 then (0,0) else Zce n (goF s x slabs l)
theorem ZfL {s:Season} {x:Scene} {slabs:Int}:∀ {l:List Stop} {i:Nat} {c:Camel} {acc:List (Int × Int)},∃ more,(goG s x slabs l i c acc).2.2=acc ++ more
 | [],_,_,acc=>⟨[],by simp [goG]⟩
 | st :: r,i,c,acc=>by
  simp only [goG];split
  . exact ⟨[],by simp⟩
  split
  . exact ZfL
  . obtain ⟨m,hm⟩:=ZfL (s:=s) (x:=x) (slabs:=slabs) (l:=r) (i:=i+1) (c:=ZdF s.breed (Xz s x (X7 s.land st.leg s.pace).1 slabs c).1) (acc:=acc ++ [(s.breed.full - (Xz s x (X7 s.land st.leg s.pace).1 slabs c).1.water.lo,ZcE s x st)]);exact ⟨_,by rw [hm,List.append_assoc]⟩
theorem Zbg {n:Int}:∀ {a b:List (Int × Int)} {i:Nat},Zcd n a i=none->Zcd n (a ++ b) i=Zcd n b (i+a.length)
 | [],_,_,_=>by simp
 | p :: a,b,i,h=>by
  simp only [Zcd] at h;split at h
  . cases h
  rename_i hp;simp only [List.cons_append,Zcd];rw [if_neg hp,Zbg h,List.length_cons];congr 1;omega
theorem ZeZ {n:Int} {l:List Stop} {acc:List (Int × Int)} {p:Int × Int} {j:Nat} (hj:j < l.length) (ha:acc.length=j):Vq n l (acc ++ [p])=Vq n l acc ++ [Zbv n l[j] p]:=by
 simp only [Vq];subst ha;have h1:l=l.take acc.length ++ l.drop acc.length:=(List.take_append_drop ..).symm;have hlen:(l.take acc.length).length=acc.length:=by simp;omega
 have e1:List.zipWith (Zbv n) l (acc ++ [p])=List.zipWith (Zbv n) (l.take acc.length) acc ++ List.zipWith (Zbv n) (l.drop acc.length) [p]:=by
  rw [<- List.zipWith_append hlen,<- h1]
 have e2:List.zipWith (Zbv n) l acc=List.zipWith (Zbv n) (l.take acc.length) acc:=by
  have:=List.zipWith_append (f:=Zbv n) (l₁:=l.take acc.length) (l₁':=l.drop acc.length) (l₂:=acc) (l₂':=[]) hlen;rw [<- h1] at this;simpa using this
 rw [e1,e2,List.drop_eq_getElem_cons hj];simp only [List.zipWith_cons_cons,List.zipWith_nil_right]
end Go.Azalai
namespace Go.Proofs.YtongccnhomncnaaGreat
open Go Go.Sx Go.Azalai
def Zz1 (s:Season) (k:Int) (l:List Stop) (slabs:Int):Ot:=⟨false,.cl 161 [.p 0 0,.p 1 0,.p 2 0],[(0,.cells (Yv s k) 114),(1,.cells [.sl false 6 (l.map ZZ)] 178),(2,.cells [I slabs] 3)],3⟩
theorem ZfH (s:Season) (k:Int) (l:List Stop) (slabs:Int):CtM Tryz.prog 127 [] 0 [.agg (Yv s k),.sl false 6 (l.map ZZ),I slabs] (λo=>o=Zz1 s k l slabs):=by
 refine m127 (by simp [hpb]) (λo ho=>by subst ho;simp [Zz1,Yv,KX,KXL,KXP,KXH,Za,KFL,KF,Zh,Zn,Zi,Zl,Ze,Zq,ZZ]) ?_;dsimp only [c127,r127,go_sem];refine ⟨_,rfl,?_⟩;(refine ZT ?_ ?_ ?_ rfl<;>dsimp only [Zz1,Yv,Zh,Zn,Zi,Zl,Ze,Zq,ZZ,id,go_sem]<;>simp [Zz1,Yv,Zh,Zn,Zi,Zl,Ze,Zq,ZZ,Za])
def V3 (w:Int × Int) (ds:List Draw):Ot:=if w.1=0 then ⟨false,.sl false 3 (ds.map Ym),[],0⟩ else XG w.1 w.2
theorem ZpG (s:Season) (h:OkS s) (k:Nat) (hk:k < s.scenes.length) (l:List Stop) (hl:l.length<=1000) (n slabs:Int) (hn:0<=n/\n<=s.herd) (hsl:0<=slabs/\slabs<=12) :
 CtM Tryz.prog 83 [] 0 [.agg (Yv s k),.sl false 6 (l.map ZZ),I n,I slabs] (λo=>o=V3 (ZhR s s.scenes[k] n slabs l) (VA s s.scenes[k] n slabs l)):=by
 have hnum:=h.num;have hx:=h.scene _ (List.getElem_mem hk);have hy:s.scenes[k].yields.length=s.land.wells.length:=by simp only [Yz,Bool.and_eq_true,decide_eq_true_eq] at hx;omega
 have hb:0<=slabs * s.slab/\slabs * s.slab<=12 * 1000000:=⟨Int.mul_nonneg hsl.1 (by omega),Int.mul_le_mul hsl.2 (by omega) (by omega) (by decide)⟩
 refine m83 (by simp [hpb]) (λo ho=>by subst ho;unfold V3;split<;>simp [XG,KX,KXL,KXP,Za,KFL,KF,Ym]) ?_;dsimp only [c83,r83,Yv,go_sem];simp only [List.length_map];by_cases hl0:l=[]
 . subst hl0;refine Zr (by simp) ?_;dsimp only [go_sem];refine call (Cm.carries_ok s.breed s.camel) ?_;dsimp only [Cm.sres,Ze,go_sem];rw [show (if Zav s.breed s.camel=0 then Zzr s.breed s.camel else ZaC)=ZiE s.breed s.camel from rfl];repeat (refine gb ?_;dsimp only [go_sem])
   rw [Zg (n:=slabs * s.slab) (by omega) (by omega)];by_cases hok:n=0\/slabs * s.slab<=(ZiE s.breed s.camel).lo
   . rw [show (n == 0 || decide (slabs * s.slab<=(ZiE s.breed s.camel).lo))=true from by simpa using hok];refine Yd [] (Uy 2 0) rfl rfl rfl ?_ ?_ ?_
     . (repeat first | dsimp only [go_sem] | simp only [nbr])
       try simp [mtL,mtB,mtS]
     . trivial
     rintro _ rfl
     (repeat first | dsimp only [go_sem] | simp only [nbr])
     refine ⟨_,rfl,?_⟩;have hw:ZhR s s.scenes[k] n slabs []=(0,0):=by
      unfold ZhR;split
      . rfl
      . rw [goF,if_pos rfl,if_neg (by omega)];rfl
     rw [hw];simp only [V3,if_true,VA,List.map_nil];refine Ub (YI (Xn 0 3 145 rfl rfl) (YI (Zdl 0 4 0 rfl rfl rfl rfl) ?_)) (λ_ _ _ e=>by cases e);(refine Zj ?_ ?_ ?_ rfl rfl<;>dsimp only [id,go_sem]<;>simp [Za])
   . rw [show (n == 0 || decide (slabs * s.slab<=(ZiE s.breed s.camel).lo))=false from by simpa using hok];refine Yd [] (ZbK 2 0) rfl rfl rfl ?_ ?_ ?_
     . (repeat first | dsimp only [go_sem] | simp only [nbr])
       try simp [mtL,mtB,mtS]
     . trivial
     rintro _ rfl
     (repeat first | dsimp only [XG,go_sem] | simp only [nbr])
     refine ⟨_,rfl,?_⟩;have hw:ZhR s s.scenes[k] n slabs []=(2,0):=by
      unfold ZhR;rw [if_neg (by omega),goF,if_pos rfl,if_pos (by omega)];rfl
     rw [hw];simp only [V3];(refine ZT ?_ ?_ ?_ rfl<;>dsimp only [XG,id,go_sem]<;>simp [XG,Za])
 have hl1:l.length≠0:=λe=>hl0 (List.length_eq_zero_iff.1 e);refine Zo (by simpa using hl0) ?_;dsimp only [go_sem];by_cases hn0:n=0
 . refine Zr (by simpa using hn0) ?_;dsimp only [go_sem];simp only [List.length_map];refine ⟨0,l.length - 1,⟨rfl,by rw [Zg (by omega) (by omega)];omega,by omega,by simp⟩,?_⟩;rw [List.drop_zero,show (l.map ZZ).take (l.length - 1)=l.dropLast.map ZZ from by rw [List.dropLast_eq_take,List.map_take]];dsimp only [go_sem];simp only [List.length_map];have hwF:ZhR s s.scenes[k] n slabs l=(0,0):=by simp only [ZhR,if_pos hn0]
   have hdF:VA s s.scenes[k] n slabs l=l.dropLast.map λst=>⟨st.well,st.arrives.lo,0⟩:=by simp only [VA,if_neg hl0,if_pos hn0]
   have hdl:l.dropLast.length<=1000:=by simp;omega
   rw [hwF,hdF];generalize l.dropLast=m at hdl ⊢;refine Zfa (YI (ZaW [4,5,6,8,11,49,50,51] rfl) (W9 3 0 3 145 rfl rfl)) (λq:Nat × Nat × List Draw=>[(51,I q.1)])
    (λq=>[(3,.cells [.mr 4 q.2.1] 109),(4,.row q.2.1 3 (q.2.2.map Ym) 145)]) (λq=>q.1<=m.length/\q.2.2=(m.map λst=>(⟨st.well,st.arrives.lo,0⟩:Draw)).take q.1) (λq=>m.length - q.1) (0,0,[]) ⟨Nat.zero_le _,by simp⟩ ?_ ?_
   . (refine Zj ?_ ?_ ?_ rfl rfl<;>dsimp only [Yv,Zh,Zn,Zi,Zl,Ze,Zq,ZZ,Ym,id,go_sem]<;>simp [Yv,Zh,Zn,Zi,Zl,Ze,Zq,ZZ,Ym,Za])
   rintro ⟨j,v,D⟩ ⟨hj,hD⟩;simp only at hj hD;dsimp only [go_sem];by_cases hlt:j < m.length
   . refine Zr (by simpa using hlt) ?_;dsimp only [go_sem];refine Zp j hlt rfl ?_;dsimp only [ZZ,go_sem];simp only [nbr];dsimp only [go_sem];refine ⟨(by intro c hc;simp only [List.mem_singleton] at hc;subst hc;rfl),by simp [hD];omega,?_⟩;dsimp only [go_sem];rw [Zg (n:=(j:Int)+1) (by omega) (by omega)];refine ⟨(j+1,v+1,D ++ [⟨m[j].well,m[j].arrives.lo,0⟩]),⟨hlt,?_⟩,by simp only;omega,?_⟩
     . simp only;rw [List.take_succ_eq_append_getElem (by simpa using hlt),<- hD,List.getElem_map]
     simp only [List.map_append,List.map_cons,List.map_nil];(refine Zj ?_ ?_ ?_ rfl rfl<;>dsimp only [Yv,Zh,Zn,Zi,Zl,Ze,Zq,ZZ,Ym,id,go_sem]<;>simp [Yv,Zh,Zn,Zi,Zl,Ze,Zq,ZZ,Ym,Za])
   refine Zo (by simp;omega) ?_;dsimp only [go_sem];rw [List.take_of_length_le (by simp;omega)] at hD;rw [<- hD];refine ⟨_,rfl,?_⟩;simp only [V3,if_true];refine Ub (YI (Zdl 0 4 v rfl rfl rfl rfl) ?_) (λ_ _ _ e=>by cases e);(refine Zj ?_ ?_ ?_ rfl rfl<;>dsimp only [Ym,id,go_sem]<;>simp [Ym,Za])
 refine Zo (by simpa using hn0) ?_;dsimp only [go_sem];refine Zan [] (ZfH s k l slabs) rfl rfl rfl ?_ ?_ ?_
 . exact Zc (by simp [Yv,Zh,Zn,Zi,Zl,Ze,Zq,ZZ,Za])
 . trivial
 dsimp only [Zz1,Yv,go_sem];refine gh (W9 3 0 3 145 rfl rfl) ?_;dsimp only [go_sem];refine ⟨b161,λrec=>?_⟩;refine y161 ?_;dsimp only [c161,r161,go_sem];have hgF:goF s s.scenes[k] slabs l=goG s s.scenes[k] slabs l 0 s.camel []:=by simp only [goF,if_neg hl0]
 have hgs:∀ (j n:Nat) (hj:j < l.length) c acc,goG s s.scenes[k] slabs (l.drop j) n c acc=if (Xz s s.scenes[k] (X7 s.land l[j].leg s.pace).1 slabs c).2≠0 then ((Xz s s.scenes[k] (X7 s.land l[j].leg s.pace).1 slabs c).2,(n:Int),acc)
  else goG s s.scenes[k] slabs (l.drop (j+1)) (n+1) (ZdF s.breed (Xz s s.scenes[k] (X7 s.land l[j].leg s.pace).1 slabs c).1)
   (if l.drop (j+1)=[] then acc else acc ++ [(s.breed.full - (Xz s s.scenes[k] (X7 s.land l[j].leg s.pace).1 slabs c).1.water.lo,ZcE s s.scenes[k] l[j])]):=λj n hj c acc=>by
  rw [List.drop_eq_getElem_cons hj,goG]
 have hwF:ZhR s s.scenes[k] n slabs l=Zce n (goF s s.scenes[k] slabs l):=by simp only [ZhR,if_neg hn0]
 have hdF:VA s s.scenes[k] n slabs l=Vq n l (goF s s.scenes[k] slabs l).2.2:=by simp only [VA,if_neg hl0,if_neg hn0]
 rw [hwF,hdF];refine UD [0,1,2,3,5,13,14,15] rfl (λq:Nat × Camel × List (Int × Int) × Nat=>[(15,I q.1)])
  (λq=>[(9,.cells (Cm.camelL q.2.1) 31),(3,.cells [.mr 7 q.2.2.2] 109),(7,.row q.2.2.2 3 ((Vq n l q.2.2.1).map Ym) 145)])
  (λq=>q.1 < l.length/\goG s s.scenes[k] slabs (l.drop q.1) q.1 q.2.1 q.2.2.1=goF s s.scenes[k] slabs l/\Zz s.breed q.2.1=true/\Zcd n q.2.2.1 0=none/\q.2.2.1.length=q.1) (λq=>l.length - q.1) (0,s.camel,[],0)
  ⟨by simp only;omega,hgF.symm,h.beast.2,rfl,rfl⟩ ?_ ?_
 . (refine Zj ?_ ?_ ?_ rfl rfl<;>dsimp only [Cm.camelL,Vq,Yv,Zh,Zn,Zi,Zl,Ze,Zq,ZZ,Ym,mtL,mtB,mtS,id,go_sem]<;>simp [Cm.camelL,Vq,Yv,Zh,Zn,Zi,Zl,Ze,Zq,ZZ,Ym,mtL,mtB,mtS,Za])
 rintro ⟨j,c,acc,v⟩ ⟨hlt,hi,hc,hdry,hal⟩;simp only at hlt hi hc hdry hal;dsimp only [Cm.camelL,go_sem];simp only [List.length_map];refine Zr (by simpa using hlt) ?_;dsimp only [go_sem];refine Zp j hlt rfl ?_;dsimp only [ZZ,go_sem];refine call (days_ok s h l[j].leg) ?_;dsimp only [sres,Ze,go_sem];have hm:=Zo0 s k hk j c (X7 s.land l[j].leg s.pace).1 slabs hsl (by omega) (Zq9 h.lp);rw [hgs j j hlt] at hi
 have hbo:=Zex (x:=s.scenes[k]) (d:=(X7 s.land l[j].leg s.pace).1) (slabs:=slabs) h.beast.1 hc;generalize Xz s s.scenes[k] (X7 s.land l[j].leg s.pace).1 slabs c=b at hi hbo hm;have hwb:=ZgO h.beast.1 hbo;by_cases hw:b.2=0
 case neg =>
  simp only [Zbf,if_neg hw] at hm;refine Yd [] hm rfl rfl rfl ?_ ?_ ?_
  . exact Zc (by simp [Yv,Cm.camelL,Zh,Zn,Zi,Zl,Ze,Zq,ZZ,Za,KFL,KF])
  . trivial
  rintro _ rfl
  (repeat first | dsimp only [XG,go_sem] | simp only [nbr])
  rw [if_pos hw] at hi;rw [<- hi];refine ⟨_,rfl,?_⟩;rw [show Zce n (b.2,(j:Int),acc)=(b.2,(j:Int)) from by simp only [Zce,hdry]];simp only [V3,if_neg hw];(refine ZT ?_ ?_ ?_ rfl<;>dsimp only [XG,id,go_sem]<;>simp [XG,Za])
 simp only [Zbf,if_pos hw] at hm;refine Yd [] hm rfl rfl rfl ?_ ?_ ?_
 . exact Zc (by simp [Yv,Cm.camelL,Zh,Zn,Zi,Zl,Ze,Zq,ZZ,Za,KFL,KF])
 . trivial
 rintro _ rfl
 (repeat first | dsimp only [camelL,Cm.camelL,go_sem] | simp only [nbr])
 rw [if_neg (by simpa using hw)] at hi;refine ⟨trivial,trivial,?_⟩;rw [Zg (n:=(j:Int)+1) (by omega) (by omega)];simp only [List.length_map];by_cases hlast:j+1=l.length
 . refine Zr (by simp;omega) ?_;dsimp only [go_sem];refine ⟨by trivial,?_⟩;refine Zr rfl ?_;dsimp only [go_sem];rw [if_pos (List.drop_eq_nil_of_le (by omega)),List.drop_eq_nil_of_le (by omega),goG] at hi;rw [<- hi];refine ⟨_,rfl,?_⟩;rw [show Zce n (0,0,acc)=(0,0) from by simp only [Zce,hdry]];simp only [V3,if_true];refine Ub (YI (Zdl 0 7 v rfl rfl rfl rfl) ?_) (λ_ _ _ e=>by cases e);(refine Zj ?_ ?_ ?_ rfl rfl<;>dsimp only [Ym,id,go_sem]<;>simp [Ym,Za])
 refine Zo (by simp;omega) ?_;dsimp only [go_sem];rw [if_neg (by intro e;rw [List.drop_eq_nil_iff] at e;omega)] at hi;refine Zp j hlt rfl ?_;dsimp only [ZZ,go_sem];refine Zp j hlt rfl ?_;dsimp only [ZZ,go_sem];have hm2:0<=n * (s.breed.full - b.1.water.lo)/\n * (s.breed.full - b.1.water.lo)<=30 * 1000000:=⟨Int.mul_nonneg hn.1 (by omega),Int.mul_le_mul (by omega) (by omega) (by omega) (by decide)⟩
 rw [Zg (n:=s.breed.full - b.1.water.lo) (by omega) (by omega),Zg (n:=n * (s.breed.full - b.1.water.lo)) (by omega) (by omega)];refine Zp j hlt rfl ?_;dsimp only [ZZ,go_sem];refine call (Ztb s h.small k hk hy l[j]) ?_;dsimp only [go_sem];by_cases hdr:n * (s.breed.full - b.1.water.lo)<=ZcE s s.scenes[k] l[j]
 case neg =>
  rw [show decide (n * (s.breed.full - b.1.water.lo)<=ZcE s s.scenes[k] l[j])=false from decide_eq_false hdr];refine Yd [] (ZbK 4 j) rfl rfl rfl ?_ ?_ ?_
  . (repeat first | dsimp only [go_sem] | simp only [nbr])
    try simp [mtL,mtB,mtS]
  . trivial
  rintro _ rfl
  (repeat first | dsimp only [XG,go_sem] | simp only [nbr])
  refine ⟨_,rfl,?_⟩;obtain ⟨more,hmore⟩:=ZfL (s:=s) (x:=s.scenes[k]) (slabs:=slabs) (l:=l.drop (j+1)) (i:=j+1) (c:=ZdF s.breed b.1) (acc:=acc ++ [(s.breed.full - b.1.water.lo,ZcE s s.scenes[k] l[j])]);have hf:Zce n (goF s s.scenes[k] slabs l)=(4,(j:Int)):=by
   rw [<- hi];simp only [Zce];rw [hmore,List.append_assoc,Zbg hdry,hal];simp only [List.cons_append,List.nil_append,Zcd];rw [if_pos (by omega)];simp
  rw [hf];simp only [V3];(refine ZT ?_ ?_ ?_ rfl<;>dsimp only [XG,id,go_sem]<;>simp [XG,Za])
 rw [show decide (n * (s.breed.full - b.1.water.lo)<=ZcE s s.scenes[k] l[j])=true from decide_eq_true hdr];refine Yd [] (Uy 4 j) rfl rfl rfl ?_ ?_ ?_
 . (repeat first | dsimp only [go_sem] | simp only [nbr])
   try simp [mtL,mtB,mtS]
 . trivial
 rintro _ rfl
 (repeat first | dsimp only [go_sem] | simp only [nbr])
 refine ⟨(by intro c hc;simp only [List.mem_singleton] at hc;subst hc;rfl),by simp [Vq];omega,?_⟩;dsimp only [go_sem];refine ⟨by trivial,?_⟩;refine Zo rfl ?_;dsimp only [go_sem];rw [Zg (n:=(j:Int)+1) (by omega) (by omega)];refine ⟨(j+1,ZdF s.breed b.1,acc ++ [(s.breed.full - b.1.water.lo,ZcE s s.scenes[k] l[j])],v+1),⟨by simp only;omega,hi,Zc8 h.beast.1 hbo,?_,by simp;omega⟩,by simp only;omega,?_⟩
 . simp only;rw [Zbg hdry];simp only [Zcd];rw [if_neg (by omega)]
 simp only;rw [ZeZ hlt hal];simp only [List.map_append,List.map_cons,List.map_nil];(refine Zj ?_ ?_ ?_ rfl rfl<;>dsimp only [Cm.camelL,ZdF,Zbv,Yv,Zh,Zn,Zi,Zl,Ze,Zq,ZZ,Ym,mtL,mtB,mtS,id,go_sem]<;>simp [Cm.camelL,ZdF,Zbv,Yv,Zh,Zn,Zi,Zl,Ze,Zq,ZZ,Ym,mtL,mtB,mtS,Za])
def ZB0:List Ins:=[
 m1 2 5]
def ZBH:SC:=(sr1 [m1 6 2,o1 7 (.raw (Go.Op.binOp Go.BinOp.neq 20 (Go.Operand.tmp 6) (Go.Operand.const Go.Value.nilIface) 20) 4)] (Ji 7 (sr1 [m1 9 2,o1 10 (.raw (Go.Op.typeAssert (Go.Operand.tmp 9) 20 111 Bool.true) 177),m1 8 10,o1 11 (Je 8 0),o1 12
 (Je 8 1),o1 3 (.alloc Zwo 111),Js 3 11 2,m1 4 12] (.seq (sr1 [m1 13 4,o1 14 (Jh 13)] (Ji 14 (.reg [m1 15 2,⟨none,.raw (Go.Op.panic (Go.Operand.tmp 15)) 0,none,[]⟩]) .skip)) (.regd [0,1,2] [.hide (.t 0),Jo 16 (lt 3 2)] 0 2 [Jv 0 (.c (.slice none 0 0))
 1,Ju 1 16 2 [0,1]]))) .skip))
theorem qw80:RcF Tryz.prog 80 5 ZB0 ZBH 17:=⟨⟨Tryz.f80,_,_,_,_,Tryz.func80,rfl,rfl,by kernel_rfl,by kernel_rfl,by kernel_rfl,by kernel_rfl,by decide,rfl⟩,by kernel_rfl⟩
def cw16:SC:=(sr1 [o1 2 (Jz 0 0 34),o1 3 (Jz 1 0 37),o1 4 (.mv (.c (.int .u8 0))),Jk 5 0,Jk 6 0,Jk 7 0] (.seq (sr1 [o1 12 (lt 2 37),o1 13 (lt 3 3),o1 14 (J2 44 12 13),m1 8 14] (sr1 [m1 15 8,o1 16 (Jc .neq 15 0)] (Ji 16 (sr1 [m1 17 8,o1 4 (.mv (.c
 (.int .u8 0))),Jk 5 0,Jk 6 0,m1 7 17] .ret) .skip))) (.seq (sr1 [o1 18 (ao 2 36),o1 19 (lf 18 1),o1 20 (Jl 19),Jk 21 0] (.block 0 (.loop (sr1 [o1 22 (Jb .lss 21 20)] (.seq (Ji 22 .skip (.exit 0)) (.seq (.block 1 (sr1 [m1 23 21,m1 9 23] (sr1 [o1 25
 (lt 2 37),m1 26 9,o1 27 (.build zv2 [(0,37,.t 25),(37,1,.t 26)]),o1 28 (lt 3 3),o1 29 (.callm 45 [.t 27,.t 28]),m1 24 29,o1 30 (Je 24 0),o1 31 (Je 24 1),o1 11 (.alloc Zwo 111),m1 10 30,Js 11 31 2] (sr1 [o1 32 (ao 11 0),o1 33 (lf 32 1),o1 34 (.bin
 .neq (.t 33) (.c (.int .u8 0)))] (Ji 34 (.seq (.regd (Jr 9) [Jo 35 (ao 11 0),Jp 36 (lf 35 1) [0],Jm 37 9,Jo 38 (ao 11 1),Jp 39 (lf 38 1) [3],Jp 4 (.mv (.t 36)) [0,1],Jp 5 (.mv (.t 37)) [0,1,2,5],Jp 6 (.mv (.t 39)) (Jr 7),Jp 7 (.mv (cn 0)) (Jr 8)] 0 0
 []) .ret) .skip))))) (.reg [o1 40 (Jc .add 21 1),m1 21 40]))))))) (sr1 [o1 4 (.mv (.c (.int .u8 0))),Jk 5 0,Jk 6 0,Jk 7 0] .ret))))
def rw16:List RV:=[.tmp 4,.tmp 5,.tmp 6,.tmp 7]
theorem tw16:Qt1 Tryz.prog 16 cw16 rw16 41:=ZH Tryz.func16
def cw30:SC:=(sr1 [o1 3 (Jz 0 0 34),Jk 6 0] (sr1 [o1 14 (ao 3 28),o1 15 (lf 14 1),m1 7 15] (.seq (sr1 [o1 16 (ao 3 36),o1 17 (lf 16 1),o1 18 (Jl 17),Jk 19 0] (.block 0 (.loop (sr1 [o1 20 (Jb .lss 19 18)] (.seq (Ji 20 .skip (.exit 0)) (.seq (.block 1
 (sr1 [m1 21 19,m1 8 21] (sr1 [o1 22 (lt 3 37),m1 23 8,o1 24 (.build zv2 [(0,37,.t 22),(37,1,.t 23)]),o1 9 (.alloc zv2 114),Js 9 24 38] (sr1 [o1 26 (lt 9 38),m1 27 1,m1 28 2,o1 29 (.build ZqB [(0,1,.t 27),(1,1,.c (.int .i64 1)),(2,1,.t 28)]),o1 30
 (.callm 45 [.t 26,.t 29]),m1 25 30,o1 31 (Je 25 0),o1 32 (Je 25 1),o1 11 (.alloc Zwo 111),m1 10 31,Js 11 32 2] (.seq (sr1 [o1 33 (ao 11 0),o1 34 (lf 33 1),o1 35 (.bin .neq (.t 34) (.c (.int .u8 0)))] (Ji 35 (sr1 [Jk 6 0] .ret) .skip)) (sr1 [m1 36
 10,o1 37 (Jl 36),Jk 38 0] (.block 2 (.loop (sr1 [o1 39 (Jb .lss 38 37)] (.seq (Ji 39 .skip (.exit 2)) (.seq (.block 3 (sr1 [o1 40 (Jx 36 38 3),o1 41 (lt 40 3),o1 13 (.alloc zv4 145),Js 13 41 3] (sr1 [o1 42 (ao 13 2),o1 43 (lf 42 1),o1 44 (Jc .gtr 43
 0)] (Ji 44 (.regd (Jr 14) [Jm 45 7,Jo 46 (lt 9 38),Jo 47 (ao 13 0),Jp 48 (lf 47 1) [2],Jo 49 (ao 13 1),Jp 50 (lf 49 1) [4],Jp 51 (.build zv0 [(0,1,.t 50)]) [5],Jp 52 (.build ZqK [(1,1,.t 48),(4,2,.t 51)]) [3,6],Jp 53 (J2 63 46 52) [1,7],Jo 54 (ao 13
 2),Jp 55 (lf 54 1) [9],Jp 56 (.div .quo (.t 53) (.t 55)) [8,10],Jp 57 (.mm false [.t 45,.t 56]) [0,11]] 0 0 [⟨some 7,.mv (.t 57),none,(Jr 13)⟩]) .skip)))) (.reg [o1 58 (Jc .add 38 1),m1 38 58])))))))))))) (.reg [o1 59 (Jc .add 19 1),m1 19 59])))))))
 (sr1 [m1 60 7,m1 6 60] .ret))))
def rw30:List RV:=[.tmp 6]
theorem tw30:Qt1 Tryz.prog 30 cw30 rw30 61:=ZH Tryz.func30
end Go.Proofs.YtongccnhomncnaaGreat
namespace Go.Sx
open Go Go.RowKit
section
variable {P:Program} {ty T T':TypeId} {ix jx:Operand} {σ : St} {r:KT} {K:RK} {d:Option Nat} {s:SV}
theorem Zf2 {pt:TypeId} (hu:P.underlying T'=some (.interface (P.methodsAt T'))) (hi:Ug σ ix = .ifc T s) (h:Yq d (.v (.bool true)) none σ r K):RAW P d (.binOp .neq T' ix (.const .nilIface) pt) ty σ r K:=by
 intro o C E a w next Q e1 e2 e3 hS hn hq;have hiv:=XO hS hi (λ_ _ _=>by simp);simp only [R] at hiv;obtain ⟨x,hx,hR⟩:=hiv;have hb:=run_neq_held_nil (P:=P) w T' T x hu;have hy:(execOp a.eval o).run P w = .ok (.value (.bool true)) w:=by
  obtain ⟨dst',op',ty',pos,after,guard⟩:=o;simp only at e2;subst e2;have h0:a.eval (.const .nilIface) = .nilIface:=rfl;have hg:(eqGuard .neq T' ix (.const .nilIface) (.iface T x) .nilIface).run P w = .ok () w:=by
   simp [eqGuard,Sem.run_pure]
  simp only [execOp,Sem.run_bind,hx,h0,hg,hb,Result.andThen_ok,Sem.run_pure]
 refine Zy hy (by simp) ?_;show next (a.put o.dst _) _;rw [e1];exact XF h hS (by simp only [R]) hn
theorem Zk6 {pt:TypeId} (hu:P.underlying T'=some (.interface (P.methodsAt T'))) (hi:Ug σ ix = .v .nilIface) (h:Yq d (.v (.bool false)) none σ r K):RAW P d (.binOp .neq T' ix (.const .nilIface) pt) ty σ r K:=by
 intro o C E a w next Q e1 e2 e3 hS hn hq;have hx:=XO hS hi (λ_ _ _=>by simp);simp only [R] at hx;have hb:=run_neq_nil_nil (P:=P) w T' hu;have hy:(execOp a.eval o).run P w = .ok (.value (.bool false)) w:=by
  obtain ⟨dst',op',ty',pos,after,guard⟩:=o;simp only at e2;subst e2;have h0:a.eval (.const .nilIface) = .nilIface:=rfl;have hg:(eqGuard .neq T' ix (.const .nilIface) .nilIface .nilIface).run P w = .ok () w:=by
   simp [eqGuard,Sem.run_pure]
  simp only [execOp,Sem.run_bind,hx,h0,hg,hb,Result.andThen_ok,Sem.run_pure]
 refine Zy hy (by simp) ?_;show next (a.put o.dst _) _;rw [e1];exact XF h hS (by simp only [R]) hn
end
end Go.Sx
namespace Go.Proofs.YtongccnhomncnaaGreat
open Go Go.Sx Go.Azalai
theorem Zzz {s:Season} {x:Scene} {slabs:Int}:∀ {l:List Stop} {i:Nat} {c:Camel} {acc:List (Int × Int)},(goG s x slabs l i c acc).1=0->((goG s x slabs l i c acc).1,(goG s x slabs l i c acc).2.1)=(0,0)
 | [],_,_,acc,_=>by simp [goG]
 | st :: r,i,c,acc,h=>by
  simp only [goG] at h ⊢;split
  . rename_i hb;rw [if_pos hb] at h;exact absurd h hb
  . rename_i hb;rw [if_neg hb] at h;exact Zzz h
theorem goF_z {s:Season} {x:Scene} {slabs:Int} {l:List Stop} (h:(goF s x slabs l).1=0):((goF s x slabs l).1,(goF s x slabs l).2.1)=(0,0):=by
 unfold goF at h ⊢;split
 . rename_i hb;rw [if_pos hb] at h;simp only at h ⊢;rw [h]
 . rename_i hb;rw [if_neg hb] at h;exact Zzz h
theorem u20:Tryz.prog.underlying 20=some (.interface (Tryz.prog.methodsAt 20)):=by kernel_rfl
theorem Zei {s:Season} {p:Plan} {x:Scene}:WU s p x=if US s p.legs=false then (1,0) else ZhR s x p.animals p.slabs (Yp s p.legs):=by
 unfold WU ZhR;rfl
def Vo (s:Season) (p:Plan) (x:Scene):List Draw:=if (WU s p x).1=0 then VA s x p.animals p.slabs (Yp s p.legs) else []
def ZvZ (w:Int × Int) (ds:List Draw):Ot:=⟨false,.tup [.sl false 3 (ds.map Ym),.agg [U8 w.1,I w.2]],[],0⟩
theorem ZtA (s:Season) (h:OkS s) (k:Nat) (hk:k < s.scenes.length) (p:Plan) (hp:XB s p=true) (hg:p.legs.length<=1000) :
 CtM Tryz.prog 45 [] 0 [.agg (Yv s k),.agg (ZL p)] (λo=>o=ZvZ (WU s p s.scenes[k]) (Vo s p s.scenes[k])):=by
 have hnum:=h.num;obtain ⟨_,hpl⟩:=Ul hp;refine m45 (by simp [hpb]) (λo ho=>by subst ho;simp [ZvZ,KX,KXL,KXP,Za,KFL,KF,Ym]) ?_;dsimp only [c45,r45,Yv,ZL,go_sem];refine call (Zqt s h p.legs hg _) ?_;dsimp only [go_sem];by_cases hs:US s p.legs=true
 case neg =>
  rw [Bool.eq_false_iff.2 hs];refine Yd [] (ZbK 1 0) rfl rfl rfl ?_ ?_ ?_
  . (repeat first | dsimp only [go_sem] | simp only [nbr])
    try simp [mtL,mtB,mtS]
  . trivial
  rintro _ rfl
  (repeat first | dsimp only [XG,go_sem] | simp only [nbr])
  refine ⟨_,_,_,_,qw80,?_⟩;dsimp only [ZB0,ZBH,go_sem];refine ⟨rfl,?_⟩;refine Zf2 u20 rfl ?_;dsimp only [go_sem];refine Zr rfl ?_;dsimp only [go_sem];refine Zbn Zdb rfl ?_;dsimp only [go_sem];refine Zo rfl ?_;dsimp only [go_sem];refine ⟨_,rfl,?_⟩;have hF:WU s p s.scenes[k]=(1,0):=by rw [Zei,if_pos (Bool.eq_false_iff.2 hs)]
  rw [ZvZ,Vo,hF];refine Ub (YI (Zb3 (s':=.tup [.sl false 3 [],.agg [U8 1,I 0]]) 0 rfl (VG (ZN Xd Wd)) (λ_ _ _ h=>by cases h)) ?_) (λ_ _ _ e=>by cases e);(refine Zj ?_ ?_ ?_ rfl rfl<;>dsimp only [id,go_sem]<;>simp [Za])
 rw [hs];refine Yd [] (Uy 1 0) rfl rfl rfl ?_ ?_ ?_
 . (repeat first | dsimp only [go_sem] | simp only [nbr])
   try simp [mtL,mtB,mtS]
 . trivial
 rintro _ rfl
 (repeat first | dsimp only [go_sem] | simp only [nbr])
 have hF:WU s p s.scenes[k]=ZhR s s.scenes[k] p.animals p.slabs (Yp s p.legs):=by rw [Zei,if_neg (by simp [hs])]
 have hd:=ZpG s h k hk (Yp s p.legs) (Nat.le_trans Zbu hg) p.animals p.slabs ⟨hpl.1,hpl.2.1⟩ hpl.2.2;rw [<- hF] at hd;have hT:Vo s p s.scenes[k]=if (WU s p s.scenes[k]).1=0 then VA s s.scenes[k] p.animals p.slabs (Yp s p.legs) else []:=rfl
 rw [hT];have hz:(WU s p s.scenes[k]).1=0->WU s p s.scenes[k]=(0,0):=λh0=>by
  rw [hF] at h0 ⊢
  revert h0
  unfold ZhR;split
  . intro _;rfl
  . unfold Zce;split
    . intro h1;simp at h1
    . intro h1;exact goF_z h1
 generalize WU s p s.scenes[k]=w at hd hz ⊢;generalize VA s s.scenes[k] p.animals p.slabs (Yp s p.legs)=D at hd ⊢;by_cases hw:w.1=0
 . simp only [V3,if_pos hw] at hd;refine Yd [] hd rfl rfl rfl ?_ ?_ ?_
   . exact Zc (by simp [Yv,Zh,Zn,Zi,Zl,Ze,Zq,ZZ,Za])
   . trivial
   rintro _ rfl
   (repeat first | dsimp only [go_sem] | simp only [nbr])
   refine ⟨_,_,_,_,qw80,?_⟩;dsimp only [ZB0,ZBH,go_sem];refine ⟨rfl,?_⟩;refine Zk6 u20 rfl ?_;dsimp only [go_sem];refine Zo rfl ?_;dsimp only [go_sem];refine ⟨_,rfl,?_⟩;rw [hz hw];simp only [ZvZ,if_true];(refine ZT ?_ ?_ ?_ rfl<;>dsimp only [Ym,id,go_sem]<;>simp [Ym,Za])
 simp only [V3,if_neg hw] at hd;refine Yd [] hd rfl rfl rfl ?_ ?_ ?_
 . exact Zc (by simp [Yv,Zh,Zn,Zi,Zl,Ze,Zq,ZZ,Za])
 . trivial
 rintro _ rfl
 (repeat first | dsimp only [XG,go_sem] | simp only [nbr])
 refine ⟨_,_,_,_,qw80,?_⟩;dsimp only [ZB0,ZBH,go_sem];refine ⟨rfl,?_⟩;refine Zf2 u20 rfl ?_;dsimp only [go_sem];refine Zr rfl ?_;dsimp only [go_sem];refine Zbn Zdb rfl ?_;dsimp only [go_sem];refine Zo rfl ?_;dsimp only [go_sem];refine ⟨_,rfl,?_⟩;rw [ZvZ,if_neg hw];refine Ub (YI (Zb3 (s':=.tup [.sl false 3 [],.agg [U8 w.1,I w.2]]) 0 rfl (VG (ZN Xd Wd)) (λ_ _ _ h=>by cases h)) ?_) (λ_ _ _ e=>by cases e)
 (refine Zj ?_ ?_ ?_ rfl rfl<;>dsimp only [id,go_sem]<;>simp [Za])
theorem Zl6 (a b:List Int) (ha:a.length<=1000000) (hb:b.length<=1000000) (c c':Bool):Ct Tryz.prog 39 [.sl c 1 (a.map Zq),.sl c' 1 (b.map Zq)] (B (decide (a=b))):=by
 refine t39.1 (by simp [Za,Zq]) (by simp) ?_;dsimp only [c39,r39,go_sem];simp only [List.length_map];by_cases hl:a.length=b.length
 case neg =>
  refine Zr (by simp;omega) ?_;dsimp only [go_sem];have:a≠b:=λe=>hl (by rw [e]);simp [this]
 refine Zo (by simp;omega) ?_;dsimp only [go_sem];refine YF (λj:Nat=>[(5,I j)]) (λ_=>[]) (λj=>j<=a.length/\a.take j=b.take j) (λj=>a.length - j) 0 ⟨Nat.zero_le _,rfl⟩ ?_ ?_
 . (refine Zj ?_ ?_ ?_ rfl rfl<;>dsimp only [Zq,id,go_sem]<;>simp [Zq,Za])
 rintro j ⟨hj,ht⟩;dsimp only [go_sem];simp only [List.length_map];by_cases hlt:j < a.length
 . refine Zr (by simpa using hlt) ?_;dsimp only [go_sem];have hltb:j < b.length:=by omega
   refine Zp j hlt rfl ?_;dsimp only [go_sem];refine Zp j hltb rfl ?_;dsimp only [Zq,go_sem];by_cases he:a[j]=b[j]
   . refine Zo (by rw [he];simp [ngB]) ?_;dsimp only [go_sem];rw [Zg (n:=(j:Int)+1) (by omega) (by omega)];refine ⟨j+1,⟨hlt,?_⟩,by omega,?_⟩
     . rw [List.take_succ_eq_append_getElem hlt,List.take_succ_eq_append_getElem hltb,ht,he]
     (refine Zj ?_ ?_ ?_ rfl rfl<;>dsimp only [Zq,id,go_sem]<;>simp [Zq,Za])
   . refine Zr ?_ ?_
     . simpa using he
     dsimp only [go_sem];have:a≠b:=λe=>he (by subst e;rfl);simp [this]
 refine Zo (by simp;omega) ?_;dsimp only [go_sem];have:a=b:=by
  rw [List.take_of_length_le (by omega),List.take_of_length_le (by omega)] at ht;exact ht
 simp [this]
theorem ZrM (s:Season) (hs:SmallS s) (p:Plan) (hg:p.legs.length<=1000):Ct Tryz.prog 16 [.agg (Zt s),.agg (ZL p)] (Zl7 (YX s p)):=by
 refine tw16.1 (by simp [Zt,ZL,Zl,Zh,Zn,Zi,Ze,Zq,ZZ,Za]) (by simp [Zl7]) ?_;dsimp only [cw16,rw16,Zt,ZL,go_sem];refine call (Zsl s hs p hg) ?_;dsimp only [go_sem];by_cases ho:ZB s=true
 case neg =>
  refine Zr (by simp [ho]) ?_;dsimp only [go_sem];simp [Zl7,YX,ho]
 by_cases hp:XB s p=true
 case neg =>
  refine Zr (by simp [ho,hp]) ?_;dsimp only [go_sem];simp [Zl7,YX,ho,hp]
 refine Zo (by simp [ho,hp]) ?_;dsimp only [go_sem];simp only [List.length_map];have h:OkS s:=⟨hs,ho⟩
 have hF:YX s p=Vf s p s.scenes 0:=by simp only [YX,ho,hp,Bool.true_eq_false,if_false]
 rw [hF];have hsc:=hs.sc;refine UD [2,3,20,21] rfl (λq:Nat=>[(21,I q)]) (λ_=>[]) (λq=>q<=s.scenes.length/\Vf s p (s.scenes.drop q) q=Vf s p s.scenes 0) (λq=>s.scenes.length - q) 0 ⟨Nat.zero_le _,rfl⟩ ?_ ?_
 . (refine Zj ?_ ?_ ?_ rfl rfl<;>dsimp only [Zh,Zn,Zi,Zl,Ze,Zq,ZZ,id,go_sem]<;>simp [Zh,Zn,Zi,Zl,Ze,Zq,ZZ,Za])
 rintro j ⟨hj,hi⟩;dsimp only [go_sem];by_cases hlt:j < s.scenes.length
 case neg =>
  refine Zo (by simp;omega) ?_;dsimp only [go_sem];rw [List.drop_eq_nil_of_le (by omega),Vf] at hi;rw [<- hi];rfl
 refine Zr (by simpa using hlt) ?_;dsimp only [go_sem];have ht:=ZtA s h j hlt p hp hg;rw [List.drop_eq_getElem_cons hlt,Vf] at hi;generalize WU s p s.scenes[j]=w at ht hi;refine Yd [] ht rfl rfl rfl ?_ ?_ ?_
 . exact Zc (by simp [Yv,ZL,Zh,Zn,Zi,Zl,Ze,Zq,ZZ,Za])
 . trivial
 rintro _ rfl
 (repeat first | dsimp only [ZvZ,go_sem] | simp only [nbr])
 by_cases hf:w.1=0
 case neg =>
  refine Zr (by simpa using hf) ?_;dsimp only [go_sem];rw [if_pos hf] at hi;rw [<- hi];rfl
 refine Zo (by simpa using hf) ?_;dsimp only [go_sem];rw [if_neg (by simpa using hf)] at hi;rw [Zg (n:=(j:Int)+1) (by omega) (by omega)];refine ⟨j+1,⟨hlt,hi⟩,by omega,?_⟩;(refine Zj ?_ ?_ ?_ rfl rfl<;>dsimp only [Zh,Zn,Zi,Zl,Ze,Zq,ZZ,id,go_sem]<;>simp [Zh,Zn,Zi,Zl,Ze,Zq,ZZ,Za])
theorem ZfN (p q:Plan) (hp:p.legs.length<=1000) (hq:q.legs.length<=1000):Ct Tryz.prog 12 [.agg (ZL p),.agg (ZL q)] (B (decide (p=q))):=by
 refine t12.1 (by simp [ZL,Zq,Za]) (by simp) ?_;dsimp only [c12,r12,ZL,go_sem];repeat (first | (refine gb ?_;dsimp only [go_sem]) | (refine call (Zl6 p.legs q.legs (by omega) (by omega) _ _) ?_;dsimp only [go_sem]))
 have:(p.animals == q.animals && p.slabs == q.slabs && decide (p.legs=q.legs))=decide (p=q):=by
  obtain ⟨a,b,c⟩:=p;obtain ⟨a',b',c'⟩:=q;rw [Bool.eq_iff_iff];simp;constructor
  . rintro ⟨⟨h1,h2⟩,h3⟩;exact ⟨h3,h1,h2⟩
  . rintro ⟨h1,h2,h3⟩;exact ⟨⟨h2,h3⟩,h1⟩
 rw [this]
def c18:SC:=(sr1 [o1 3 (Jz 0 0 34),o1 4 (Jz 1 0 37),Jk 6 0] (sr1 [o1 7 (.mv (.c (.slice none 0 0)))] (.seq (sr1 [o1 10 (ao 3 36),o1 11 (lf 10 1),o1 12 (Jl 11),Jk 13 0] (.block 0 (.loop (sr1 [o1 14 (Jb .lss 13 12)] (.seq (Ji 14 .skip (.exit 0)) (.seq
 (.block 1 (sr1 [o1 15 (Jx 11 13 6),o1 16 (lt 15 6),o1 9 (.alloc ZyB 89),Js 9 16 6] (.regs (Jr 27) ⟨[Jm 17 7,Jo 18 (ao 4 1),Jp 19 (lf 18 1) [1],Jo 20 (ao 4 2),Jp 21 (lf 20 1) [3],Jp 22 (Jb .mul 19 21) [2,4],Jo 23 (ao 9 5),Jp 24 (lf 23 1) [6],Jm 25
 2,Jp 26 (Jx 24 25 1) [7,8],Jp 27 (lf 26 1) [9],Jo 28 (ao 3 31),Jp 29 (lf 28 1) [11],Jp 30 (Jb .sub 27 29) [10,12],Jp 31 (Jb .mul 22 30) [5,13],Jo 32 (ao 3 28),Jp 33 (lf 32 1) [15],Jo 34 (ao 4 1),Jp 35 (lf 34 1) [17],Jp 36 (Jb .sub 33 35) [16,18],Jo
 37 (ao 3 32),Jp 38 (lf 37 1) [20],Jp 39 (Jb .mul 36 38) [19,21],Jp 40 (Jb .add 31 39) [14,22],Jp 41 (.bsl 1 3 [.t 40]) [23]],0,1,[⟨some 42,.appm 1 8 3 (.t 17) (.t 41),none,[0,24]⟩]⟩ [⟨[],0,1,[⟨some 7,.mv (.t 42),none,(Jr 26)⟩]⟩]))) (.reg [o1 43 (Jc
 .add 13 1),m1 13 43]))))))) (.gh (sr1 [m1 44 7,o1 45 (J1 47 44),m1 6 45] .ret)))))
def r18:List RV:=[.tmp 6]
theorem t18:Qt1 Tryz.prog 18 c18 r18 46:=ZH Tryz.func18
def c6:SC:=(sr1 [o1 2 (Jz 0 0 34),o1 3 (Jz 1 0 37),Jk 4 0,Jk 5 0] (sr1 [o1 13 (lt 2 37),o1 14 (lt 3 3),o1 15 (J2 16 13 14),m1 12 15,o1 16 (Je 12 0),o1 17 (Je 12 1),o1 18 (Je 12 2),o1 19 (Je 12 3),m1 6 16,m1 7 17,m1 8 18,m1 9 19] (.seq (.block 0 (sr1
 [m1 21 9,o1 22 (Jc .neq 21 0),m1 20 22] (Ji 20 (sr1 [m1 23 9,Jk 4 0,m1 5 23] .ret) (sr1 [m1 25 6,o1 26 (.bin .neq (.t 25) (.c (.int .u8 0))),m1 24 26] (Ji 24 (sr1 [Jk 4 0,Jk 5 92] .ret) .skip))))) (sr1 [o1 28 (lt 2 37),o1 29 (ao 3 0),o1 30 (lf 29
 1),o1 31 (J2 17 28 30),m1 27 31,o1 32 (Je 27 0),o1 33 (Je 27 1),m1 10 32,m1 11 33] (sr1 [o1 34 (lt 2 37),o1 35 (lt 3 3),m1 36 10,o1 37 (J3 18 34 35 36),m1 4 37,Jk 5 0] .ret)))))
def r6:List RV:=[.tmp 4,.tmp 5]
theorem b6:Yn Tryz.prog 6=true:=by kernel_rfl
theorem t6:Qt1 Tryz.prog 6 c6 r6 38:=ZH Tryz.func6 rfl b6 (by kernel_rfl) (by kernel_rfl) (by kernel_rfl)
end Go.Proofs.YtongccnhomncnaaGreat
namespace Go.Azalai
open Go.Sx
def Zf8:List Int->Int
 | []=>0
 | x :: r=>r.foldl min x
theorem Zm1 {l:List Int} {a:Int} (h:l≠[]):Zf8 (l ++ [a])=min (Zf8 l) a:=by
 cases l with
 | nil=>exact absurd rfl h
 | cons x r=>simp [Zf8,List.foldl_append]
def V4 (s:Season) (p:Plan) (to:Int) (x:Scene):Int:=p.animals * p.slabs * ((x.prices[to.toNat]?).getD 0 - s.cost)+(s.herd - p.animals) * s.sale
def ZcK (s:Season) (p:Plan) (to:Int):Int:=Zf8 (s.scenes.map (V4 s p to))
def Xj (s:Season) (p:Plan):Int × Int :=
 if (YX s p).2.2.2≠0 then (0,(YX s p).2.2.2) else if (YX s p).1≠0 then (0,92) else (ZcK s p ((YN s.land s.start [s.start] p.legs).getD 0),0)
theorem Zw2 {α : Type} {L:List α} {k:Nat} (hk:k≠0) (h:1<=L.length):L.take k≠[]:=λe=>by
 rw [List.take_eq_nil_iff] at e;rcases e with e | e
 . exact hk e
 . rw [e] at h;simp at h
theorem ZvI {A B d M:Int} (h0:0<=A) (h1:A<=B) (hM:0<=M) (hd:-M<=d/\d<=M):-(B * M)<=A * d/\A * d<=B * M:=by
 have e1:A * d<=A * M:=Int.mul_le_mul_of_nonneg_left hd.2 h0;have e2:A * M<=B * M:=Int.mul_le_mul_of_nonneg_right h1 hM;have e3:A * (-M)<=A * d:=Int.mul_le_mul_of_nonneg_left hd.1 h0;rw [Int.mul_neg] at e3;omega
theorem Zkg {s:Season} {p:Plan} (h:(YX s p).2.2.2=0):ZB s=true/\XB s p=true:=by
 unfold YX at h;split at h
 . simp at h
 rename_i h1;split at h
 . simp at h
 rename_i h2;exact ⟨by simpa using h1,by simpa using h2⟩
end Go.Azalai
namespace Go.Proofs.YtongccnhomncnaaGreat
open Go Go.Sx Go.Azalai
theorem Zlu (L:List Int) (h1:1<=L.length) (hl:L.length<=1001) (c:Bool):Ct Tryz.prog 47 [.sl c 1 (L.map Zq)] (I (Zf8 L)):=by
 refine t47.1 (by simp [Za,Zq]) (by simp) ?_;dsimp only [c47,r47,go_sem];simp only [List.length_map];refine Zo (by simp;omega) ?_;dsimp only [go_sem];refine Zp 0 (by omega) rfl ?_;dsimp only [Zq,go_sem];have h0:L[0]=Zf8 (L.take 1):=by
  cases L with
  | nil=>simp at h1
  | cons x r=>simp [Zf8]
 rw [h0];refine YF (λk:Nat=>[(4,I (k+1)),(3,I (Zf8 (L.take (k+1))))]) (λ_=>[]) (λk=>k+1<=L.length) (λk=>L.length - k) 0 h1 ?_ ?_
 . (refine Zj ?_ ?_ ?_ rfl rfl<;>dsimp only [Zq,id,go_sem]<;>simp [Zq,Za])
 intro k hk;dsimp only [go_sem];simp only [List.length_map];by_cases hlt:k+1 < L.length
 . refine Zr (by simp;omega) ?_;dsimp only [go_sem];refine Zp (k+1) hlt (by simp) ?_;dsimp only [Zq,go_sem];rw [Zg (n:=(k:Int)+1+1) (by omega) (by omega)];refine ⟨k+1,by omega,by omega,?_⟩;have e:min (Zf8 (L.take (k+1))) L[k+1]=Zf8 (L.take (k+1+1)):=by
    rw [List.take_succ_eq_append_getElem hlt,Zm1 (Zw2 (by omega) h1)]
   rw [e];(refine Zj ?_ ?_ ?_ rfl rfl<;>dsimp only [Zq,id,go_sem]<;>simp [Zq,Za])
 refine Zo (by simp;omega) ?_;dsimp only [go_sem];rw [List.take_of_length_le (by omega)]
theorem ZgI {s:Season} (h:OkS s) {k:Nat} (hk:k < s.scenes.length) {m:Nat} (hm:m < s.land.wells.length):∃ hp:m < (s.scenes[k]).prices.length,0<=(s.scenes[k]).prices[m]/\(s.scenes[k]).prices[m]<=1000000:=by
 have hx:=h.scene _ (List.getElem_mem hk);simp only [Yz,Bool.and_eq_true,decide_eq_true_eq,List.all_eq_true] at hx;have hp:m < (s.scenes[k]).prices.length:=by omega
 have:=hx.2 _ (List.getElem_mem hp);simp only [inR,decide_eq_true_eq] at this;exact ⟨hp,this⟩
theorem ZvY {s:Season} (h:OkS s) {p:Plan} (hp:XB s p=true) {k:Nat} (hk:k < s.scenes.length) {m:Nat} (hm:m < s.land.wells.length) (hq:m < (s.scenes[k]).prices.length) :
 IntKind.i64.wrap (IntKind.i64.wrap (IntKind.i64.wrap (p.animals * p.slabs) * IntKind.i64.wrap ((s.scenes[k]).prices[m] - s.cost))+IntKind.i64.wrap (IntKind.i64.wrap (s.herd - p.animals) * s.sale))=V4 s p m s.scenes[k] /\
 -1000000000<=V4 s p m s.scenes[k]/\V4 s p m s.scenes[k]<=1000000000:=by
 have hnum:=h.num;obtain ⟨_,hpl⟩:=Ul hp;obtain ⟨_,hpr⟩:=ZgI h hk hm;have e1:0<=p.animals * p.slabs/\p.animals * p.slabs<=30 * 12:=⟨Int.mul_nonneg hpl.1 hpl.2.2.1,Int.mul_le_mul (by omega) hpl.2.2.2 hpl.2.2.1 (by decide)⟩
 have e2:=ZvI (A:=p.animals * p.slabs) (B:=360) (d:=(s.scenes[k]).prices[m] - s.cost) (M:=1000000) e1.1 (by omega) (by decide) (by omega);have e3:0<=(s.herd - p.animals) * s.sale/\(s.herd - p.animals) * s.sale<=30 * 1000000:=⟨Int.mul_nonneg (by omega) (by omega),Int.mul_le_mul (by omega) (by omega) (by omega) (by decide)⟩
 have e4:V4 s p m s.scenes[k]=p.animals * p.slabs * ((s.scenes[k]).prices[m] - s.cost)+(s.herd - p.animals) * s.sale:=by
  simp only [V4,Int.toNat_natCast,List.getElem?_eq_getElem hq,Option.getD_some]
 rw [Zg (n:=p.animals * p.slabs) (by omega) (by omega),Zg (n:=(s.scenes[k]).prices[m] - s.cost) (by omega) (by omega),Zg (n:=s.herd - p.animals) (by omega) (by omega),
  Zg (n:=p.animals * p.slabs * ((s.scenes[k]).prices[m] - s.cost)) (by omega) (by omega),Zg (n:=(s.herd - p.animals) * s.sale) (by omega) (by omega),Zg (by omega) (by omega),e4]
 exact ⟨rfl,by omega,by omega⟩
theorem Zf4 (s:Season) (h:OkS s) (p:Plan) (hp:XB s p=true) (m:Nat) (hm:m < s.land.wells.length):Ct Tryz.prog 18 [.agg (Zt s),.agg (ZL p),I m] (I (ZcK s p m)):=by
 have hsc:=h.scs;have hs4:=h.scs;refine t18.1 (by simp [Zt,ZL,Zl,Zh,Zn,Zi,Ze,Zq,Za]) (by simp) ?_;dsimp only [c18,r18,Zt,ZL,go_sem];simp only [List.length_map];obtain ⟨W,hW⟩:∃ W,W=s.scenes.map (V4 s p m):=⟨_,rfl⟩
 have hWl:W.length=s.scenes.length:=by rw [hW];simp
 refine Zfa (YI (ZaW [2,3,4,6,7,11,12,13] rfl) (Xn 7 1 3 rfl rfl)) (λq:Nat × Nat=>[(13,I q.1),(7,.mr 2 q.2)])
  (λq=>[(2,.row q.2 1 ((W.take q.1).map Zq) 3)]) (λq=>q.1<=s.scenes.length) (λq=>s.scenes.length - q.1) (0,0) (Nat.zero_le _) ?_ ?_
 . (refine Zj ?_ ?_ ?_ rfl rfl<;>dsimp only [Zh,Zn,Zi,Zl,Ze,Zq,Wi,id,go_sem]<;>simp [Zh,Zn,Zi,Zl,Ze,Zq,Wi,Za])
 rintro ⟨j,v⟩ hj;simp only at hj;dsimp only [go_sem];by_cases hlt:j < s.scenes.length
 . refine Zr (by simpa using hlt) ?_;dsimp only [go_sem];refine Zp j hlt rfl ?_;dsimp only [Zl,go_sem];obtain ⟨hq,_⟩:=ZgI h hlt hm;refine Zp m hq rfl ?_;dsimp only [Zq,go_sem];obtain ⟨hww,hwb⟩:=ZvY h hp hlt hm hq;rw [hww];simp only [nbr];dsimp only [go_sem];refine ⟨(by intro c hc;simp only [List.mem_singleton] at hc;subst hc;rfl),by simp;omega,?_⟩;dsimp only [go_sem];rw [Zg (n:=(j:Int)+1) (by omega) (by omega)]
   refine ⟨(j+1,v+1),hlt,by simp only;omega,?_⟩;simp only;have hWj:V4 s p m s.scenes[j]=W[j]'(by omega):=by simp [hW]
   rw [hWj,List.take_succ_eq_append_getElem (by omega)];simp only [List.map_append,List.map_cons,List.map_nil];(refine Zj ?_ ?_ ?_ rfl rfl<;>dsimp only [Zh,Zn,Zi,Zl,Ze,Zq,Wi,id,go_sem]<;>simp [Zh,Zn,Zi,Zl,Ze,Zq,Wi,Za])
 refine Zo (by simp;omega) ?_;dsimp only [go_sem];rw [List.take_of_length_le (by omega)];refine gh (Zdl 7 2 v rfl rfl rfl rfl) ?_;dsimp only [go_sem];refine call (Zlu W (by omega) (by omega) _) ?_;dsimp only [go_sem];rw [hW];rfl
theorem goalN {s:Season} (h:OkS s) {p:Plan} (hp:XB s p=true):∃ m:Nat,m < s.land.wells.length/\YN s.land s.start [s.start] p.legs=some (m:Int):=by
 obtain ⟨⟨to,hto⟩,_⟩:=Ul hp;have:=ZdE h.lp h.start hto;exact ⟨to.toNat,by omega,by rw [hto];congr 1;omega⟩
theorem ZbR (s:Season) (hs:SmallS s) (p:Plan) (hg:p.legs.length<=1000):Ct Tryz.prog 6 [.agg (Zt s),.agg (ZL p)] (.tup [I (Xj s p).1,I (Xj s p).2]):=by
 refine t6.1 (by simp [Zt,ZL,Zl,Zh,Zn,Zi,Ze,Zq,Za]) (by simp) ?_;dsimp only [c6,r6,Zt,ZL,go_sem];refine call (ZrM s hs p hg) ?_;dsimp only [Zl7,go_sem];by_cases he:(YX s p).2.2.2=0
 case neg =>
  refine Zr (by simpa using he) ?_;dsimp only [go_sem];simp [Xj,he]
 refine Zo (by simpa using he) ?_;dsimp only [go_sem];by_cases hw:(YX s p).1=0
 case neg =>
  refine Zr (by simpa using hw) ?_;dsimp only [go_sem];simp [Xj,he,hw]
 refine Zo (by simpa using hw) ?_;dsimp only [go_sem];obtain ⟨ho,hp⟩:=Zkg he;have h:OkS s:=⟨hs,ho⟩
 obtain ⟨m,hm,hto⟩:=goalN h hp;refine call (Zd6 s hs h.land h.pace h.start p.legs hg _) ?_;dsimp only [go_sem];rw [hto];simp only [Option.getD_some];refine call (Zf4 s h p hp m hm) ?_;dsimp only [go_sem];simp [Xj,he,hw,hto]
end Go.Proofs.YtongccnhomncnaaGreat
namespace Go.Azalai
def X5 (s:Season) (v:Int):Season:={ s with sale:=v }
theorem Zgl {s:Season} {v:Int} {x:Scene} {k:Int}:∀ {l:List Stop} {i:Nat} {c:Camel} {acc:List (Int × Int)},goG (X5 s v) x k l i c acc=goG s x k l i c acc
 | [],_,_,_=>rfl
 | st :: r,i,c,acc=>by
  have e1:∀ d c,Xz (X5 s v) x d k c=Xz s x d k c:=λ_ _=>rfl;have e2:∀ st,ZcE (X5 s v) x st=ZcE s x st:=λ_=>rfl;have e3:(X5 s v).land=s.land:=rfl;have e4:(X5 s v).pace=s.pace:=rfl;have e5:(X5 s v).breed=s.breed:=rfl;simp only [goG,e1,e2,e3,e4,e5];split
  . rfl
  . exact Zgl
theorem Zip {s:Season} {v:Int} {p:Plan} {x:Scene}:WU (X5 s v) p x=WU s p x:=by
 have e1:US (X5 s v) p.legs=US s p.legs:=rfl;have e2:Yp (X5 s v) p.legs=Yp s p.legs:=rfl;have e3:∀ l,goF (X5 s v) x p.slabs l=goF s x p.slabs l:=λl=>by
  simp only [goF];split
  . rfl
  . exact Zgl
 simp only [WU,e1,e2,e3]
theorem ZaX {s:Season} {v:Int} {p:Plan}:∀ {l:List Scene} {i:Nat},Vf (X5 s v) p l i=Vf s p l i
 | [],_=>rfl
 | x :: r,i=>by simp only [Vf,Zip,ZaX]
theorem Zdu {s:Season} {v:Int} (h:ZB s=true) (hv:0<=v/\v<=1000000):ZB (X5 s v)=true:=by
 simp only [ZB,UH,inR,Bool.and_eq_true,decide_eq_true_eq] at h;simp [ZB,UH,X5,inR,h,hv]
theorem ZeW {s:Season} {v:Int} {p:Plan} (h:ZB s=true) (hv:0<=v/\v<=1000000):YX (X5 s v) p=YX s p:=by
 have e1:XB (X5 s v) p=XB s p:=rfl;have e2:(X5 s v).scenes=s.scenes:=rfl;simp only [YX,Zdu h hv,h,e1,e2,ZaX]
theorem UE {d:Int}:∀ {r:List Int} {x:Int},(r.map (·+d)).foldl min (x+d)=r.foldl min x+d
 | [],_=>rfl
 | a :: r,x=>by
  simp only [List.map_cons,List.foldl_cons];rw [show min (x+d) (a+d)=min x a+d from by omega];exact UE
theorem Zsy {d:Int} {l:List Int} (h:l≠[]):Zf8 (l.map (·+d))=Zf8 l+d:=by
 cases l with
 | nil=>exact absurd rfl h
 | cons x r=>exact UE
theorem Ze3 {s:Season} {v:Int} {p:Plan} {to:Int} (h:s.scenes≠[]):ZcK (X5 s v) p to=ZcK s p to+(s.herd - p.animals) * (v - s.sale):=by
 have e:(X5 s v).scenes.map (V4 (X5 s v) p to)=(s.scenes.map (V4 s p to)).map (·+(s.herd - p.animals) * (v - s.sale)):=by
  rw [List.map_map];refine List.map_congr_left λx _=>?_;show p.animals * p.slabs * ((x.prices[to.toNat]?).getD 0 - s.cost)+(s.herd - p.animals) * v=p.animals * p.slabs * ((x.prices[to.toNat]?).getD 0 - s.cost)+(s.herd - p.animals) * s.sale+(s.herd - p.animals) * (v - s.sale)
  have:=Int.mul_sub (s.herd - p.animals) v s.sale;omega
 rw [ZcK,e,Zsy (by simpa using h)];rfl
theorem Za9 {s:Season} {v:Int} {p:Plan} (h:ZB s=true) (hv:0<=v/\v<=1000000) (h0:(Xj s p).2=0) (hs:s.scenes≠[]) :
 (Xj (X5 s v) p).2=0/\(Xj (X5 s v) p).1=(Xj s p).1+(s.herd - p.animals) * (v - s.sale):=by
 unfold Xj at h0 ⊢;rw [ZeW h hv];by_cases h1:(YX s p).2.2.2≠0
 . rw [if_pos h1] at h0;exact absurd h0 h1
 rw [if_neg h1] at h0 ⊢;by_cases h2:(YX s p).1≠0
 . rw [if_pos h2] at h0;simp at h0
 rw [if_neg h2,if_neg h1,if_neg h2];exact ⟨rfl,Ze3 hs⟩
end Go.Azalai
namespace Go.Proofs.YtongccnhomncnaaGreat
open Go Go.Sx
def c104:SC:=(sr1 [o1 3 (Jz 0 0 3),o1 4 (Jz 1 0 3),Jw 6 Jf] (sr1 [m1 7 2,o1 8 (.mkf 141 [.t 3,.t 4]),o1 9 (J2 84 7 8),o1 10 (Jh 9),m1 6 10] .ret))
def r104:List RV:=[.tmp 6]
theorem t104:Qt1 Tryz.prog 104 c104 r104 11:=ZH Tryz.func104
def c141:SC:=(sr1 [Jw 4 Jf] (sr1 [m1 5 0,o1 6 (lf 1 1),o1 7 (Jb .lss 5 6),m1 8 7,g1 9 8 false (.mv (.t 0)),g1 10 8 false (lf 2 1),g1 11 8 false (Jb .gtr 9 10),o1 12 (.pick (.t 8) Jt (.t 11)),m1 4 12] .ret))
def r141:List RV:=[.tmp 4]
theorem t141:Qt1 Tryz.prog 141 c141 r141 13:=ZH Tryz.func141
def c107:SC:=(sr1 [o1 3 (Jz 0 0 3),o1 4 (Jz 1 0 3),Jw 6 Jf] (sr1 [m1 7 2,o1 8 (.mkf 144 [.t 3,.t 4]),o1 9 (J2 143 7 8),m1 6 9] .ret))
def r107:List RV:=[.tmp 6]
theorem t107:Qt1 Tryz.prog 107 c107 r107 10:=ZH Tryz.func107
def c144:SC:=(sr1 [o1 3 (Jz 0 0 27),Jw 4 Jf] (sr1 [o1 5 (ao 3 0),o1 6 (lf 5 1),o1 7 (ao 3 1),o1 8 (lf 7 1),o1 9 (Jb .leq 6 8),m1 10 9,g1 11 10 true (lf 1 1),g1 12 10 true (lf 2 1),g1 13 10 true (ao 3 0),g1 14 10 true (lf 13 1),g1 15 10 true (ao 3
 1),g1 16 10 true (lf 15 1),g1 17 10 true (.bsl 1 3 [.t 14,.t 16]),g1 18 10 true (J3 104 11 12 17),o1 19 (.pick (.t 10) (.t 18) Jf),m1 4 19] .ret))
def r144:List RV:=[.tmp 4]
theorem t144:Qt1 Tryz.prog 144 c144 r144 20:=ZH Tryz.func144
def c143:SC:=(sr1 [o1 3 (Jz 1 0 123),Jw 4 Jf] (sr1 [m1 5 0,o1 6 (.mkf 166 [.t 3]),o1 7 (J2 48 5 6),o1 8 (Jh 7),m1 4 8] .ret))
def r143:List RV:=[.tmp 4]
theorem t143:Qt1 Tryz.prog 143 c143 r143 9:=ZH Tryz.func143
def c166:SC:=(sr1 [o1 2 (Jz 0 0 27),Jw 3 Jf] (sr1 [o1 4 (lf 1 1),o1 5 (lt 2 2),o1 6 (.calv (.t 4) [.t 5]),o1 7 (Jh 6),m1 3 7] .ret))
def r166:List RV:=[.tmp 3]
theorem t166:Qt1 Tryz.prog 166 c166 r166 8:=ZH Tryz.func166
def c112:SC:=(sr1 [o1 3 (Jz 1 0 206),Jw 4 Jf] (sr1 [m1 5 0,o1 6 (.mkf 150 [.t 3]),o1 7 (J2 149 5 6),o1 8 (Jh 7),m1 4 8] .ret))
def r112:List RV:=[.tmp 4]
theorem t112:Qt1 Tryz.prog 112 c112 r112 9:=ZH Tryz.func112
def c150:SC:=(sr1 [o1 2 (Jz 0 0 103),Jw 3 Jf] (sr1 [o1 4 (lf 1 1),o1 5 (lt 2 3),o1 6 (.calv (.t 4) [.t 5]),o1 7 (Jh 6),m1 3 7] .ret))
def r150:List RV:=[.tmp 3]
theorem t150:Qt1 Tryz.prog 150 c150 r150 8:=ZH Tryz.func150
def c66:SC:=(sr1 [o1 3 (Jz 1 0 156),Jw 4 Jf] (sr1 [m1 5 0,o1 6 (.mkf 106 [.t 3]),o1 7 (J2 105 5 6),o1 8 (Jh 7),m1 4 8] .ret))
def r66:List RV:=[.tmp 4]
theorem t66:Qt1 Tryz.prog 66 c66 r66 9:=ZH Tryz.func66
def c106:SC:=(sr1 [o1 2 (Jz 0 0 91),Jw 3 Jf] (sr1 [o1 4 (lf 1 1),o1 5 (lt 2 6),o1 6 (.calv (.t 4) [.t 5]),o1 7 (Jh 6),m1 3 7] .ret))
def r106:List RV:=[.tmp 3]
theorem t106:Qt1 Tryz.prog 106 c106 r106 8:=ZH Tryz.func106
def c114:SC:=(sr1 [o1 2 (Jz 0 0 27),o1 3 (Jz 1 0 27),o1 4 (.mv (.c (.slice none 0 0)))] (sr1 [o1 5 (ao 2 1),o1 6 (lf 5 1),o1 7 (.build zv4 [(0,1,.c (.int .i64 1)),(2,1,.t 6)]),o1 8 (ao 2 0),o1 9 (lf 8 1),o1 10 (.un .neg (.t 9)),o1 11 (.build zv4
 [(0,1,.c (.int .i64 (-1))),(2,1,.t 10)]),o1 12 (ao 3 1),o1 13 (lf 12 1),o1 14 (.build zv4 [(1,1,.c (.int .i64 1)),(2,1,.t 13)]),o1 15 (ao 3 0),o1 16 (lf 15 1),o1 17 (.un .neg (.t 16)),o1 18 (.build zv4 [(1,1,.c (.int .i64 (-1))),(2,1,.t 17)]),o1 19
 (.bsl 3 103 [.t 7,.t 11,.t 14,.t 18]),m1 4 19] .ret))
def r114:List RV:=[.tmp 4]
theorem t114:Qt1 Tryz.prog 114 c114 r114 20:=ZH Tryz.func114
def c71:SC:=(sr1 [o1 1 (Jz 0 0 96),Jk 2 0] (.seq (sr1 [o1 6 (ao 1 0),o1 7 (lf 6 1),o1 8 (Jl 7),o1 9 (.bsl 1 3 [.t 8]),o1 10 (.call 104 [cn 4,cn 40,.t 9]),o1 11 (Jh 10)] (Ji 11 (sr1 [Jk 2 40] .ret) .skip)) (.seq (sr1 [o1 12 (.build zv0 []),o1 13
 (.build zv0 []),o1 14 (J2 114 12 13),o1 15 (Jl 14),Jk 16 0] (.block 0 (.loop (sr1 [o1 17 (Jb .lss 16 15)] (.seq (Ji 17 .skip (.exit 0)) (.seq (.block 1 (sr1 [m1 18 16,o1 19 (Jx 14 16 3),o1 20 (lt 19 3),o1 4 (.alloc zv4 103),m1 3 18,Js 4 20 3] (.seq
 (.regd (Jr 20) [Jo 21 (ao 4 0),Jp 22 (lf 21 1) [0],Jo 23 (ao 1 0),Jp 24 (lf 23 1) [2],Jm 25 3,Jp 26 (Jx 24 25 3) [3,4],Jp 27 (ao 26 0) [5],Jp 28 (lf 27 1) [6],Jp 29 (Jb .neq 22 28) [1,7],Jp 30 (.mv (.t 29)) [8],Jq 31 30 false (ao 4 1) [9],Jq 32 30
 false (lf 31 1) [9,10],Jq 33 30 false (ao 1 0) [9],Jq 34 30 false (lf 33 1) [9,12],Jq 35 30 false (.mv (.t 3)) [9],Jq 36 30 false (Jx 34 35 3) [9,13,14],Jq 37 30 false (ao 36 1) [9,15],Jq 38 30 false (lf 37 1) [9,16],Jq 39 30 false (Jb .neq 32 38)
 [9,11,17],Jp 40 (.pick (.t 30) Jt (.t 39)) [9,18]] 0 0 []) (Ji 40 (sr1 [Jk 2 40] .ret) .skip)))) (.reg [o1 41 (Jc .add 16 1),m1 16 41]))))))) (sr1 [o1 5 (.mv (.f 115))] (.seq (sr1 [o1 42 (ao 1 0),o1 43 (lf 42 1),m1 44 5,o1 45 (J2 112 43 44),o1 46 (Jh
 45)] (Ji 46 (sr1 [Jk 2 40] .ret) .skip)) (sr1 [Jk 2 0] .ret))))))
def r71:List RV:=[.tmp 2]
theorem t71:Qt1 Tryz.prog 71 c71 r71 47:=ZH Tryz.func71
def c115:SC:=(sr1 [o1 1 (Jz 0 0 103),Jw 2 Jf] (sr1 [o1 3 (ao 1 0),o1 4 (lf 3 1),o1 5 (ao 1 1),o1 6 (lf 5 1),o1 7 (.bsl 1 3 [.t 4,.t 6]),o1 8 (.call 104 [.c (.int .i64 (-1000)),cn 1000,.t 7]),m1 9 8,g1 10 9 true (ao 1 0),g1 11 9 true (lf 10 1),g1 12 9
 true (Jc .neq 11 0),g1 13 9 true (.mv (.t 12)),g1 14 13 false (ao 1 1),g1 15 13 false (lf 14 1),g1 16 13 false (Jc .neq 15 0),g1 17 9 true (.pick (.t 13) Jt (.t 16)),o1 18 (.pick (.t 9) (.t 17) Jf),m1 19 18,g1 20 19 true (ao 1 2),g1 21 19 true (lf 20
 1),g1 22 19 true (.bsl 1 3 [.t 21]),g1 23 19 true (.call 104 [.c (.int .i64 (-100000000000)),cn 100000000000,.t 22]),o1 24 (.pick (.t 19) (.t 23) Jf),m1 2 24] .ret))
def r115:List RV:=[.tmp 2]
theorem t115:Qt1 Tryz.prog 115 c115 r115 25:=ZH Tryz.func115
def c146:SC:=(sr1 [o1 2 (Jz 0 0 103),o1 3 (Jz 1 0 103),o1 4 (.alloc zv4 202)] (sr1 [o1 6 (ao 2 2),o1 7 (lf 6 1),o1 8 (ao 3 1),o1 9 (lf 8 1),o1 10 (Jb .mul 7 9),o1 11 (ao 3 2),o1 12 (lf 11 1),o1 13 (ao 2 1),o1 14 (lf 13 1),o1 15 (Jb .mul 12 14),o1 16
 (Jb .sub 10 15),o1 17 (ao 2 0),o1 18 (lf 17 1),o1 19 (ao 3 2),o1 20 (lf 19 1),o1 21 (Jb .mul 18 20),o1 22 (ao 3 0),o1 23 (lf 22 1),o1 24 (ao 2 2),o1 25 (lf 24 1),o1 26 (Jb .mul 23 25),o1 27 (Jb .sub 21 26),o1 28 (ao 2 0),o1 29 (lf 28 1),o1 30 (ao 3
 1),o1 31 (lf 30 1),o1 32 (Jb .mul 29 31),o1 33 (ao 3 0),o1 34 (lf 33 1),o1 35 (ao 2 1),o1 36 (lf 35 1),o1 37 (Jb .mul 34 36),o1 38 (Jb .sub 32 37),o1 39 (.build zv4 [(0,1,.t 16),(1,1,.t 27),(2,1,.t 38)]),o1 5 (.alloc zv4 202),Js 5 39 3] (.seq (sr1
 [o1 40 (ao 5 2),o1 41 (lf 40 1),o1 42 (Jc .lss 41 0)] (Ji 42 (sr1 [o1 43 (ao 5 0),o1 44 (lf 43 1),o1 45 (.un .neg (.t 44)),o1 46 (ao 5 1),o1 47 (lf 46 1),o1 48 (.un .neg (.t 47)),o1 49 (ao 5 2),o1 50 (lf 49 1),o1 51 (.un .neg (.t 50)),o1 52 (.build
 zv4 [(0,1,.t 45),(1,1,.t 48),(2,1,.t 51)]),Js 4 52 3] .ret) .skip)) (sr1 [o1 53 (lt 5 3),Js 4 53 3] .ret))))
def r146:List RV:=[.cell 4 3 true]
theorem t146:Qt1 Tryz.prog 146 c146 r146 54:=ZH Tryz.func146
def c147:SC:=(sr1 [o1 2 (Jz 0 0 103),Jw 3 Jf] (sr1 [o1 4 (ao 2 0),o1 5 (lf 4 1),o1 6 (ao 1 0),o1 7 (lf 6 1),o1 8 (Jb .mul 5 7),o1 9 (ao 2 1),o1 10 (lf 9 1),o1 11 (ao 1 1),o1 12 (lf 11 1),o1 13 (Jb .mul 10 12),o1 14 (Jb .add 8 13),o1 15 (ao 2 2),o1 16
 (lf 15 1),o1 17 (ao 1 2),o1 18 (lf 17 1),o1 19 (Jb .mul 16 18),o1 20 (Jb .leq 14 19),m1 3 20] .ret))
def r147:List RV:=[.tmp 3]
theorem t147:Qt1 Tryz.prog 147 c147 r147 21:=ZH Tryz.func147
def c148:SC:=(sr1 [o1 2 (.alloc zv0 27)] (sr1 [m1 3 0,o1 4 (J1 47 3),m1 5 0,o1 6 (J1 167 5),o1 7 (.build zv0 [(0,1,.t 4),(1,1,.t 6)]),Js 2 7 2] .ret))
def r148:List RV:=[.cell 2 2 true]
theorem t148:Qt1 Tryz.prog 148 c148 r148 8:=ZH Tryz.func148
def c110:SC:=(sr1 [o1 2 (Jz 0 0 27),o1 3 (Jz 1 0 27),o1 4 (.alloc zv0 27)] (sr1 [o1 5 (ao 2 0),o1 6 (lf 5 1),o1 7 (ao 3 0),o1 8 (lf 7 1),o1 9 (Jb .mul 6 8),o1 10 (ao 2 0),o1 11 (lf 10 1),o1 12 (ao 3 1),o1 13 (lf 12 1),o1 14 (Jb .mul 11 13),o1 15 (ao 2
 1),o1 16 (lf 15 1),o1 17 (ao 3 0),o1 18 (lf 17 1),o1 19 (Jb .mul 16 18),o1 20 (ao 2 1),o1 21 (lf 20 1),o1 22 (ao 3 1),o1 23 (lf 22 1),o1 24 (Jb .mul 21 23),o1 25 (.bsl 1 3 [.t 9,.t 14,.t 19,.t 24]),o1 26 (J1 148 25),Js 4 26 2] .ret))
def r110:List RV:=[.cell 4 2 true]
theorem t110:Qt1 Tryz.prog 110 c110 r110 27:=ZH Tryz.func110
def c113:SC:=(sr1 [o1 1 (Jz 0 0 103),Jw 2 Jf] (sr1 [o1 3 (ao 1 2),o1 4 (lf 3 1),o1 5 (.bsl 1 3 [.t 4]),o1 6 (.call 104 [.c (.int .i64 (-100000000000)),cn 100000000000,.t 5]),m1 2 6] .ret))
def r113:List RV:=[.tmp 2]
theorem t113:Qt1 Tryz.prog 113 c113 r113 7:=ZH Tryz.func113
def c67:SC:=(sr1 [o1 1 (Jz 0 0 91),Jw 2 Jf] (sr1 [o1 3 (ao 1 0),o1 4 (lt 3 2),o1 5 (.bsl 2 27 [.t 4]),o1 6 (.call 107 [cn 0,cn 60,.t 5]),m1 7 6,g1 8 7 true (ao 1 2),g1 9 7 true (lt 8 2),g1 10 7 true (ao 1 4),g1 11 7 true (lt 10 2),g1 12 7 true (.bsl 2
 27 [.t 9,.t 11]),g1 13 7 true (.call 107 [.c (.int .i64 (-100000)),cn 100000,.t 12]),o1 14 (.pick (.t 7) (.t 13) Jf),m1 2 14] .ret))
def r67:List RV:=[.tmp 2]
theorem t67:Qt1 Tryz.prog 67 c67 r67 15:=ZH Tryz.func67
def c108:SC:=(sr1 [o1 6 (.mv (.c (.slice none 0 0)))] (sr1 [m1 7 0,m1 8 2,o1 9 (Jb .sub 7 8),m1 10 0,m1 11 2,o1 12 (Jb .add 10 11),o1 13 (.build zv0 [(0,1,.t 9),(1,1,.t 12)]),m1 14 1,m1 15 2,o1 16 (Jb .sub 14 15),m1 17 1,m1 18 2,o1 19 (Jb .add 17
 18),o1 20 (.build zv0 [(0,1,.t 16),(1,1,.t 19)]),o1 21 (J2 114 13 20),m1 6 21] .ret))
def r108:List RV:=[.tmp 6]
theorem t108:Qt1 Tryz.prog 108 c108 r108 22:=ZH Tryz.func108
def c105:SC:=(sr1 [Jw 4 Jf] (sr1 [m1 5 0,m1 6 1,o1 7 (J2 142 5 6),o1 8 (Jc .geq 7 0),m1 4 8] .ret))
def r105:List RV:=[.tmp 4]
theorem t105:Qt1 Tryz.prog 105 c105 r105 9:=ZH Tryz.func105
def c142:SC:=(sr1 [Jk 4 0] (.seq (sr1 [m1 6 0,o1 7 (Jl 6),Jk 8 0] (.block 0 (.loop (sr1 [o1 9 (Jb .lss 8 7)] (.seq (Ji 9 .skip (.exit 0)) (.seq (.block 1 (sr1 [m1 10 8,m1 5 10] (sr1 [m1 11 1,m1 12 0,m1 13 5,o1 14 (Jx 12 13 6),o1 15 (lt 14 6),o1 16
 (.calv (.t 11) [.t 15])] (Ji 16 (sr1 [m1 17 5,m1 4 17] .ret) .skip)))) (.reg [o1 18 (Jc .add 8 1),m1 8 18]))))))) (sr1 [o1 4 (.mv (cn (-1)))] .ret)))
def r142:List RV:=[.tmp 4]
theorem t142:Qt1 Tryz.prog 142 c142 r142 19:=ZH Tryz.func142
def c149:SC:=(sr1 [Jw 4 Jf] (sr1 [m1 5 0,m1 6 1,o1 7 (J2 168 5 6),o1 8 (Jc .geq 7 0),m1 4 8] .ret))
def r149:List RV:=[.tmp 4]
theorem t149:Qt1 Tryz.prog 149 c149 r149 9:=ZH Tryz.func149
def c168:SC:=(sr1 [Jk 4 0] (.seq (sr1 [m1 6 0,o1 7 (Jl 6),Jk 8 0] (.block 0 (.loop (sr1 [o1 9 (Jb .lss 8 7)] (.seq (Ji 9 .skip (.exit 0)) (.seq (.block 1 (sr1 [m1 10 8,m1 5 10] (sr1 [m1 11 1,m1 12 0,m1 13 5,o1 14 (Jx 12 13 3),o1 15 (lt 14 3),o1 16
 (.calv (.t 11) [.t 15])] (Ji 16 (sr1 [m1 17 5,m1 4 17] .ret) .skip)))) (.reg [o1 18 (Jc .add 8 1),m1 8 18]))))))) (sr1 [o1 4 (.mv (cn (-1)))] .ret)))
def r168:List RV:=[.tmp 4]
theorem t168:Qt1 Tryz.prog 168 c168 r168 19:=ZH Tryz.func168
def c38:SC:=(sr1 [o1 2 (Jz 0 0 96),o1 3 (Jz 1 0 96),Jw 4 Jf] (.seq (sr1 [o1 6 (ao 2 0),o1 7 (lf 6 1),o1 8 (Jl 7),o1 9 (ao 3 0),o1 10 (lf 9 1),o1 11 (Jl 10),o1 12 (Jb .neq 8 11)] (Ji 12 (sr1 [Jw 4 Jf] .ret) .skip)) (.seq (sr1 [Jk 5 0] (.block 0 (.loop
 (.seq (sr1 [m1 13 5,o1 14 (ao 2 0),o1 15 (lf 14 1),o1 16 (Jl 15),o1 17 (Jb .lss 13 16)] (Ji 17 .skip (.exit 0))) (.seq (.block 1 (.seq (.regd (Jr 11) [Jo 20 (ao 2 0),Jp 21 (lf 20 1) [0],Jm 22 5,Jp 23 (Jx 21 22 3) [1,2],Jp 24 (lt 23 3) [3],Jo 25 (ao 3
 0),Jp 26 (lf 25 1) [5],Jm 27 5,Jp 28 (Jx 26 27 3) [6,7],Jp 29 (lt 28 3) [8],Jp 30 (.eqs true true [1,1,1] (.t 24) (.t 29)) [4,9]] 0 0 []) (Ji 30 (sr1 [Jw 4 Jf] .ret) .skip))) (.reg [m1 18 5,o1 19 (Jc .add 18 1),m1 5 19])))))) (sr1 [Jw 4 Jt] .ret))))
def r38:List RV:=[.tmp 4]
theorem t38:Qt1 Tryz.prog 38 c38 r38 31:=ZH Tryz.func38
def c35:SC:=(sr1 [o1 4 (.alloc [.slice none 0 0] 96)] (sr1 [m1 5 0,o1 6 (.build zv4 [(0,1,.c (.int .i64 1)),(2,1,.t 5)]),m1 7 0,o1 8 (.un .neg (.t 7)),o1 9 (.build zv4 [(0,1,.c (.int .i64 (-1))),(2,1,.t 8)]),m1 10 1,o1 11 (.build zv4 [(1,1,.c (.int
 .i64 1)),(2,1,.t 10)]),m1 12 1,o1 13 (.un .neg (.t 12)),o1 14 (.build zv4 [(1,1,.c (.int .i64 (-1))),(2,1,.t 13)]),o1 15 (.bsl 3 103 [.t 6,.t 9,.t 11,.t 14]),o1 16 (.build [.slice none 0 0] [(0,1,.t 15)]),Js 4 16 1] .ret))
def r35:List RV:=[.cell 4 1 true]
theorem t35:Qt1 Tryz.prog 35 c35 r35 17:=ZH Tryz.func35
def c7:SC:=(sr1 [o1 4 (.alloc zv0 27)] (sr1 [m1 5 0,m1 6 1,o1 7 (.build zv0 [(0,1,.t 5),(1,1,.t 6)]),Js 4 7 2] .ret))
def r7:List RV:=[.cell 4 2 true]
theorem t7:Qt1 Tryz.prog 7 c7 r7 8:=ZH Tryz.func7
def c32:SC:=(sr1 [o1 0 (.alloc zv7 29),o1 1 (.alloc zv6 31)] (sr1 [o1 2 (.call 7 [cn 10,cn 10]),o1 3 (.call 7 [cn 50,cn 50]),o1 4 (.build zv7 [(0,1,.c (.int .i64 100)),(1,1,.c (.int .i64 10)),(2,2,.t 2),(15,2,.t 3)]),o1 5 (.call 7 [cn 100,cn 100]),o1
 6 (.call 7 [cn 10,cn 10]),o1 7 (.build zv6 [(0,2,.t 5),(2,2,.t 6)]),Js 0 4 17,Js 1 7 7] .ret))
def r32:List RV:=[.cell 0 17 true,.cell 1 7 true]
theorem t32:Qt1 Tryz.prog 32 c32 r32 8:=ZH Tryz.func32
def c33:SC:=(sr1 [o1 0 (.alloc ZBF 25)] (sr1 [o1 1 (.build ZzO []),o1 2 (.call 7 [cn 5,cn 5]),o1 3 (.build ZzO [(0,1,.c (.int .i64 30)),(5,1,.c (.int .i64 100)),(3,2,.t 2)]),o1 4 (.bsl 9 151 [.t 1,.t 3]),o1 5 (.call 7 [cn 20,cn 30]),o1 6 (.call 7 [cn
 99,cn 99]),o1 7 (.build zv9 [(2,2,.t 6)]),o1 8 (.bsl 4 153 [.t 7]),o1 9 (.build Zyv [(0,1,.c (.int .i64 0)),(1,1,.c (.int .i64 1)),(2,2,.t 5),(4,1,.t 8)]),o1 10 (.bsl 5 120 [.t 9]),o1 11 (.build ZBF [(0,1,.t 4),(1,1,.t 10)]),Js 0 11 2] .ret))
def r33:List RV:=[.cell 0 2 true]
theorem t33:Qt1 Tryz.prog 33 c33 r33 12:=ZH Tryz.func33
def c5:SC:=(sr1 [o1 2 (Jz 0 0 34),o1 3 (Jz 1 0 37),Jw 4 Jf] (sr1 [o1 5 (lt 2 37),o1 6 (J1 13 5),o1 7 (Jh 6),m1 8 7,g1 9 8 true (ao 3 0),g1 10 8 true (lf 9 1),g1 11 8 true (Jl 10),g1 12 8 true (Jc .leq 11 40),o1 13 (.pick (.t 8) (.t 12) Jf),m1 14 13,g1
 15 14 true (ao 2 35),g1 16 14 true (lf 15 1),g1 17 14 true (Jc .leq 16 2000),o1 18 (.pick (.t 14) (.t 17) Jf),m1 19 18,g1 20 19 true (lt 2 37),g1 21 19 true (J1 14 20),g1 22 19 true (Jc .eql 21 0),o1 23 (.pick (.t 19) (.t 22) Jf),m1 24 23,g1 25 24
 true (lt 2 37),g1 26 24 true (lt 3 3),g1 27 24 true (J2 15 25 26),o1 28 (.pick (.t 24) (.t 27) Jf),m1 4 28] .ret))
def r5:List RV:=[.tmp 4]
theorem b5:Yn Tryz.prog 5=true:=by kernel_rfl
theorem t5:Qt1 Tryz.prog 5 c5 r5 29:=ZH Tryz.func5 rfl b5 (by kernel_rfl) (by kernel_rfl) (by kernel_rfl)
def c4:SC:=(sr1 [Jw 0 Jf] (sr1 [o1 5 (.call 10 []),o1 6 (J1 9 5),m1 4 6,o1 7 (Je 4 0),o1 8 (Je 4 1),o1 9 (Je 4 2),o1 1 (.alloc ZqB 37),Js 1 7 3,m1 2 8,m1 3 9] (sr1 [o1 10 (.call 11 []),m1 11 10,g1 12 11 true (.mv (.t 3)),g1 13 11 true (Jc .eql 12
 0),o1 14 (.pick (.t 11) (.t 13) Jf),m1 15 14,g1 16 15 true (.mv (.t 2)),g1 17 15 true (Jc .eql 16 14),o1 18 (.pick (.t 15) (.t 17) Jf),m1 19 18,g1 20 19 true (lt 1 3),g1 21 19 true (.bsl 1 3 [cn 0]),g1 22 19 true (.build ZqB [(0,1,.t 21),(1,1,.c
 (.int .i64 2)),(2,1,.c (.int .i64 1))]),g1 23 19 true (J2 12 20 22),o1 24 (.pick (.t 19) (.t 23) Jf),m1 0 24] .ret)))
def r4:List RV:=[.tmp 0]
theorem n4:Tryz.f4.ntmps=25:=by kernel_rfl
theorem b4:Yn Tryz.prog 4=true:=by kernel_rfl
theorem t4:Qt1 Tryz.prog 4 c4 r4 25:=ZH Tryz.func4 rfl b4 (by kernel_rfl) (by kernel_rfl) n4
def c11:SC:=(sr1 [Jw 0 Jf] (sr1 [o1 7 (.call 7 [cn 1,cn 1]),o1 8 (.call 7 [cn 10,cn 20]),o1 9 (.build ZqK [(0,2,.t 7),(2,2,.t 8)]),o1 1 (.alloc ZqK 91),Js 1 9 6] (.seq (.regd (Jr 13) [Jo 11 (.call 35 [cn 0,cn 0]),Jo 12 (lt 1 6),Jo 13 (lt 1 6),Jo 14
 (lt 1 6),Jp 15 (.bsl 6 91 [.t 12,.t 13,.t 14]) [1,2,3],Jp 16 (.call 34 [.t 11,.t 15,cn 30,cn 0,cn 10]) [0,4],Jp 10 (.mv (.t 16)) [5],Jp 17 (Je 10 0) [6],Jp 18 (Je 10 1) [6],Jp 19 (Je 10 2) [6],Jp 2 (.mv (.t 17)) (Jr 8),Jp 3 (.mv (.t 18))
 [0,1,2,3,4,5,6,7,8,10],Jp 4 (.mv (.t 19)) (Jr 12)] 0 0 []) (.seq (.regd (Jr 9) [Jo 21 (.call 35 [cn 0,cn 0]),Jo 22 (lt 1 6),Jp 23 (J2 36 21 22) [0,1],Jp 20 (.mv (.t 23)) [2],Jp 24 (Je 20 0) [3],Jp 25 (Je 20 1) [3]] 1 2 [o1 5 (.alloc [.slice none 0 0]
 96),Ju 5 24 1 [0,1,2,3,4,6],⟨some 6,.mv (.t 25),none,(Jr 8)⟩]) (sr1 [o1 26 (.call 37 []),m1 27 26,g1 28 27 true (.mv (.t 4)),g1 29 27 true (Jc .eql 28 0),o1 30 (.pick (.t 27) (.t 29) Jf),m1 31 30,g1 32 31 true (.mv (.t 2)),g1 33 31 true (Jc .eql 32
 1),o1 34 (.pick (.t 31) (.t 33) Jf),m1 35 34,g1 36 35 true (.mv (.t 3)),g1 37 35 true (Jc .eql 36 2),o1 38 (.pick (.t 35) (.t 37) Jf),m1 39 38,g1 40 39 true (.mv (.t 6)),g1 41 39 true (Jc .eql 40 0),o1 42 (.pick (.t 39) (.t 41) Jf),m1 43 42,g1 44 43
 true (lt 5 1),g1 45 43 true (.build zv4 [(0,1,.c (.int .i64 1)),(2,1,.c (.int .i64 20))]),g1 46 43 true (.build zv4 [(0,1,.c (.int .i64 (-1))),(2,1,.c (.int .i64 (-10)))]),g1 47 43 true (.build zv4 [(1,1,.c (.int .i64 1))]),g1 48 43 true (.build zv4
 [(1,1,.c (.int .i64 (-1)))]),g1 49 43 true (.bsl 3 103 [.t 45,.t 46,.t 47,.t 48]),g1 50 43 true (.build [.slice none 0 0] [(0,1,.t 49)]),g1 51 43 true (J2 38 44 50),o1 52 (.pick (.t 43) (.t 51) Jf),m1 0 52] .ret)))))
def r11:List RV:=[.tmp 0]
theorem t11:Qt1 Tryz.prog 11 c11 r11 53:=ZH Tryz.func11
def c3:SC:=(sr1 [o1 3 (Jz 0 0 34),o1 4 (Jz 1 0 37),Jw 6 Jf] (sr1 [o1 23 (.call 4 []),m1 7 23] (.seq (sr1 [m1 24 7,o1 25 (Jh 24)] (Ji 25 (sr1 [Jw 6 Jf] .ret) .skip)) (.seq (sr1 [o1 26 (lt 3 37),o1 27 (lt 4 3),o1 28 (J2 5 26 27),o1 29 (Jh 28)] (Ji 29
 (sr1 [m1 30 7,m1 6 30] .ret) .skip)) (sr1 [o1 32 (lt 3 37),o1 33 (lt 4 3),o1 34 (J2 6 32 33),m1 31 34,o1 35 (Je 31 0),o1 36 (Je 31 1),m1 8 35,m1 9 36] (.seq (sr1 [m1 37 9,o1 38 (Jc .neq 37 0)] (Ji 38 (sr1 [m1 39 7,m1 40 39,g1 41 40 true (.mv (.t
 9)),g1 42 40 true (Jc .eql 41 92),o1 43 (.pick (.t 40) (.t 42) Jf),m1 6 43] .ret) .skip)) (sr1 [o1 44 (ao 3 28),o1 45 (lf 44 1),o1 46 (ao 4 1),o1 47 (lf 46 1),o1 48 (Jb .sub 45 47),m1 10 48] (sr1 [m1 49 10,m1 50 10,o1 51 (J2 7 49 50),o1 52 (.call 7
 [cn 0,cn 100000]),o1 53 (.build zv5 [(8,2,.t 51),(12,2,.t 52)]),o1 11 (.alloc zv5 45),Js 11 53 14] (.seq (.regd (Jr 17) [Jo 55 (ao 3 28),Jp 56 (lf 55 1) [0],Jo 57 (ao 3 28),Jp 58 (lf 57 1) [2],Jp 59 (J2 7 56 58) [1,3],Jo 60 (lt 11 14),Jp 61 (.bsl 14
 45 [.t 60]) [5],Jp 62 (J2 8 59 61) [4,6],Jp 54 (.mv (.t 62)) [7],Jp 63 (Je 54 0) [8],Jp 64 (Je 54 1) [8],Jp 65 (Je 54 2) [8],Jp 66 (Je 54 3) [8],Jp 12 (.mv (.t 63)) (Jr 10),Jp 13 (.mv (.t 64)) [0,1,2,3,4,5,6,7,8,9,10,13],Jp 14 (.mv (.t 65))
 [0,1,2,3,4,5,6,7,8,9,10,11,13,14],Jp 15 (.mv (.t 66)) (Jr 16)] 0 0 []) (sr1 [m1 67 2,o1 68 (.conv .i64 (.t 67)),m1 69 2,o1 70 (.conv .i64 (.t 69)),o1 71 (J2 7 68 70),o1 72 (ao 11 12),Js 72 71 2] (.seq (.regd (Jr 17) [Jo 74 (ao 3 28),Jp 75 (lf 74 1)
 [0],Jo 76 (ao 3 28),Jp 77 (lf 76 1) [2],Jp 78 (J2 7 75 77) [1,3],Jo 79 (lt 11 14),Jp 80 (.bsl 14 45 [.t 79]) [5],Jp 81 (J2 8 78 80) [4,6],Jp 73 (.mv (.t 81)) [7],Jp 82 (Je 73 0) [8],Jp 83 (Je 73 1) [8],Jp 84 (Je 73 2) [8],Jp 85 (Je 73 3) [8],Jp 16
 (.mv (.t 82)) (Jr 10),Jp 17 (.mv (.t 83)) [0,1,2,3,4,5,6,7,8,9,10,13],Jp 18 (.mv (.t 84)) [0,1,2,3,4,5,6,7,8,9,10,11,13,14],Jp 19 (.mv (.t 85)) (Jr 16)] 0 0 []) (.seq (.seq (.regd (Jr 40) [Jm 86 15,Jp 87 (Jc .neq 86 0) [0],Jp 88 (.mv (.t 87)) [1],Jq
 89 88 false (.mv (.t 12)) [2],Jq 90 88 false (Jl 89) [2,3],Jq 91 88 false (Jc .neq 90 2) [2,4],Jp 92 (.pick (.t 88) Jt (.t 91)) [2,5],Jp 93 (.mv (.t 92)) [2,6],Jq 94 93 false (.mv (.t 12)) [7],Jq 95 93 false (.ixs (.t 94) (cn 1) 2) [7,8],Jq 96 93
 false (lt 95 2) [7,9],Jq 97 93 false (ao 4 1) [7],Jq 98 93 false (lf 97 1) [7,11],Jq 99 93 false (ao 4 1) [7],Jq 100 93 false (lf 99 1) [7,13],Jq 101 93 false (J2 7 98 100) [7,12,14],Jq 102 93 false (.eqs true true [1,1] (.t 96) (.t 101))
 [7,10,15],Jp 103 (.pick (.t 93) Jt (.t 102)) [7,16],Jp 104 (.mv (.t 103)) [15,17],Jq 105 104 false (.mv (.t 19)) [18],Jq 106 104 false (Jc .eql 105 0) [18,19],Jq 107 104 false (.mv (.t 2)) [18],Jq 108 104 false (.conv .i64 (.t 107)) [18,21],Jq 109
 104 false (ao 4 1) [18],Jq 110 104 false (lf 109 1) [18,23],Jq 111 104 false (Jb .eql 108 110) [18,22,24],Jq 112 104 false (.eqs true false [0] (.t 106) (.t 111)) [18,20,25],Jp 113 (.pick (.t 104) Jt (.t 112)) [18,26],Jp 114 (.mv (.t 113)) [18,27],Jq
 115 114 false (.mv (.t 19)) [28],Jq 116 114 false (Jc .neq 115 0) [28,29],Jq 117 114 false (.mv (.t 116)) [28,30],Jq 118 117 true (.mv (.t 19)) [31],Jq 119 117 true (Jc .neq 118 25) [31,32],Jq 120 117 true (.mv (.t 119)) [31,33],Jq 121 120 false (.mv
 (.t 18)) [34],Jq 122 120 false (Jc .neq 121 0) [34,35],Jq 123 117 true (.pick (.t 120) Jt (.t 122)) [31,34,36],Jq 124 114 false (.pick (.t 117) (.t 123) Jf) [28,31,37],Jp 125 (.pick (.t 114) Jt (.t 124)) [28,38]] 0 0 []) (Ji 125 (sr1 [Jw 6 Jf] .ret)
 .skip)) (sr1 [o1 126 (lt 3 37),o1 20 (.alloc zv3 34),Js 20 126 37] (sr1 [o1 127 (ao 3 32),o1 128 (lf 127 1),o1 129 (Jc .add 128 1),o1 130 (.mm false [.t 129,cn 1000000]),o1 131 (ao 20 32),Js 131 130 1] (sr1 [o1 133 (lt 20 37),o1 134 (lt 4 3),o1 135
 (J2 6 133 134),m1 132 135,o1 136 (Je 132 0),o1 137 (Je 132 1),m1 21 136,m1 22 137] (sr1 [m1 138 7,m1 139 138,g1 140 139 true (.mv (.t 22)),g1 141 139 true (Jc .eql 140 0),o1 142 (.pick (.t 139) (.t 141) Jf),m1 143 142,g1 144 143 true (.mv (.t 21)),g1
 145 143 true (.mv (.t 8)),g1 146 143 true (Jb .sub 144 145),g1 147 143 true (.mv (.t 10)),g1 148 143 true (ao 20 32),g1 149 143 true (lf 148 1),g1 150 143 true (ao 3 32),g1 151 143 true (lf 150 1),g1 152 143 true (Jb .sub 149 151),g1 153 143 true (Jb
 .mul 147 152),g1 154 143 true (Jb .eql 146 153),o1 155 (.pick (.t 143) (.t 154) Jf),m1 6 155] .ret))))))))))))))))
def r3:List RV:=[.tmp 6]
theorem n3:Tryz.f3.ntmps=156:=by kernel_rfl
theorem b3:Yn Tryz.prog 3=true:=by kernel_rfl
theorem t3:Qt1 Tryz.prog 3 c3 r3 156:=ZH Tryz.func3 rfl b3 (by kernel_rfl) (by kernel_rfl) n3
end Go.Proofs.YtongccnhomncnaaGreat
namespace Go.Azalai
open Go Go.Sx
structure Half where
 a:Int
 b:Int
 c:Int
deriving DecidableEq
abbrev WD:=Int × Int × Int
def Wn (p q:Half):WD :=
 if w64 (w64 (p.a * q.b) - w64 (q.a * p.b)) < 0 then (w64 (0 - w64 (w64 (p.c * q.b) - w64 (q.c * p.b))),w64 (0 - w64 (w64 (p.a * q.c) - w64 (q.a * p.c))),w64 (0 - w64 (w64 (p.a * q.b) - w64 (q.a * p.b))))
 else (w64 (w64 (p.c * q.b) - w64 (q.c * p.b)),w64 (w64 (p.a * q.c) - w64 (q.a * p.c)),w64 (w64 (p.a * q.b) - w64 (q.a * p.b)))
def inH (c:WD) (h:Half):Bool:=decide (w64 (w64 (h.a * c.1)+w64 (h.b * c.2.1))<=w64 (h.c * c.2.2))
def okC (l:List Half) (c:WD):Bool:=c.2.2 != 0 && l.all (inH c)
def Zkh (g:WD->Bool) (l:List Half) (p:Half) (q:List Half):Bool:=q.any λx=>okC l (Wn p x) && g (Wn p x)
def Zmy (g:WD->Bool) (l:List Half):Nat->Bool
 | 0=>false
 | n+1=>Zmy g l n || (match l[n]? with | some p=>Zkh g l p (l.take n) | none=>false)
def Zic (l:List Half):Bool:=Zmy (λ_=>true) l l.length
def Vx (x y far:Int):List Half:=[⟨1,0,w64 (x+far)⟩,⟨-1,0,w64 (0 - w64 (x - far))⟩,⟨0,1,w64 (y+far)⟩,⟨0,-1,w64 (0 - w64 (y - far))⟩]
def ZfT (l:List Half) (x y far:Int):Int :=
 if Zic (l ++ Vx x y far)=false then 0 else if Zmy (λc=>(Vx x y far).any λh=>!inH c h) l l.length=true then 1 else 2
end Go.Azalai
