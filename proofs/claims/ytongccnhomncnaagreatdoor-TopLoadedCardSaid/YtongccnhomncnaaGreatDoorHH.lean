/- Walks and plain laws that lead to the given statement, part 8 of 20. -/
import Derived.Test.YtongccnhomncnaaGreatDoorHG
import Derived.Test.YtongccnhomncnaaGreatDoorProg
import Derived.WideLaws
set_option maxRecDepth 100000
set_option maxHeartbeats 8000000
set_option linter.all false
open Nat renaming beq_refl->nbr
namespace Go.Proofs.YtongccnhomncnaaGreatDoor
open Go Go.Sx Go.Azalai
theorem Za4 {α : Type} (p:α->Bool) {l:List α} {k:Nat} (h:k < l.length):(l.drop k).all p=(p l[k] && (l.drop (k+1)).all p):=by
 rw [List.drop_eq_getElem_cons h,List.all_cons]
theorem ibne (a b:Nat):((a:Int) != (b:Int)) = !decide (a=b):=by
 rw [Bool.eq_iff_iff];simp [bne];omega
theorem okX1 (n:Nat) (x:Scene):(!ZW 0 60 x.heat || !ZW 0 1000000 x.grass || (x.yields.length:Int) != (n:Int) || !x.yields.all (ZW 0 10000000) || (x.prices.length:Int) != (n:Int) || !x.prices.all (inR 0 1000000)) = !YI n x:=by
 simp only [ibne,YI];generalize ZW 0 60 x.heat=a;generalize ZW 0 1000000 x.grass=b;generalize decide (x.yields.length=n)=c;generalize decide (x.prices.length=n)=d;generalize x.yields.all (ZW 0 10000000)=e;generalize x.prices.all (inR 0 1000000)=f
 revert a b c d e f;decide
theorem okX2 (n:Nat) (x:Scene) (h:(!ZW 0 60 x.heat || !ZW 0 1000000 x.grass || (x.yields.length:Int) != (n:Int) || (x.prices.length:Int) != (n:Int))=true):YI n x=false:=by
 simp only [ibne] at h;simp only [YI]
 revert h
 generalize ZW 0 60 x.heat=a;generalize ZW 0 1000000 x.grass=b;generalize decide (x.yields.length=n)=c;generalize decide (x.prices.length=n)=d;generalize x.yields.all (ZW 0 10000000)=e;generalize x.prices.all (inR 0 1000000)=f
 revert a b c d e f;decide
theorem okX3 (n:Nat) (x:Scene) (h:(!ZW 0 60 x.heat || !ZW 0 1000000 x.grass || (x.yields.length:Int) != (n:Int) || (x.prices.length:Int) != (n:Int))=false) :
 YI n x=(x.yields.all (ZW 0 10000000) && x.prices.all (inR 0 1000000))/\x.yields.length=n/\x.prices.length=n:=by
 simp only [ibne,Bool.or_eq_false_iff,Bool.not_eq_false',decide_eq_true_eq] at h;obtain ⟨⟨⟨h1,h2⟩,h3⟩,h4⟩:=h;refine ⟨?_,h3,h4⟩;simp only [YI,h1,h2,h3,h4,decide_true,Bool.true_and]
theorem Zn1 (s:Season) (hs:SmallS s):∃ xs:Rr,KFR xs/\Cp 101 [.agg (Yo s.land),I s.start,I s.day,.agg (Ze s.pace)] (.tup [.sl false 2 xs,I (WF s.land s.pace s.start s.day)]):=by
 have h:=Zli s.land hs.land s.start s.day s.pace;unfold X3 at h;split at h
 . exact ⟨_,by simp [Za,Ze],h⟩
 . exact ⟨[],trivial,h.res (res0:=.tup [.sl false 2 [],I (WF s.land s.pace s.start s.day)]) (by simp [Za,KFR]) (VR (ZH YP Wl))⟩
theorem Zxg {s:Season}:WF s.land s.pace s.start s.day=0↔Z7 s.land=true/\Yf s.pace=true/\inR 0 (s.land.wells.length - 1) s.start=true/\inR 0 100000 s.day=true:=by
 unfold WF Za0;cases Z7 s.land<;>cases Yf s.pace<;>cases inR 0 (s.land.wells.length - 1) s.start<;>cases inR 0 100000 s.day<;>simp
theorem ZgJ (s:Season):ZR s=((decide (WF s.land s.pace s.start s.day=0) && decide (Uz s.breed s.camel=0) && Za2 s && inR 1 4 s.scenes.length) && s.scenes.all (YI s.land.wells.length)):=by
 have hd:Za2 s=true->inR 0 100000 s.day=true:=λh=>by
  simp only [Za2,inR,Bool.and_eq_true,decide_eq_true_eq] at h ⊢;omega
 have hr:decide (WF s.land s.pace s.start s.day=0)=(Z7 s.land && Yf s.pace && inR 0 (s.land.wells.length - 1) s.start && inR 0 100000 s.day):=by
  rw [Bool.eq_iff_iff,decide_eq_true_eq,Zxg];simp only [Bool.and_eq_true,and_assoc]
 rw [hr];simp only [ZR];cases hn:Za2 s
 . simp
 . rw [hd hn];cases Z7 s.land<;>cases Yf s.pace<;>cases inR 0 (s.land.wells.length - 1) s.start<;>simp
theorem ZeX (s:Season) (hs:SmallS s):Cp 46 [.agg (Zv s)] (I (if ZR s=true then 0 else 90)):=by
 have hw:=hs.land.1;have hsc:=hs.sc;refine t46.1 (by simp [Zv,Zl,Zg,Zr,Zi,Ze,Zk,Za]) (by simp) ?_;dsimp only [c46,r46,Zv,go_sem];obtain ⟨x,hx0,hc⟩:=Zn1 s hs;refine call hc ?_;dsimp only [go_sem];repeat (first | (refine gb ?_;dsimp only [go_sem]) | (refine call (ZlJ _ _ _ _) ?_;dsimp only [go_sem]) | (refine call (ZuH _ _ _ _ _) ?_;dsimp only [go_sem]) | (refine call (Cm.checkCamel_ok s.breed s.camel) ?_;dsimp only [go_sem]))
 simp only [List.length_map];by_cases hA:(decide (WF s.land s.pace s.start s.day=0) && decide (Uz s.breed s.camel=0) && Za2 s && inR 1 4 s.scenes.length)=true
 case neg =>
  refine Zs ?_ ?_
  . simp only [Za2] at hA;grind
  dsimp only [go_sem];rw [ZgJ,Bool.eq_false_iff.2 hA,Bool.false_and];rfl
 refine Zo ?_ ?_
 . simp only [Za2] at hA;grind
 dsimp only [go_sem];rw [ZgJ,hA,Bool.true_and];simp only [List.length_map];refine UV [1,3,85,86,87] rfl (λk:Nat=>[(87,I k)]) (λ_=>[]) (λk=>k<=s.scenes.length/\(s.scenes.drop k).all (YI s.land.wells.length)=s.scenes.all (YI s.land.wells.length)) (λk=>s.scenes.length - k) 0 ⟨Nat.zero_le _,rfl⟩ ?_ ?_
 . (refine Zj ?_ ?_ ?_ rfl rfl<;>dsimp only [Zi,Zg,Zr,Zl,Ze,Zk,hx0,id,go_sem]<;>simp [Zi,Zg,Zr,Zl,Ze,Zk,hx0,Za])
 intro k ⟨hk,hi⟩;dsimp only [go_sem];by_cases hlt:k < s.scenes.length
 . refine Zs (by simpa using hlt) ?_;dsimp only [go_sem];have hx:=hs.each _ (List.getElem_mem hlt);refine Zn k hlt rfl ?_;dsimp only [Zl,go_sem];repeat (first | (refine gb ?_;dsimp only [go_sem]) | (refine call (ZeK _ _ s.scenes[k].heat _) ?_;dsimp only [go_sem]) | (refine call (ZeK _ _ s.scenes[k].grass _) ?_;dsimp only [go_sem]) | (refine call (ZaJ _ _ s.scenes[k].yields (by omega) _) ?_;dsimp only [go_sem]) | (refine call (Zbo _ _ s.scenes[k].prices (by omega) _) ?_;dsimp only [go_sem]))
   simp only [List.length_map];rw [Za4 _ hlt] at hi;rw [okX1];refine br ?_ ?_
   . intro hb;dsimp only [go_sem];rw [<- hi,(by simpa using hb:YI s.land.wells.length s.scenes[k]=false)];rfl
   intro hb;dsimp only [go_sem];rw [Zf (n:=(k:Int)+1) (by omega) (by omega)];rw [(by simpa using hb:YI s.land.wells.length s.scenes[k]=true),Bool.true_and] at hi;refine ⟨k+1,⟨hlt,hi⟩,by omega,?_⟩;(refine Zj ?_ ?_ ?_ rfl rfl<;>dsimp only [Zi,Zg,Zr,Zl,Ze,Zk,hx0,id,go_sem]<;>simp [Zi,Zg,Zr,Zl,Ze,Zk,hx0,Za])
 refine Zo (by simp;omega) ?_;dsimp only [go_sem];rw [<- hi,List.drop_eq_nil_of_le (by omega)];rfl
theorem Zls (s:Season) (hs:SmallS s):Cp 65 [.agg (Zv s)] (B (ZR s)):=by
 refine t65.1 (by simp [Zv,Zl,Zg,Zr,Zi,Ze,Zk,Za]) (by simp) ?_;dsimp only [c65,r65,Zv,go_sem];refine call (Zkb s.land hs.land) ?_;dsimp only [go_sem];repeat (first | (refine gb ?_;dsimp only [go_sem]) | (refine call (Zq2 s.pace) ?_;dsimp only [go_sem]) | (refine call (Cm.checkCamelR_ok s.breed s.camel) ?_;dsimp only [go_sem]))
 have hw:=hs.land.1;have hsc:=hs.sc;refine br ?_ ?_
 . intro h;dsimp only [go_sem]
   (simp only [ZR,Option.some.injEq,SV.v.injEq,Value.bool.injEq]<;>grind)
 intro h;dsimp only [go_sem];repeat (first | (refine gb ?_;dsimp only [go_sem]) | (refine call (XY _ _ _) ?_;dsimp only [go_sem]))
 refine br ?_ ?_
 . intro h2;dsimp only [go_sem]
   (simp only [ZR,Za2,Option.some.injEq,SV.v.injEq,Value.bool.injEq]<;>grind)
 intro h2;dsimp only [go_sem];simp only [List.length_map];rw [Zf (n:=(s.land.wells.length:Int) - 1) (by omega) (by omega)];repeat (first | (refine gb ?_;dsimp only [go_sem]) | (refine call (XY _ _ _) ?_;dsimp only [go_sem]))
 simp only [List.length_map];refine br ?_ ?_
 . intro h3;dsimp only [go_sem]
   (simp only [ZR,Za2,Option.some.injEq,SV.v.injEq,Value.bool.injEq]<;>grind)
 intro h3;dsimp only [go_sem];have hO:ZR s=s.scenes.all (YI s.land.wells.length):=by simp only [ZR,Za2];grind
 rw [hO];refine UV [1,3] rfl (λk:Nat=>[(3,I k)]) (λ_=>[]) (λk=>k<=s.scenes.length/\(s.scenes.drop k).all (YI s.land.wells.length)=s.scenes.all (YI s.land.wells.length)) (λk=>s.scenes.length - k) 0 ⟨Nat.zero_le _,rfl⟩ ?_ ?_
 . (refine Zj ?_ ?_ ?_ rfl rfl<;>dsimp only [Zi,Zg,Zr,Zl,Ze,Zk,id,go_sem]<;>simp [Zi,Zg,Zr,Zl,Ze,Zk,Za])
 intro k ⟨hk,hi⟩;dsimp only [go_sem];simp only [List.length_map];by_cases hlt:k < s.scenes.length
 . refine Zs (by simpa using hlt) ?_;dsimp only [go_sem];have hx:=hs.each _ (List.getElem_mem hlt);refine Zn k hlt rfl ?_;dsimp only [Zl,go_sem];rw [Za4 _ hlt] at hi;repeat (first | (refine gb ?_;dsimp only [go_sem]) | (refine call (Uo s.scenes[k].heat _ _) ?_;dsimp only [go_sem]) | (refine call (Uo s.scenes[k].grass _ _) ?_;dsimp only [go_sem]))
   simp only [List.length_map];refine br ?_ ?_
   . intro hb;dsimp only [go_sem];rw [<- hi,okX2 _ _ hb];rfl
   intro hb;dsimp only [go_sem];obtain ⟨hy,hx1,hx2⟩:=okX3 _ _ hb;rw [hy] at hi;refine UV [1,3,4,5] rfl (λj:Nat=>[(5,I j)]) (λ_=>[]) (λj=>j<=s.scenes[k].yields.length/\((s.scenes[k].yields.drop j).all (ZW 0 10000000) && (s.scenes[k].prices.drop j).all (inR 0 1000000))=(s.scenes[k].yields.all (ZW 0 10000000) && s.scenes[k].prices.all (inR 0 1000000))) (λj=>s.scenes[k].yields.length - j) 0 ⟨Nat.zero_le _,rfl⟩ ?_ ?_
   . (refine Zj ?_ ?_ ?_ rfl rfl<;>dsimp only [Zi,Zg,Zr,Zl,Ze,Zk,id,go_sem]<;>simp [Zi,Zg,Zr,Zl,Ze,Zk,Za])
   intro j ⟨hj,hij⟩;dsimp only [go_sem];simp only [List.length_map];by_cases hlj:j < s.scenes[k].yields.length
   . refine Zs (by simpa using hlj) ?_;dsimp only [go_sem];refine Zn j hlj rfl ?_;dsimp only [Ze,go_sem];refine call (Uo s.scenes[k].yields[j] _ _) ?_;dsimp only [go_sem];have hlp:j < s.scenes[k].prices.length:=by omega
     rw [Za4 _ hlj,Za4 _ hlp] at hij;repeat (first | (refine gb ?_;dsimp only [go_sem]) | (refine Zn j hlp rfl ?_;dsimp only [Zk,go_sem]) | (refine ZuC j hlp rfl ?_;dsimp only [Zk,go_sem]) | (refine call (XY _ _ _) ?_;dsimp only [go_sem]))
     refine br ?_ ?_
     . intro hc;dsimp only [go_sem];rw [<- hi,<- hij];cases h1:ZW 0 10000000 s.scenes[k].yields[j]<;>cases h2:inR 0 1000000 s.scenes[k].prices[j]<;>simp [h1,h2] at hc ⊢
     intro hc;dsimp only [go_sem];rw [Zf (n:=(j:Int)+1) (by omega) (by omega)];simp only [Bool.or_eq_false_iff,Bool.not_eq_false'] at hc;rw [hc.1,hc.2,Bool.true_and,Bool.true_and] at hij;refine ⟨j+1,⟨hlj,hij⟩,by omega,?_⟩;(refine Zj ?_ ?_ ?_ rfl rfl<;>dsimp only [Zi,Zg,Zr,Zl,Ze,Zk,id,go_sem]<;>simp [Zi,Zg,Zr,Zl,Ze,Zk,Za])
   refine Zo (by simp;omega) ?_;dsimp only [go_sem];rw [List.drop_eq_nil_of_le (by omega),List.drop_eq_nil_of_le (by omega)] at hij;rw [<- hij] at hi;rw [Zf (n:=(k:Int)+1) (by omega) (by omega)];refine ⟨k+1,⟨hlt,by simpa using hi⟩,by omega,?_⟩;(refine Zj ?_ ?_ ?_ rfl rfl<;>dsimp only [Zi,Zg,Zr,Zl,Ze,Zk,id,go_sem]<;>simp [Zi,Zg,Zr,Zl,Ze,Zk,Za])
 refine Zo (by simp;omega) ?_;dsimp only [go_sem];rw [<- hi,List.drop_eq_nil_of_le (by omega)];rfl
end Go.Proofs.YtongccnhomncnaaGreatDoor
namespace Go.Azalai
open Go.Sx
def VG (l:Land) (p:Span) (to till:Int):Nat->List Int->Int->Int->List (List Nat)
 | 0,_,_,_=>[]
 | f+1,been,v,t =>
  if t > till then []
  else if v=to then [[]]
  else (List.range l.legs.length).flatMap λi=>match l.legs[i]? with
   | none=>[]
   | some x=>if Zm x v < 0\/Zm x v ∈ v :: been then [] else (VG l p to till f (v :: been) (Zm x v) (Z6 true x p t)).map (i :: ·)
def Wt (l:Land) (p:Span) (to till:Int) (f:Nat) (been:List Int) (v t:Int) (i:Nat):List (List Nat) :=
 match l.legs[i]? with
 | none=>[]
 | some x=>if Zm x v < 0\/Zm x v ∈ v :: been then [] else (VG l p to till f (v :: been) (Zm x v) (Z6 true x p t)).map (i :: ·)
def Y1 (l:Land) (p:Span) (to till:Int) (f:Nat) (been:List Int) (v t:Int) (j:Nat):List (List Nat):=(List.range j).flatMap (Wt l p to till f been v t)
theorem Znv {l:Land} {p:Span} {to till:Int} {f:Nat} {been:List Int} {v t:Int}:Y1 l p to till f been v t 0=[]:=rfl
theorem Xi {l:Land} {p:Span} {to till:Int} {f:Nat} {been:List Int} {v t:Int} {j:Nat}:Y1 l p to till f been v t (j+1)=Y1 l p to till f been v t j ++ Wt l p to till f been v t j:=by
 simp [Y1,List.range_succ]
theorem X1 {l:Land} {p:Span} {to till:Int} {f:Nat} {been:List Int} {v t:Int}:VG l p to till (f+1) been v t=if t > till then [] else if v=to then [[]] else Y1 l p to till f been v t l.legs.length:=rfl
theorem ZiZ {l:Land} {p:Span} {to till:Int} {f:Nat} {been:List Int} {v t:Int} (h:t > till):VG l p to till f been v t=[]:=by
 cases f with
 | zero=>rfl
 | succ f=>rw [X1,if_pos h]
def cap (L:List (List Nat)):List (List Nat):=L.take 201
theorem Znk {A B:List (List Nat)} (h:A.length > 200):cap (A ++ B)=cap A:=by
 unfold cap;rw [List.take_append_of_le_length (by omega)]
theorem Zdh {A:List (List Nat)} (h:A.length<=201):cap A=A:=List.take_of_length_le h
def Zoi (l:Land) (f:Nat) (been:List Int):Prop:=been.Nodup/\(∀ v ∈ been,0<=v/\v < l.wells.length)/\f+been.length=l.wells.length+1
theorem Zfh {n:Nat}:∀ {been:List Int},been.Nodup->(∀ v ∈ been,0<=v/\v < n)->been.length<=n:=by
 intro been hn hb;have h1:(been.map Int.toNat).Nodup:=by
  rw [List.Nodup,List.pairwise_map];refine List.Pairwise.imp_of_mem (λ{a b} ha hb' hab=>?_) hn;have:=hb a ha;have:=hb b hb';omega
 have h2:∀ x ∈ been.map Int.toNat,x ∈ List.range n:=λx hx=>by
  obtain ⟨v,hv,rfl⟩:=List.mem_map.1 hx;have:=hb v hv;simp only [List.mem_range];omega
 have:=List.Nodup.length_le_of_subset h1 h2;simpa using this
theorem Zoi.pos {l:Land} {f:Nat} {been:List Int} {v:Int} (h:Zoi l f been) (hv:v ∉ been) (hi:0<=v/\v < l.wells.length):∃ g,f=g+1/\Zoi l g (v :: been):=by
 obtain ⟨h1,h2,h3⟩:=h;have hn:(v :: been).Nodup:=List.nodup_cons.2 ⟨hv,h1⟩;have hb:∀ u ∈ v :: been,0<=u/\u < l.wells.length:=λu hu=>by
  rcases List.mem_cons.1 hu with rfl | hu
  . exact hi
  . exact h2 u hu
 have:=Zfh hn hb;simp only [List.length_cons] at this;exact ⟨f - 1,by omega,hn,hb,by simp only [List.length_cons];omega⟩
theorem Zoi.start {l:Land}:Zoi l (l.wells.length+1) []:=⟨List.nodup_nil,λv h=>(by cases h),by simp⟩
def Zd2 (l:Land) (p:Span) (s to day till:Int):Int :=
 if Za0 l p≠0 then Za0 l p
 else if (inR 0 (l.wells.length - 1) s && inR 0 (l.wells.length - 1) to && inR 0 100000 day && inR 0 100000 till)=false then 2
 else if (VG l p to till (l.wells.length+1) [] s day).length > 200 then 9 else 0
def Zao (l:Land) (p:Span) (s to day till:Int):List (List Nat):=VG l p to till (l.wells.length+1) [] s day
end Go.Azalai
namespace Go.Proofs.YtongccnhomncnaaGreatDoor
open Go Go.Sx Go.Azalai
def Y4 (n:Nat):Ls:=[I (n:Int)]
def YL (a:List Nat):SV:=.sl false 1 (a.map Y4)
theorem ZuZ (a:Int):Cp 226 [I a] (B false):=by
 refine t226.1 (by simp [KFR]) (by simp) ?_;dsimp only [c226,r226,go_sem];simp
def Zoe (a b:Int):Int:=if a < b then -1 else if a > b then 1 else 0
theorem Zu7 (a b:Int):Cp 143 [I a,I b] (I (Zoe a b)):=by
 refine t143.1 (by simp [KFR]) (by simp) ?_;dsimp only [c143,r143,go_sem];refine call (ZuZ a) ?_;dsimp only [go_sem];refine call (ZuZ b) ?_;dsimp only [go_sem];refine Zo rfl ?_;dsimp only [go_sem];refine Zo rfl ?_;dsimp only [go_sem];by_cases h:a < b
 . refine Zs (by simpa using h) ?_;dsimp only [go_sem];simp [Zoe,h]
 refine Zo (by simpa using h) ?_;dsimp only [go_sem];by_cases h':a > b
 . refine Zs (by simpa using h') ?_;dsimp only [go_sem];simp only [Zoe,if_neg h,if_pos h']
 refine Zo (by simpa using h') ?_;dsimp only [go_sem];simp only [Zoe,if_neg h,if_neg h']
def ZaQ:List Nat->List Nat->Int
 | [],[]=>0
 | [],_ :: _=>-1
 | _ :: _,[]=>1
 | x :: a,y :: b=>if x < y then -1 else if x > y then 1 else ZaQ a b
theorem Zhm:∀ {a b:List Nat},decide (ZaQ a b < 0)=Vm a b
 | [],[]=>rfl
 | [],_ :: _=>rfl
 | _ :: _,[]=>rfl
 | x :: a,y :: b=>by
  have ih:=Zhm (a:=a) (b:=b);have e:ZaQ (x :: a) (y :: b)=if x < y then -1 else if x > y then 1 else ZaQ a b:=rfl
  generalize ZaQ (x :: a) (y :: b)=c at e;subst e;simp only [Vm];by_cases h:x < y
  . simp [h]
  . by_cases h':x > y
    . have:(x == y)=false:=by simp;omega
      rw [this];simp [h,h']
    . have:(x == y)=true:=by simp;omega
      rw [this];simp [h,h',<- ih]
theorem ZiV (a b:List Nat) (ha:a.length<=1000000) (hb:b.length<=1000000):Cp 87 [YL a,YL b] (I (ZaQ a b)):=by
 refine t87.1 (by simp [Za,YL,Y4]) (by simp) ?_;dsimp only [c87,r87,YL,go_sem];simp only [List.length_map];refine Ym (λj:Nat=>[(11,I j)]) (λ_=>[]) (λj=>j<=a.length/\ZaQ (a.drop j) (b.drop j)=ZaQ a b/\j<=b.length) (λj=>a.length - j) 0 ⟨Nat.zero_le _,rfl,Nat.zero_le _⟩ ?_ ?_
 . (refine Zj ?_ ?_ ?_ rfl rfl<;>dsimp only [Y4,id,go_sem]<;>simp [Y4,Za])
 rintro j ⟨hj,hi,hjb⟩;dsimp only [go_sem];by_cases hlt:j < a.length
 . refine Zs (by simpa using hlt) ?_;dsimp only [go_sem];refine Zn j hlt rfl ?_;dsimp only [Y4,go_sem];simp only [List.length_map];rw [List.drop_eq_getElem_cons hlt] at hi;by_cases hb:j < b.length
   . refine Zo (by simpa using hb) ?_;dsimp only [go_sem];refine Zn j hb rfl ?_;dsimp only [Y4,go_sem];refine call (Zu7 _ _) ?_;dsimp only [go_sem];rw [List.drop_eq_getElem_cons hb] at hi;simp only [ZaQ] at hi;by_cases h:a[j] < b[j]
     . rw [if_pos h] at hi;have e:Zoe (a[j]:Int) (b[j]:Int) = -1:=by simp only [Zoe];rw [if_pos (by omega)]
       rw [e];refine Zs rfl ?_;dsimp only [go_sem];rw [<- hi]
     rw [if_neg h] at hi;by_cases h':a[j] > b[j]
     . rw [if_pos h'] at hi;have e:Zoe (a[j]:Int) (b[j]:Int)=1:=by simp only [Zoe];rw [if_neg (by omega),if_pos (by omega)]
       rw [e];refine Zs rfl ?_;dsimp only [go_sem];rw [<- hi]
     rw [if_neg h'] at hi;have e:Zoe (a[j]:Int) (b[j]:Int)=0:=by simp only [Zoe];rw [if_neg (by omega),if_neg (by omega)]
     rw [e];refine Zo rfl ?_;dsimp only [go_sem];rw [Zf (n:=(j:Int)+1) (by omega) (by omega)];refine ⟨j+1,⟨hlt,hi,hb⟩,by omega,?_⟩;(refine Zj ?_ ?_ ?_ rfl rfl<;>dsimp only [Y4,id,go_sem]<;>simp [Y4,Za])
   . refine Zs (by simp;omega) ?_;dsimp only [go_sem];rw [List.drop_of_length_le (l:=b) (i:=j) (by omega)] at hi;simp only [ZaQ] at hi;rw [<- hi]
 refine Zo (by simp;omega) ?_;dsimp only [go_sem];simp only [List.length_map];rw [List.drop_of_length_le (by omega)] at hi;have hje:j=a.length:=by omega
 subst hje;by_cases hb:a.length < b.length
 . refine Zs (by simpa using hb) ?_;dsimp only [go_sem];rw [List.drop_eq_getElem_cons hb] at hi;simp only [ZaQ] at hi;rw [<- hi]
 . refine Zo (by simpa using hb) ?_;dsimp only [go_sem];rw [List.drop_of_length_le (by omega)] at hi;simp only [ZaQ] at hi;rw [<- hi]
theorem u78 {args:Ls} {res:SV} (ka:KFL args) (kr:KF res) (h:sx Tryz.prog Y0 0 c96 (st0 args 8) (ZB9 r96 res)) (hA:Nat.ble args.length 8=true:=by rfl):Cp 96 args res:=ZeD Tryz.func96 rfl b96 ZCS ZCJ n96 (Nat.le_of_ble_eq_true hA) ka kr h
theorem ZeW (a:List Nat) (ha:a.length<=1000000):Cp 96 [YL a] (YL a):=by
 refine u78 (by simp [Za,YL,Y4]) (by simp [Za,YL,Y4]) ?_;dsimp only [c96,r96,YL,go_sem];intro b hb;dsimp only [go_sem];refine br ?_ ?_
 . intro h;have:=hb h;dsimp only [go_sem];rw [List.map_eq_nil_iff.1 this];exact ⟨_,rfl,YP⟩
 . intro h;dsimp only [go_sem];refine ZEp (by simp;omega) ?_;dsimp only [go_sem];exact ⟨_,rfl,ZcZ.rfl⟩
theorem Zzw (a:List Nat) (ha:a.length<=1000000):Cp 161 [YL a] (.sl true 1 (a.map Y4)):=by
 refine t161.1 (by simp [Za,YL,Y4]) (by simp [Za,YL,Y4]) ?_;dsimp only [c161,r161,YL,go_sem];refine ⟨Z1.2 λ_=>⟨rfl,rfl⟩,?_⟩;dsimp only [go_sem]
theorem ZnL (a:List Nat) (i:Nat) (ha:a.length<=1000000):Cp 98 [YL a,I i] (YL (a ++ [i])):=by
 refine t98.1 (by simp [Za,YL,Y4]) (by simp [KFL,KF,YL,Za,Y4,Zd,KFR]) ?_;dsimp only [c98,r98,go_sem];refine call (ZeW a ha) ?_;dsimp only [go_sem];refine call (Zzw a ha) ?_;dsimp only [go_sem];refine ZEp (by simp;omega) ?_;dsimp only [YL,go_sem];simp [Y4]
theorem Yq {K V:Type} {key:K->Value} {val:V->SV}:mpS key val ([]:List (Nat × K × V))=[]:=rfl
def c95:FB:=(.seq (.gh (.reg [
 o1 8 (.box (.t 0) 0 197),
 o1 9 (.box (.t 1) 0 35),
 o1 10 (.alloc [.bool false] 4)]))
 (.seq (.seq (.reg [
 o1 13 (.addo (.t 8) 1),
 o1 14 (.ld (.t 13) 1 false),
 o1 15 (.ld (.t 2) 1 false),
 o1 16 (.bin .gtr (.t 14) (.t 15))])
 (.cond (.t 16)
 (.seq (.reg [
  ⟨none,.st (.t 10) (.c (.bool true)) 1,none,[]⟩])
  .ret)
 .skip))
 (.seq (.seq (.reg [
 o1 17 (.addo (.t 8) 0),
 o1 18 (.ld (.t 17) 1 false),
 o1 19 (.ld (.t 3) 1 false),
 o1 20 (.bin .eql (.t 18) (.t 19))])
 (.cond (.t 20)
 (.seq (.regd [0,1,2,3,4,5] [
  .op (o1 21 (.ld (.t 4) 1 false)),
  .op (o1 22 (.ld (.t 9) 1 false)),
  .op ⟨some 23,.call 96 [.t 22],none,[1]⟩,
  .op ⟨some 24,.bsl 1 35 [.t 23],none,[2]⟩] 0 2 [
  ⟨some 25,.appm 1 24 35 (.t 21) (.t 24),none,[0,2,3]⟩,
  ⟨none,.st (.t 4) (.t 25) 1,none,[0,1,2,3,4]⟩])
  (.seq (.reg [
  o1 26 (.ld (.t 4) 1 false),
  o1 27 (.len (.t 26)),
  o1 28 (.bin .leq (.t 27) (.c (.int .i64 200))),
  ⟨none,.st (.t 10) (.t 28) 1,none,[]⟩])
  .ret))
 .skip))
 (.seq (.reg [
 o1 29 (.ld (.t 5) 1 false),
 o1 30 (.addo (.t 8) 0),
 o1 31 (.ld (.t 30) 1 false),
 ⟨none,.raw (Go.Op.mapUpdate 168 (Go.Operand.tmp 29) (Go.Operand.tmp 31) (Go.Operand.const (Go.Value.bool Bool.true))) 0,none,[]⟩])
 (.dfr [
 o1 32 (.ld (.t 5) 1 false),
 o1 33 (.addo (.t 8) 0),
 o1 34 (.ld (.t 33) 1 false)] (.t 32) (.t 34) 168
 (.tail (.seq (.seq (.reg [
 o1 35 (.ld (.t 6) 4 true),
 o1 36 (.addo (.t 8) 0),
 o1 37 (.ld (.t 36) 1 false),
 o1 38 (.callm 97 [.t 35,.t 37])])
 (.block 0 (.gh (.rfun (.t 38) [39,40] (.seq (.reg [
  m1 11 39])
  (.reg [
  m1 12 40]))
  (.block 1 (.seq (.regs [0,1,2,3,4,5,6,7,8,9,10,11,12,13,14,15,16,17,18,19,20,21,22] ⟨[
   .op (o1 41 (.ld (.t 5) 1 false)),
   .op (m1 42 12)],0,0,[
   ⟨some 43,.raw (Go.Op.lookup 168 (Go.Operand.tmp 41) (Go.Operand.tmp 42) Bool.false) 4,none,[0,1]⟩]⟩ [⟨[
   .op ⟨some 44,.un .not (.t 43),none,[2]⟩,
   .op ⟨some 45,.mv (.t 44),none,[3]⟩,
   .op ⟨some 46,.ld (.t 7) 1 false,some (45,true),[4]⟩,
   .op ⟨some 47,.mv (.t 12),some (45,true),[4]⟩,
   .op ⟨some 48,.ld (.t 6) 4 true,some (45,true),[4]⟩,
   .op ⟨some 49,.mv (.t 11),some (45,true),[4]⟩,
   .op ⟨some 50,.addo (.t 8) 1,some (45,true),[4]⟩,
   .op ⟨some 51,.ld (.t 50) 1 false,some (45,true),[4,9]⟩,
   .op ⟨some 52,.addo (.t 8) 1,some (45,true),[4]⟩,
   .op ⟨some 53,.ld (.t 52) 1 false,some (45,true),[4,11]⟩,
   .op ⟨some 54,.build zv0 [(0,1,.t 51),(1,1,.t 53)],some (45,true),[4,10,12]⟩,
   .op ⟨some 55,.call 55 [.t 48,.t 49,.t 54],some (45,true),[4,7,8,13]⟩,
   .op ⟨some 56,.idx (.t 55) (.c (.int .i64 1)) 2 1 false,some (45,true),[4,14]⟩,
   .op ⟨some 57,.build zv0 [(0,1,.t 47),(1,1,.t 56)],some (45,true),[4,6,15]⟩,
   .op ⟨some 58,.ld (.t 9) 1 false,some (45,true),[4]⟩,
   .op ⟨some 59,.mv (.t 11),some (45,true),[4]⟩,
   .op ⟨some 60,.call 98 [.t 58,.t 59],some (45,true),[4,14,17,18]⟩],0,0,[
   ⟨some 61,.calvm (.t 46) [.t 57,.t 60],some (45,true),[4,5,16,19]⟩,
   ⟨some 62,.un .not (.t 61),some (45,true),[4,20]⟩,
   ⟨some 63,.pick (.t 45) (.t 62) (.c (.bool false)),none,[4,21]⟩]⟩])
   (.cond (.t 63)
   (.seq (.reg [
    ⟨none,.st (.t 10) (.c (.bool false)) 1,none,[]⟩])
    .ret)
   .skip)))))))
 (.seq (.reg [
 ⟨none,.st (.t 10) (.c (.bool true)) 1,none,[]⟩])
 .ret))))))))
def r95:List RV:=[.cell 10 1 false]
theorem n95:Tryz.f95.ntmps=64:=by kernel_rfl
theorem b95:Z4 Tryz.prog 95=true:=by kernel_rfl
theorem ZDo:U9 Tryz.prog c95 ((Tryz.f95.body).getD .skip)=true:=by kernel_rfl
theorem ZC3:Y2 Tryz.prog r95 Tryz.f95.results.toList=true:=by kernel_rfl
theorem m95 {n0:Nat} {hp0:Lh} {args:Ls} {Zz:Ot->Prop} (hh:hpb n0 hp0) (hx:∀ o,Zz o->KX o.res/\KXP o.hp) (h:fx Tryz.prog n0 c95 ⟨YT 0 args,hp0,n0,64,[]⟩ (X0 r95 λo=>∃ o',Zz o'/\WI n0 o o')) (hA:Nat.ble args.length 64=true:=by rfl):Cq 95 hp0 n0 args Zz:=U7 Tryz.func95 rfl b95 ZDo ZC3 n95 (Nat.le_of_ble_eq_true hA) hh hx h
def c42:SC:=(sr1 [o1 6 (Jz 0 0 25),o1 8 (Jz 2 0 3),o1 10 (Jz 4 0 3),o1 11 (Jz 5 0 27),o1 12 (.mv (.c (.slice none 0 0))),Jk 13 0] (sr1 [o1 20 (lt 6 2),o1 21 (lt 11 2),o1 22 (J2 51 20 21),m1 19 22,o1 23 (Je 19 0),o1 24 (Je 19 1),o1 14 (.alloc Zr3
 126),Js 14 23 4,m1 15 24] (.seq (.block 0 (sr1 [m1 26 15,o1 27 (Jc .neq 26 0),m1 25 27] (Ji 25 (sr1 [m1 28 15,o1 12 (.mv (.c (.slice none 0 0))),m1 13 28] .ret) (sr1 [o1 30 (ao 6 0),o1 31 (lf 30 1),o1 32 (Jl 31),o1 33 (Jc .sub 32 1),m1 34 1,o1 35 (lf
 8 1),o1 36 (.bsl 1 3 [.t 34,.t 35]),o1 37 (.call 52 [cn 0,.t 33,.t 36]),o1 38 (Jh 37),m1 39 38,g1 40 39 false (.mv (.t 3)),g1 41 39 false (lf 10 1),g1 42 39 false (.bsl 1 3 [.t 40,.t 41]),g1 43 39 false (.call 52 [cn 0,cn 100000,.t 42]),g1 44 39
 false (Jh 43),o1 45 (.pick (.t 39) Jt (.t 44)),m1 29 45] (Ji 29 (sr1 [o1 12 (.mv (.c (.slice none 0 0))),Jk 13 2] .ret) .skip))))) (sr1 [o1 16 (.alloc [.slice none 0 0] 108)] (sr1 [o1 46 (.raw (Go.Op.makeMap 168 Option.none) 168),o1 17 (.alloc [.map
 none] 168),Js 17 46 1] (sr1 [o1 18 (.alloc [.nilFunc] 195)] (sr1 [o1 47 (.mkf 95 [.t 10,.t 8,.t 16,.t 17,.t 14,.t 18]),Js 18 47 1] (.seq (.seq (.gh (.reg [o1 48 (lf 18 1),m1 49 1,m1 50 3,o1 51 (.build zv0 [(0,1,.t 49),(1,1,.t 50)]),o1 52 (.calvm (.t
 48) [.t 51,.c (.slice none 0 0)]),o1 53 (Jh 52)])) (Ji 53 (sr1 [o1 12 (.mv (.c (.slice none 0 0))),Jk 13 9] .ret) .skip)) (sr1 [o1 54 (lf 16 1),m1 12 54,Jk 13 0] .ret)))))))))
def r42:List RV:=[.tmp 12,.tmp 13]
theorem t42:Qt1 Tryz.prog 42 c42 r42 55:=ZF Tryz.func42
end Go.Proofs.YtongccnhomncnaaGreatDoor
namespace Go.Azalai
open Go.Sx
theorem Vc {l:Land} {p:Span} {to till:Int} {f:Nat} {been:List Int} {v t:Int} {j:Nat}:∀ (k:Nat),∃ R,Y1 l p to till f been v t (j+k)=Y1 l p to till f been v t j ++ R
 | 0=>⟨[],by simp⟩
 | k+1=>by
  obtain ⟨R,h⟩:=Vc k;exact ⟨R ++ Wt l p to till f been v t (j+k),by rw [<- Nat.add_assoc,Xi,h,List.append_assoc]⟩
theorem ZbO {l:Land} {p:Span} {to till:Int} {f:Nat} {been:List Int} {v t:Int} {j:Nat} {x:Leg} (hx:l.legs[j]? = some x) (h:Zm x v < 0\/Zm x v ∈ v :: been):Wt l p to till f been v t j=[]:=by
 simp only [Wt,hx];rw [if_pos h]
theorem Zak {l:Land} {p:Span} {to till:Int} {f:Nat} {been:List Int} {v t:Int} {j:Nat} {x:Leg} (hx:l.legs[j]? = some x) (h0:¬ Zm x v < 0) (h:Zm x v ∉ v :: been) :
 Wt l p to till f been v t j=(VG l p to till f (v :: been) (Zm x v) (Z6 true x p t)).map (j :: ·):=by
 simp only [Wt,hx];rw [if_neg (λq=>q.elim h0 h)]
end Go.Azalai
namespace Go.Proofs.YtongccnhomncnaaGreatDoor
open Go Go.Sx Go.Azalai
def XM (w:List Nat):Ls:=[YL w]
def Wx (l:Land) (p:Span) (till to:Int) (all:List (List Nat)) (ver:Nat) (L:List (Nat × Int × Bool)) (clk:Nat):Lh :=
 [(0,.cells [I till] 3),(1,.cells [I to] 3),(2,.cells [.mr 6 ver] 108),(3,.cells [.mp 7] 168),(4,.cells (Yl l p) 126),(5,.cells [.cl 95 [.p 0 0,.p 1 0,.p 2 0,.p 3 0,.p 4 0,.p 5 0]] 195),(6,.row ver 1 (all.map XM) 35),(7,.map (mpS kI B L) clk)]
def lookP (l:Land) (p:Span) (till to:Int) (all:List (List Nat)) (L:List (Nat × Int × Bool)) (W:List (List Nat)):Ot->Prop:=λo =>
 ∃ ver clk,MW L clk/\o=⟨false,B (decide ((all ++ W).length<=200)),Wx l p till to (cap (all ++ W)) ver L clk,8⟩
def Zgk (been:List Int) (L:List (Nat × Int × Bool)):Prop:=∀ u:Int,Xk u L=if u ∈ been then some true else none
theorem Zpz {L:List (Nat × Int × Bool)} {c:Nat} {v:Int} {b:Bool} (h:Xk v L=none):U1 v (V7 c v b L)=L:=by
 rw [UA h];have key:∀ (L:List (Nat × Int × Bool)),Xk v L=none->U1 v (L ++ [(c,v,b)])=L:=by
  intro L
  induction L with
  | nil=>intro _;simp [U1]
  | cons e L ih =>
   intro h;have hne:e.2.1≠v:=Y5.1 h e (by simp);have hL:Xk v L=none:=Y5.2 λx hx=>Y5.1 h x (by simp [hx]);have:=ih hL;obtain ⟨e1,e2,e3⟩:=e;simp only at hne;simp only [List.cons_append,U1];rw [this];simp [hne,Ne.symm hne]
 exact key L h
theorem Zvf (l:Land) (p:Span) (hs:Small l) (hok:OkLP l p) (till to:Int):∀ (f:Nat) (been:List Int) (v t:Int) (way:List Nat) (all:List (List Nat)) (ver clk:Nat) (L:List (Nat × Int × Bool)) (s1:SV),Zoi l f been->v ∉ been->(0<=v/\v < l.wells.length)->(0<=t/\t<=100001) ->
 way.length+f<=1000->all.length<=200->MW L clk->Zgk been L->(s1=YL way\/s1 = .v (.slice none 0 0)/\way=[]) ->
 Cq 95 (Wx l p till to all ver L clk) 8 [.agg [I v,I t],s1,.p 0 0,.p 1 0,.p 2 0,.p 3 0,.p 4 0,.p 5 0] (lookP l p till to all L ((VG l p to till f been v t).map (way ++ ·))):=by
 intro f
 induction f with
 | zero =>
  intro been v t way all ver clk L s1 hR hv hvi;obtain ⟨g,h,_⟩:=hR.pos hv hvi;omega
 | succ f ih =>
 intro been v t way all ver clk L s1 hR hv hvi ht hlen hall hM hbL hs1;obtain ⟨g,hg,hR'⟩:=hR.pos hv hvi;have hgf:g=f:=by omega
 subst hgf;have hleg:=hs.2.1;refine m95 (by simp [hpb,Wx]) (λo ho=>?_) ?_
 . obtain ⟨ver',clk',_,rfl⟩:=ho;simp [Wx,KX,KXL,KXP,KXH,Za,KFL,KF,Yl,Zg,Zr,Zi,XM,YL,Y4,ZD,Zt]
 dsimp only [c95,r95,Wx,go_sem];rcases hs1 with rfl | ⟨rfl,hw0⟩
 refine gh Zp ?_
 rotate_left
 refine gh (Zcv (s':=.sl false 1 (way.map Y4)) 1 rfl (by subst hw0;exact YP) (λ_ _ _ h=>by cases h)) ?_
 all_goals
  dsimp only [YL,go_sem];refine br ?_ ?_
  . intro hlate;have hlate:t > till:=of_decide_eq_true hlate;dsimp only [go_sem];refine ⟨_,⟨ver,clk,hM,rfl⟩,?_⟩;rw [ZiZ hlate,List.map_nil,List.append_nil,Zdh (by omega),decide_eq_true hall];(refine Zw ?_ ?_ ?_ rfl<;>dsimp only [Yl,Zg,Zr,Zi,XM,YL,Y4,Yq,ZD,Zt,Za,Wx,id,go_sem]<;>simp [Yl,Zg,Zr,Zi,XM,YL,Y4,Yq,ZD,Zt,Za,Wx,Za])
  intro hlate;have hlate:¬ t > till:=of_decide_eq_false hlate;dsimp only [go_sem];refine br ?_ ?_
  . intro hto;have hto:v=to:=by simpa using hto
    dsimp only [go_sem];refine call (ZeW way (by omega)) ?_;dsimp only [YL,go_sem];simp only [nbr];dsimp only [go_sem];refine ⟨(by intro c hc;simp only [List.mem_singleton] at hc;subst hc;rfl),by simp;omega,?_⟩;dsimp only [go_sem];simp only [nbr];dsimp only [go_sem];have e:all.map XM ++ [[SV.sl false 1 (way.map Y4)]]=(all ++ [way]).map XM:=by simp [XM,YL]
    rw [e];refine ⟨_,⟨ver+1,clk,hM,rfl⟩,?_⟩;rw [X1,if_neg hlate,if_pos hto];simp only [List.map_cons,List.map_nil,List.append_nil,List.length_map];rw [Zdh (by simp;omega)];have hd:decide (((all ++ [way]).length:Int)<=200)=decide ((all ++ [way]).length<=200):=by simp;omega
    rw [hd];(refine Zw ?_ ?_ ?_ rfl<;>dsimp only [Yl,Zg,Zr,Zi,XM,YL,Y4,Yq,ZD,Zt,Za,Wx,id,go_sem]<;>simp [Yl,Zg,Zr,Zi,XM,YL,Y4,Yq,ZD,Zt,Za,Wx,Za])
  intro hto;have hto:¬ v=to:=by simpa using hto
  dsimp only [go_sem];refine Wu (ins:=false) (key:=kI) (val:=B) (L:=L) (k:=v) (v:=true) rfl rfl ZiQ ZeB rfl rfl (by simp) ?_;dsimp only [go_sem];refine ⟨rfl,?_⟩;have hvL:Xk v L=none:=by rw [hbL,if_neg hv]
  have hM1:=hM.set (k:=v) true;have hL1:Zgk (v :: been) (V7 clk v true L):=λu=>by
   rw [Zbe];by_cases hu:u=v
   . simp [hu]
   . rw [if_neg hu,hbL];simp [hu]
  have hdel:=Zpz (L:=L) (c:=clk) (b:=true) hvL;generalize V7 clk v true L=L1 at hM1 hL1 hdel ⊢;generalize ZaS clk v L=clk1 at hM1 ⊢;refine ZaI [] (ZdF l p v) rfl rfl rfl ?_ ?_ ?_
  . exact Zc (by simp [Yl,Zg,Zr,Zi,Za])
  . trivial
  dsimp only [ZcV,Yl,go_sem];refine gh Zp ?_;dsimp only [go_sem];refine ⟨b160,λrec=>?_⟩;refine y160 ?_;dsimp only [ZBJ,ZDf,go_sem];refine Ym (λq:Nat × List (List Nat) × Nat × Nat=>[(10,I q.1)]) (λq=>[(2,.cells [.mr 6 q.2.2.1] 108),(6,.row q.2.2.1 1 (q.2.1.map XM) 35),(7,.map (mpS kI B L1) q.2.2.2)])
   (λq=>q.1<=l.legs.length/\MW L1 q.2.2.2/\q.2.1=all ++ (Y1 l p to till g been v t q.1).map (way ++ ·)/\q.2.1.length<=200) (λq=>l.legs.length - q.1) (0,all,ver,clk1) ⟨Nat.zero_le _,hM1,by simp [Znv],hall⟩ ?_ ?_
  . (refine Zj ?_ ?_ ?_ rfl rfl<;>dsimp only [Yl,Zg,Zr,Zi,XM,YL,Y4,Yq,ZD,Zt,Za,id,go_sem]<;>simp [Yl,Zg,Zr,Zi,XM,YL,Y4,Yq,ZD,Zt,Za,Za])
  rintro ⟨j,allj,ver,clk⟩ ⟨hj,hMj,hallj,hlenj⟩;simp only at hj hMj hallj hlenj;dsimp only [go_sem];simp only [List.length_map];by_cases hlt:j < l.legs.length
  . refine Zs (by simpa using hlt) ?_;dsimp only [go_sem];refine Zn j hlt rfl ?_;dsimp only [Zr,go_sem];have hgl:GoodLeg l.legs[j]:=WQ hok.land _ (List.getElem_mem _);have hends:=hok.ends (List.getElem_mem hlt);have hxj:l.legs[j]? = some l.legs[j]:=List.getElem?_eq_getElem hlt;have hin:inR 0 100001 t=true:=by simp only [inR,decide_eq_true_eq];omega
    have hab:=XO (k:=true) (t:=t) hgl hok.pace (by omega);by_cases hca:v=l.legs[j].a
    . refine Zs (by simpa using hca) ?_;have hoth:Zm l.legs[j] v=l.legs[j].b:=by rw [Zm,if_pos hca.symm]
      dsimp only [go_sem];refine ⟨rfl,rfl,?_⟩;refine ZfG (key:=kI) (sv:=sI) (val:=B) (L:=L1) (k:=l.legs[j].b) (z:=.bool false) (zs:=B false) rfl rfl ZiQ ZeB rfl (by kernel_rfl) (λw E n ok=>by simp only [R]) ?_ ?_
      . intro b hget;have hb:b=true/\Zm l.legs[j] v ∈ v :: been:=by
         have h:=hL1 l.legs[j].b;rw [hget] at h;rw [hoth];split at h
         . rename_i hm;exact ⟨Option.some.inj h,hm⟩
         . cases h
        obtain ⟨rfl,hmem⟩:=hb;dsimp only [Bool.not_true,go_sem];repeat (refine Xu (by decide) ?_;dsimp only [go_sem])
        refine Zo (by decide) ?_;dsimp only [go_sem];refine ⟨rfl,?_⟩;refine Zo (by decide) ?_;dsimp only [go_sem];rw [Zf (n:=(j:Int)+1) (by omega) (by omega)];refine ⟨(j+1,allj,ver,clk),⟨hlt,hMj,by rw [Xi,ZbO hxj (.inr hmem),List.append_nil];exact hallj,hlenj⟩,by simp only;omega,?_⟩;(refine Zj ?_ ?_ ?_ rfl rfl<;>dsimp only [Yl,Zg,Zr,Zi,XM,YL,Y4,Yq,ZD,Zt,Za,id,go_sem]<;>simp [Yl,Zg,Zr,Zi,XM,YL,Y4,Yq,ZD,Zt,Za,Za])
      intro hget;have hnb:Zm l.legs[j] v ∉ v :: been:=λhm=>by
       have h:=hL1 l.legs[j].b;rw [hoth] at hm;rw [hget,if_pos hm] at h;cases h
      have hn0:¬ Zm l.legs[j] v < 0:=by rw [hoth];omega
      dsimp only [Bool.not_false,go_sem];iterate 10 (refine ZI rfl ?_;dsimp only [go_sem])
      refine call (Vv l p j hlt t t hgl hok.pace hin hin) ?_;dsimp only [go_sem];refine ZI rfl ?_;dsimp only [go_sem];refine ixa 1 rfl (by decide) ?_;dsimp only [go_sem];iterate 4 (refine ZI rfl ?_;dsimp only [go_sem])
      refine call (ZnL way j (by omega)) ?_;dsimp only [YL,go_sem];refine ZI rfl ?_;dsimp only [go_sem];have hot:=Yk hok hxj hn0;have hih:=ih (v :: been) (Zm l.legs[j] v) (Z6 true l.legs[j] p t) (way ++ [j]) allj ver clk L1 (YL (way ++ [j])) hR' hnb hot.1 (by omega) (by simp;omega) hlenj hMj hL1 (.inl rfl);have hWj:(VG l p to till g (v :: been) (Zm l.legs[j] v) (Z6 true l.legs[j] p t)).map (way ++ [j] ++ ·)=(Wt l p to till g been v t j).map (way ++ ·):=by
       rw [Zak hxj hn0 hnb,List.map_map];simp [Function.comp_def]
      rw [hWj,hoth] at hih;refine ZA [0,1,2,3,4,5,6,7] hih rfl rfl ?_ ?_ ?_ ?_
      . rfl
      . dsimp only [rho,YL,go_sem];simp [Za,Zd,KFR,KFL,KF,Zc,mtO,nbr,Yl,Zg,Zr,Zi,XM,YL,Y4,ZD,Zt]
      . dsimp only [rho,Wx,Yl,go_sem];simp [Za,Zd,KFR,KFL,KF,Zc,mtO,nbr,Yl,Zg,Zr,Zi,XM,YL,Y4,ZD,Zt]
      rintro o ⟨ver',clk',hM',rfl⟩;dsimp only [Wx,Yl,go_sem];refine ZI rfl ?_;dsimp only [Bool.not_false,go_sem];have hnext:all ++ (Y1 l p to till g been v t (j+1)).map (way ++ ·)=allj ++ (Wt l p to till g been v t j).map (way ++ ·):=by
       rw [Xi,List.map_append,<- List.append_assoc,<- hallj]
      generalize hWW:(Wt l p to till g been v t j).map (way ++ ·)=Wj at hnext ⊢;by_cases hsm:(allj ++ Wj).length<=200
      . refine Zo (by simp only [hsm,decide_true];rfl) ?_;dsimp only [go_sem];refine ⟨rfl,?_⟩;refine Zo (by decide) ?_;dsimp only [go_sem];rw [Zf (n:=(j:Int)+1) (by omega) (by omega),Zdh (by omega)];rw [<- hnext] at hsm ⊢;refine ⟨(j+1,_,ver',clk'),⟨hlt,hM',rfl,hsm⟩,by simp only;omega,?_⟩;generalize all ++ (Y1 l p to till g been v t (j+1)).map (way ++ ·)=alln;(refine Zj ?_ ?_ ?_ rfl rfl<;>dsimp only [Yl,Zg,Zr,Zi,XM,YL,Y4,Yq,ZD,Zt,Za,id,go_sem]<;>simp [Yl,Zg,Zr,Zi,XM,YL,Y4,Yq,ZD,Zt,Za,Za])
      . refine Zs (by simp only [hsm,decide_false];rfl) ?_;dsimp only [go_sem];refine ⟨rfl,?_⟩;refine Zs rfl ?_;dsimp only [go_sem];have hWs:VG l p to till (g+1) been v t=Y1 l p to till g been v t l.legs.length:=by rw [X1,if_neg hlate,if_neg hto]
        obtain ⟨R,hRs⟩:=Vc (l:=l) (p:=p) (to:=to) (till:=till) (f:=g) (been:=been) (v:=v) (t:=t) (j:=j+1) (l.legs.length - (j+1));rw [show j+1+(l.legs.length - (j+1))=l.legs.length by omega] at hRs;have hall2:all ++ (VG l p to till (g+1) been v t).map (way ++ ·)=allj ++ Wj ++ R.map (way ++ ·):=by
         rw [hWs,hRs,List.map_append,<- List.append_assoc,hnext]
        have hlong:¬ (allj ++ Wj ++ R.map (way ++ ·)).length<=200:=by rw [List.length_append];omega
        refine ⟨_,delR (key:=kI) (val:=B) (sv:=sI) (L:=L1) (k:=v) ZiQ ZeB,?_⟩;rw [hdel];have hMf:MW L clk':=by have:=hM'.del (k:=v);rw [hdel] at this;exact this
        refine ⟨_,⟨ver',clk',hMf,rfl⟩,?_⟩;have hc2:cap (allj ++ Wj ++ R.map (way ++ ·))=cap (allj ++ Wj):=Znk (by omega);rw [hall2,hc2,decide_eq_false hlong];generalize cap (allj ++ Wj)=alln;(refine Zw ?_ ?_ ?_ rfl<;>dsimp only [Yl,Zg,Zr,Zi,XM,YL,Y4,Yq,ZD,Zt,Za,Wx,id,go_sem]<;>simp [Yl,Zg,Zr,Zi,XM,YL,Y4,Yq,ZD,Zt,Za,Wx,Za])
    refine Zo (by simpa using hca) ?_;dsimp only [go_sem];by_cases hcb:v=l.legs[j].b
    . refine Zs (by simpa using hcb) ?_;have hoth:Zm l.legs[j] v=l.legs[j].a:=by rw [Zm,if_neg (λh=>hca h.symm),if_pos hcb.symm]
      dsimp only [go_sem];refine ⟨rfl,rfl,?_⟩;refine ZfG (key:=kI) (sv:=sI) (val:=B) (L:=L1) (k:=l.legs[j].a) (z:=.bool false) (zs:=B false) rfl rfl ZiQ ZeB rfl (by kernel_rfl) (λw E n ok=>by simp only [R]) ?_ ?_
      . intro b hget;have hb:b=true/\Zm l.legs[j] v ∈ v :: been:=by
         have h:=hL1 l.legs[j].a;rw [hget] at h;rw [hoth];split at h
         . rename_i hm;exact ⟨Option.some.inj h,hm⟩
         . cases h
        obtain ⟨rfl,hmem⟩:=hb;dsimp only [Bool.not_true,go_sem];repeat (refine Xu (by decide) ?_;dsimp only [go_sem])
        refine Zo (by decide) ?_;dsimp only [go_sem];refine ⟨rfl,?_⟩;refine Zo (by decide) ?_;dsimp only [go_sem];rw [Zf (n:=(j:Int)+1) (by omega) (by omega)];refine ⟨(j+1,allj,ver,clk),⟨hlt,hMj,by rw [Xi,ZbO hxj (.inr hmem),List.append_nil];exact hallj,hlenj⟩,by simp only;omega,?_⟩;(refine Zj ?_ ?_ ?_ rfl rfl<;>dsimp only [Yl,Zg,Zr,Zi,XM,YL,Y4,Yq,ZD,Zt,Za,id,go_sem]<;>simp [Yl,Zg,Zr,Zi,XM,YL,Y4,Yq,ZD,Zt,Za,Za])
      intro hget;have hnb:Zm l.legs[j] v ∉ v :: been:=λhm=>by
       have h:=hL1 l.legs[j].a;rw [hoth] at hm;rw [hget,if_pos hm] at h;cases h
      have hn0:¬ Zm l.legs[j] v < 0:=by rw [hoth];omega
      dsimp only [Bool.not_false,go_sem];iterate 10 (refine ZI rfl ?_;dsimp only [go_sem])
      refine call (Vv l p j hlt t t hgl hok.pace hin hin) ?_;dsimp only [go_sem];refine ZI rfl ?_;dsimp only [go_sem];refine ixa 1 rfl (by decide) ?_;dsimp only [go_sem];iterate 4 (refine ZI rfl ?_;dsimp only [go_sem])
      refine call (ZnL way j (by omega)) ?_;dsimp only [YL,go_sem];refine ZI rfl ?_;dsimp only [go_sem];have hot:=Yk hok hxj hn0;have hih:=ih (v :: been) (Zm l.legs[j] v) (Z6 true l.legs[j] p t) (way ++ [j]) allj ver clk L1 (YL (way ++ [j])) hR' hnb hot.1 (by omega) (by simp;omega) hlenj hMj hL1 (.inl rfl);have hWj:(VG l p to till g (v :: been) (Zm l.legs[j] v) (Z6 true l.legs[j] p t)).map (way ++ [j] ++ ·)=(Wt l p to till g been v t j).map (way ++ ·):=by
       rw [Zak hxj hn0 hnb,List.map_map];simp [Function.comp_def]
      rw [hWj,hoth] at hih;refine ZA [0,1,2,3,4,5,6,7] hih rfl rfl ?_ ?_ ?_ ?_
      . rfl
      . dsimp only [rho,YL,go_sem];simp [Za,Zd,KFR,KFL,KF,Zc,mtO,nbr,Yl,Zg,Zr,Zi,XM,YL,Y4,ZD,Zt]
      . dsimp only [rho,Wx,Yl,go_sem];simp [Za,Zd,KFR,KFL,KF,Zc,mtO,nbr,Yl,Zg,Zr,Zi,XM,YL,Y4,ZD,Zt]
      rintro o ⟨ver',clk',hM',rfl⟩;dsimp only [Wx,Yl,go_sem];refine ZI rfl ?_;dsimp only [Bool.not_false,go_sem];have hnext:all ++ (Y1 l p to till g been v t (j+1)).map (way ++ ·)=allj ++ (Wt l p to till g been v t j).map (way ++ ·):=by
       rw [Xi,List.map_append,<- List.append_assoc,<- hallj]
      generalize hWW:(Wt l p to till g been v t j).map (way ++ ·)=Wj at hnext ⊢;by_cases hsm:(allj ++ Wj).length<=200
      . refine Zo (by simp only [hsm,decide_true];rfl) ?_;dsimp only [go_sem];refine ⟨rfl,?_⟩;refine Zo (by decide) ?_;dsimp only [go_sem];rw [Zf (n:=(j:Int)+1) (by omega) (by omega),Zdh (by omega)];rw [<- hnext] at hsm ⊢;refine ⟨(j+1,_,ver',clk'),⟨hlt,hM',rfl,hsm⟩,by simp only;omega,?_⟩;generalize all ++ (Y1 l p to till g been v t (j+1)).map (way ++ ·)=alln;(refine Zj ?_ ?_ ?_ rfl rfl<;>dsimp only [Yl,Zg,Zr,Zi,XM,YL,Y4,Yq,ZD,Zt,Za,id,go_sem]<;>simp [Yl,Zg,Zr,Zi,XM,YL,Y4,Yq,ZD,Zt,Za,Za])
      . refine Zs (by simp only [hsm,decide_false];rfl) ?_;dsimp only [go_sem];refine ⟨rfl,?_⟩;refine Zs rfl ?_;dsimp only [go_sem];have hWs:VG l p to till (g+1) been v t=Y1 l p to till g been v t l.legs.length:=by rw [X1,if_neg hlate,if_neg hto]
        obtain ⟨R,hRs⟩:=Vc (l:=l) (p:=p) (to:=to) (till:=till) (f:=g) (been:=been) (v:=v) (t:=t) (j:=j+1) (l.legs.length - (j+1));rw [show j+1+(l.legs.length - (j+1))=l.legs.length by omega] at hRs;have hall2:all ++ (VG l p to till (g+1) been v t).map (way ++ ·)=allj ++ Wj ++ R.map (way ++ ·):=by
         rw [hWs,hRs,List.map_append,<- List.append_assoc,hnext]
        have hlong:¬ (allj ++ Wj ++ R.map (way ++ ·)).length<=200:=by rw [List.length_append];omega
        refine ⟨_,delR (key:=kI) (val:=B) (sv:=sI) (L:=L1) (k:=v) ZiQ ZeB,?_⟩;rw [hdel];have hMf:MW L clk':=by have:=hM'.del (k:=v);rw [hdel] at this;exact this
        refine ⟨_,⟨ver',clk',hMf,rfl⟩,?_⟩;have hc2:cap (allj ++ Wj ++ R.map (way ++ ·))=cap (allj ++ Wj):=Znk (by omega);rw [hall2,hc2,decide_eq_false hlong];generalize cap (allj ++ Wj)=alln;(refine Zw ?_ ?_ ?_ rfl<;>dsimp only [Yl,Zg,Zr,Zi,XM,YL,Y4,Yq,ZD,Zt,Za,Wx,id,go_sem]<;>simp [Yl,Zg,Zr,Zi,XM,YL,Y4,Yq,ZD,Zt,Za,Wx,Za])
    refine Zo (by simpa using hcb) ?_;dsimp only [go_sem];rw [Zf (n:=(j:Int)+1) (by omega) (by omega)];have hoth:Zm l.legs[j] v = -1:=by rw [Zm,if_neg (λh=>hca h.symm),if_neg (λh=>hcb h.symm)]
    refine ⟨(j+1,allj,ver,clk),⟨hlt,hMj,by rw [Xi,ZbO hxj (.inl (by omega)),List.append_nil];exact hallj,hlenj⟩,by simp only;omega,?_⟩;(refine Zj ?_ ?_ ?_ rfl rfl<;>dsimp only [Yl,Zg,Zr,Zi,XM,YL,Y4,Yq,ZD,Zt,Za,id,go_sem]<;>simp [Yl,Zg,Zr,Zi,XM,YL,Y4,Yq,ZD,Zt,Za,Za])
  refine Zo (by simp;omega) ?_;dsimp only [go_sem];have hje:j=l.legs.length:=by omega
  subst hje;have hWs:VG l p to till (g+1) been v t=Y1 l p to till g been v t l.legs.length:=by rw [X1,if_neg hlate,if_neg hto]
  refine ⟨_,delR (key:=kI) (val:=B) (sv:=sI) (L:=L1) (k:=v) ZiQ ZeB,?_⟩;rw [hdel];have hMf:MW L clk:=by have:=hMj.del (k:=v);rw [hdel] at this;exact this
  refine ⟨_,⟨ver,clk,hMf,rfl⟩,?_⟩;rw [hWs,<- hallj,Zdh (by omega),decide_eq_true hlenj];(refine Zw ?_ ?_ ?_ rfl<;>dsimp only [Yl,Zg,Zr,Zi,XM,YL,Y4,Yq,ZD,Zt,Za,Wx,id,go_sem]<;>simp [Yl,Zg,Zr,Zi,XM,YL,Y4,Yq,ZD,Zt,Za,Wx,Za])
end Go.Proofs.YtongccnhomncnaaGreatDoor
namespace Go.Azalai
open Go.Sx
def Y8 (l:Land):Int->List Int->List Int->Option Int
 | v,_,[]=>some v
 | v,been,i :: r=>if Vl l i v < 0 then none else if Vl l i v ∈ been then none else Y8 l (Vl l i v) (Vl l i v :: been) r
end Go.Azalai
namespace Go.Proofs.YtongccnhomncnaaGreatDoor
open Go Go.Sx Go.Azalai
theorem Zgk.set {been:List Int} {L:List (Nat × Int × Bool)} {c:Nat} {v:Int} (h:Zgk been L):Zgk (v :: been) (V7 c v true L):=λu=>by
 rw [Zbe];by_cases hu:u=v
 . simp [hu]
 . rw [if_neg hu,h u];simp [hu]
theorem ZCI:YN Tryz.prog 4=some (.bool false):=by kernel_rfl
theorem bz_RS:∀ w E n ok,R w E n ok (B false) (.bool false):=λw E n ok=>by simp only [R]
theorem Zk5 (s:Season) (hs:SmallS s) (hl:Z7 s.land=true) (hp:Yf s.pace=true) (h0:0<=s.start/\s.start < s.land.wells.length) (legs:List Int) (hg:legs.length<=1000) (c:Bool) :
 Cp 68 [.agg (Zv s),.sl c 1 (legs.map Zk)] (.tup [I ((Y8 s.land s.start [s.start] legs).getD 0),B (Y8 s.land s.start [s.start] legs).isSome]):=by
 have hw:=hs.land.1;have hlg:=hs.land.2.1;have hlp:OkLP s.land s.pace:=⟨hl,hp⟩
 refine t68.1 (by simp [Zv,Zl,Zg,Zr,Zi,Ze,Zk,Za]) (by simp) ?_;dsimp only [c68,r68,Zv,go_sem];refine Vp rfl rfl rfl ?_;dsimp only [go_sem];refine Wu (ins:=true) (key:=kI) (val:=B) (L:=[]) (k:=s.start) (v:=true) rfl rfl ZiQ ZeB rfl rfl (by simp) ?_;dsimp only [go_sem];have hb0:Zgk [s.start] (V7 0 s.start true []):=λu=>by rw [Zbe];simp [Xk]
 refine UV [1,2,6,16,17,18,4,5] rfl (λq:Nat × Int × List Int × List (Nat × Int × Bool) × Nat=>[(18,I q.1),(4,I q.2.1)]) (λq=>[(1,.map (mpS kI B q.2.2.2.1) q.2.2.2.2)])
  (λq=>q.1<=legs.length/\Y8 s.land q.2.1 q.2.2.1 (legs.drop q.1)=Y8 s.land s.start [s.start] legs/\Zgk q.2.2.1 q.2.2.2.1/\MW q.2.2.2.1 q.2.2.2.2/\0<=q.2.1/\q.2.1 < s.land.wells.length)
  (λq=>legs.length - q.1) (0,s.start,[s.start],V7 0 s.start true [],ZaS 0 s.start ([]:List (Nat × Int × Bool))) ⟨Nat.zero_le _,rfl,hb0,MW.nil.set true,h0⟩ ?_ ?_
 . (refine Zj ?_ ?_ ?_ rfl rfl<;>dsimp only [Zi,Zg,Zr,Zl,Ze,Zk,ZD,Zt,id,go_sem]<;>simp [Zi,Zg,Zr,Zl,Ze,Zk,ZD,Zt,Za])
 rintro ⟨k,v,been,L,c⟩ ⟨hk,hi,hb,hM,hv⟩;simp only at hk hi hb hM hv;dsimp only [go_sem];simp only [List.length_map];by_cases hlt:k < legs.length
 case neg =>
  refine Zo (by simp;omega) ?_;dsimp only [go_sem];rw [<- hi,List.drop_eq_nil_of_le (by omega)];rfl
 refine Zs (by simpa using hlt) ?_;dsimp only [go_sem];refine Zn k hlt rfl ?_;dsimp only [Zk,go_sem];simp only [List.length_map];rw [Zf (n:=(s.land.legs.length:Int) - 1) (by omega) (by omega)];refine call (ZlJ _ _ _ _) ?_;dsimp only [go_sem];rw [List.drop_eq_getElem_cons hlt,Y8] at hi;by_cases hr:inR 0 (s.land.legs.length - 1) legs[k]=true
 case neg =>
  refine Zs (by simpa using hr) ?_;dsimp only [go_sem];simp only [inR,decide_eq_true_eq] at hr;rw [if_pos (by rw [ZfH (by omega)];decide)] at hi;rw [<- hi];rfl
 refine Zo (by simpa using hr) ?_;dsimp only [go_sem];simp only [inR,decide_eq_true_eq] at hr;obtain ⟨n,hn⟩:=Int.eq_ofNat_of_zero_le hr.1;rw [hn] at hr hi ⊢;have hnl:n < s.land.legs.length:=by omega
 refine Zn n hnl rfl ?_;dsimp only [Zr,go_sem];have hends:=hlp.ends (List.getElem_mem hnl);rw [Zcm hnl] at hi;repeat (refine gb ?_;dsimp only [go_sem])
 by_cases hof:v=s.land.legs[n].a\/v=s.land.legs[n].b
 case neg =>
  refine Zs (by simp [bne];omega) ?_;dsimp only [go_sem];rw [if_pos (by unfold Zm;rw [if_neg (by omega),if_neg (by omega)];decide)] at hi;rw [<- hi];rfl
 refine Zo (by simp [bne];omega) ?_;dsimp only [go_sem];have ho:Zm s.land.legs[n] v=s.land.legs[n].a+s.land.legs[n].b - v:=by
  unfold Zm;rcases hof with h | h
  . rw [if_pos h.symm];omega
  . rw [if_neg (by omega),if_pos h.symm];omega
 rw [Zf (n:=s.land.legs[n].a+s.land.legs[n].b) (by omega) (by omega),Zf (n:=s.land.legs[n].a+s.land.legs[n].b - v) (by omega) (by omega)];have hoi:0<=s.land.legs[n].a+s.land.legs[n].b - v/\s.land.legs[n].a+s.land.legs[n].b - v < s.land.wells.length:=by omega
 rw [ho,if_neg (by omega)] at hi;generalize s.land.legs[n].a+s.land.legs[n].b - v=u at hi hoi;have hbu:=hb u;refine ZfG (key:=kI) (val:=B) (sv:=sI) (L:=L) (k:=u) (zs:=B false) rfl rfl ZiQ ZeB rfl ZCI bz_RS (λb hg=>?_) (λhg=>?_)
 . rw [hbu] at hg;by_cases hm:u ∈ been
   case neg=>rw [if_neg hm] at hg;cases hg
   rw [if_pos hm] at hg hi;cases hg
   dsimp only [go_sem];refine Zs rfl ?_;dsimp only [go_sem];rw [<- hi];rfl
 . rw [hbu] at hg;by_cases hm:u ∈ been
   . rw [if_pos hm] at hg;cases hg
   rw [if_neg hm] at hi;dsimp only [go_sem];refine Zo rfl ?_;dsimp only [go_sem];refine Wu (ins:=false) (key:=kI) (val:=B) (L:=L) (k:=u) (v:=true) rfl rfl ZiQ ZeB rfl rfl (by simp) ?_;dsimp only [go_sem];rw [Zf (n:=(k:Int)+1) (by omega) (by omega)];refine ⟨(k+1,u,u :: been,V7 c u true L,ZaS c u L),⟨hlt,hi,hb.set,hM.set true,hoi⟩,by simp only;omega,?_⟩;(refine Zj ?_ ?_ ?_ rfl rfl<;>dsimp only [Zi,Zg,Zr,Zl,Ze,Zk,ZD,Zt,id,go_sem]<;>simp [Zi,Zg,Zr,Zl,Ze,Zk,ZD,Zt,Za])
def ZcL (n:Nat) (been:List Int):List Bool:=(List.range n).map λu:Nat=>decide ((u:Int) ∈ been)
theorem YK {n:Nat} {been:List Int}:(ZcL n been).length=n:=by simp [ZcL]
theorem WB {n u:Nat} {been:List Int} (h:u < (ZcL n been).length):(ZcL n been)[u]=decide ((u:Int) ∈ been):=by simp [ZcL]
theorem Zbn {n u:Nat} {been:List Int} (h:u < n):(ZcL n been).set u true=ZcL n ((u:Int) :: been):=by
 apply List.ext_getElem (by simp [YK]);intro i h1 h2;rw [List.getElem_set,WB];by_cases hi:u=i
 . subst hi;rw [if_pos rfl,WB];simp
 . rw [if_neg hi,WB];have:¬ (i:Int)=(u:Int):=by omega
   simp [this]
theorem Znx {n:Nat}:ZcL n []=List.replicate n false:=by
 apply List.ext_getElem (by simp [YK]);intro i h1 h2;rw [WB];simp
theorem ZvC (s:Season) (hs:SmallS s) (hl:Z7 s.land=true) (hp:Yf s.pace=true) (h0:0<=s.start/\s.start < s.land.wells.length) (legs:List Int) (hg:legs.length<=1000) (c:Bool) :
 Cp 66 [.agg (Zv s),.sl c 1 (legs.map Zk)] (I ((Y8 s.land s.start [s.start] legs).getD (-1))):=by
 have hw:=hs.land.1;have hlg:=hs.land.2.1;have hlp:OkLP s.land s.pace:=⟨hl,hp⟩
 refine t66.1 (by simp [Zv,Zl,Zg,Zr,Zi,Ze,Zk,Za]) (by simp) ?_;dsimp only [c66,r66,Zv,go_sem];simp only [List.length_map];refine ⟨s.land.wells.length,rfl,by omega,?_⟩;dsimp only [go_sem];obtain ⟨n0,hn0⟩:=Int.eq_ofNat_of_zero_le h0.1;have hb0:List.replicate s.land.wells.length [B false]=(ZcL s.land.wells.length []).map λb=>[B b]:=by rw [Znx];simp
 rw [hb0];rw [hn0] at h0 ⊢;refine UK n0 rfl (by simp [YK];omega) ?_;dsimp only [go_sem];refine Ztj true (by simp [YK];omega) (by simp) (by simp [ZJ]) ?_;rw [Zbn (by omega)];dsimp only [go_sem];refine UV [1,2,4,5,6,7] rfl (λq:Nat × Int × List Int=>[(7,I q.1),(6,I q.2.1)]) (λq=>[(1,.row 0 1 ((ZcL s.land.wells.length q.2.2).map λb=>[B b]) 4)])
  (λq=>q.1<=legs.length/\Y8 s.land q.2.1 q.2.2 (legs.drop q.1)=Y8 s.land n0 [(n0:Int)] legs/\0<=q.2.1/\q.2.1 < s.land.wells.length)
  (λq=>legs.length - q.1) (0,n0,[(n0:Int)]) ⟨Nat.zero_le _,rfl,h0⟩ ?_ ?_
 . (refine Zj ?_ ?_ ?_ rfl rfl<;>dsimp only [Zi,Zg,Zr,Zl,Ze,Zk,id,go_sem]<;>simp [Zi,Zg,Zr,Zl,Ze,Zk,Za])
 rintro ⟨k,v,been⟩ ⟨hk,hi,hv⟩;simp only at hk hi hv;dsimp only [go_sem];simp only [List.length_map];by_cases hlt:k < legs.length
 case neg =>
  refine Zo (by simp;omega) ?_;dsimp only [go_sem];rw [<- hi,List.drop_eq_nil_of_le (by omega)];rfl
 refine Zs (by simpa using hlt) ?_;dsimp only [go_sem];refine Zn k hlt rfl ?_;dsimp only [Zk,go_sem];simp only [List.length_map];rw [Zf (n:=(s.land.legs.length:Int) - 1) (by omega) (by omega)];refine call (XY _ _ _) ?_;dsimp only [go_sem];rw [List.drop_eq_getElem_cons hlt,Y8] at hi;by_cases hr:inR 0 (s.land.legs.length - 1) legs[k]=true
 case neg =>
  refine Zs (by simpa using hr) ?_;dsimp only [go_sem];simp only [inR,decide_eq_true_eq] at hr;rw [if_pos (by rw [ZfH (by omega)];decide)] at hi;rw [<- hi];rfl
 refine Zo (by simpa using hr) ?_;dsimp only [go_sem];refine Zn k hlt rfl ?_;dsimp only [Zk,go_sem];simp only [inR,decide_eq_true_eq] at hr;obtain ⟨n,hn⟩:=Int.eq_ofNat_of_zero_le hr.1;rw [hn] at hr hi ⊢;have hnl:n < s.land.legs.length:=by omega
 refine Zn n hnl rfl ?_;dsimp only [Zr,go_sem];have hends:=hlp.ends (List.getElem_mem hnl);rw [Zcm hnl] at hi;by_cases hva:v=s.land.legs[n].a
 . refine Zs (by simpa using hva) ?_;dsimp only [go_sem];rw [show Zm s.land.legs[n] v=s.land.legs[n].b from by unfold Zm;rw [if_pos hva.symm],if_neg (by omega)] at hi;have hoi:0<=s.land.legs[n].b/\s.land.legs[n].b < s.land.wells.length:=by omega
   obtain ⟨u,hu⟩:=Int.eq_ofNat_of_zero_le hoi.1;rw [hu] at hi hoi ⊢;refine UK u rfl (by simp [YK];omega) ?_;dsimp only [go_sem];refine Zeb (by simp [YK];omega) ?_;rw [WB];dsimp only [go_sem];by_cases hm:(u:Int) ∈ been
   . refine Zs (by simpa using hm) ?_;dsimp only [go_sem];rw [if_pos hm] at hi;rw [<- hi];rfl
   refine Zo (by simpa using hm) ?_;dsimp only [go_sem];rw [if_neg hm] at hi;refine UK u rfl (by simp [YK];omega) ?_;dsimp only [go_sem];refine Ztj true (by simp [YK];omega) (by simp) (by simp [ZJ]) ?_;rw [Zbn (by omega)];dsimp only [go_sem];rw [Zf (n:=(k:Int)+1) (by omega) (by omega)];refine ⟨(k+1,u,(u:Int) :: been),⟨hlt,hi,hoi⟩,by simp only;omega,?_⟩;(refine Zj ?_ ?_ ?_ rfl rfl<;>dsimp only [Zi,Zg,Zr,Zl,Ze,Zk,id,go_sem]<;>simp [Zi,Zg,Zr,Zl,Ze,Zk,Za])
 refine Zo (by simpa using hva) ?_;dsimp only [go_sem];by_cases hvb:v=s.land.legs[n].b
 case neg =>
  refine Zo (by simpa using hvb) ?_;dsimp only [go_sem];rw [if_pos (by unfold Zm;rw [if_neg (by omega),if_neg (by omega)];decide)] at hi;rw [<- hi];rfl
 refine Zs (by simpa using hvb) ?_;dsimp only [go_sem];rw [show Zm s.land.legs[n] v=s.land.legs[n].a from by unfold Zm;rw [if_neg (by omega),if_pos hvb.symm],if_neg (by omega)] at hi;have hoi:0<=s.land.legs[n].a/\s.land.legs[n].a < s.land.wells.length:=by omega
 obtain ⟨u,hu⟩:=Int.eq_ofNat_of_zero_le hoi.1;rw [hu] at hi hoi ⊢;refine UK u rfl (by simp [YK];omega) ?_;dsimp only [go_sem];refine Zeb (by simp [YK];omega) ?_;rw [WB];dsimp only [go_sem];by_cases hm:(u:Int) ∈ been
 . refine Zs (by simpa using hm) ?_;dsimp only [go_sem];rw [if_pos hm] at hi;rw [<- hi];rfl
 refine Zo (by simpa using hm) ?_;dsimp only [go_sem];rw [if_neg hm] at hi;refine UK u rfl (by simp [YK];omega) ?_;dsimp only [go_sem];refine Ztj true (by simp [YK];omega) (by simp) (by simp [ZJ]) ?_;rw [Zbn (by omega)];dsimp only [go_sem];rw [Zf (n:=(k:Int)+1) (by omega) (by omega)];refine ⟨(k+1,u,(u:Int) :: been),⟨hlt,hi,hoi⟩,by simp only;omega,?_⟩;(refine Zj ?_ ?_ ?_ rfl rfl<;>dsimp only [Zi,Zg,Zr,Zl,Ze,Zk,id,go_sem]<;>simp [Zi,Zg,Zr,Zl,Ze,Zk,Za])
end Go.Proofs.YtongccnhomncnaaGreatDoor
namespace Go.Azalai
open Go.Sx
def Wi (s:Season) (p:Plan):Bool:=(Y8 s.land s.start [s.start] p.legs).isSome && inR 0 s.herd p.animals && inR 0 12 p.slabs
def Ye (s:Season) (legs:List Int):List Stop:=(Xt s.land s.pace s.start s.day legs).1
def Zip (l:List Stop):Stop:=l.getLast?.getD ⟨0,0,⟨0,0⟩,⟨0,0⟩⟩
def Uh (s:Season) (legs:List Int):Bool:=decide ((Xt s.land s.pace s.start s.day legs).2.2=0) && (decide ((Ye s legs).length=0) || decide ((Zip (Ye s legs)).arrives.hi<=s.till))
theorem Zhu {l:Land} {p:Span} (hg:OkLP l p):∀ {legs:List Int} {v:Int} {been:List Int} {u:Int},0<=v/\v < l.wells.length->Y8 l v been legs=some u->0<=u/\u < l.wells.length
 | [],v,_,u,hv,h=>by simp only [Y8,Option.some.injEq] at h;subst h;exact hv
 | i :: r,v,been,u,hv,h=>by
  simp only [Y8] at h;split at h
  . cases h
  rename_i he;split at h
  . cases h
  obtain ⟨k,x,_,_,hx,_,e⟩:=Zco he;rw [e] at he h;exact Zhu hg (Yk hg hx he).1 h
theorem ZeE {l:List Stop} (h:l.length≠0):l[l.length - 1]? = some (Zip l):=by
 unfold Zip;rw [List.getLast?_eq_getElem?];rw [List.getElem?_eq_getElem (by omega)];rfl
theorem ZnV {l:Land} {p:Span}:∀ {legs:List Int} {v a b:Int} {k:Nat} {acc:List Stop},(goS l p v a b legs k acc).2.2≠0->(goS l p v a b legs k acc).1=[]
 | [],_,_,_,_,_,h=>by simp [goS] at h
 | i :: r,v,a,b,k,acc,h=>by
  simp only [goS] at h ⊢;split
  . rfl
  . rename_i x hx;rw [hx] at h;simp only at h;split
    . rfl
    . rename_i hn;rw [if_neg hn] at h;exact ZnV h
theorem Zjo {l:Land} {p:Span}:∀ {legs:List Int} {v a b:Int} {k:Nat} {acc:List Stop},(goS l p v a b legs k acc).1.length<=acc.length+legs.length
 | [],_,_,_,_,_=>by simp [goS]
 | i :: r,v,a,b,k,acc=>by
  simp only [goS];split
  . simp
  . split
    . simp
    . refine Nat.le_trans Zjo ?_;simp;omega
theorem ZbU {l:Land} {p:Span} {s d:Int} {legs:List Int}:(Xt l p s d legs).1.length<=legs.length:=by
 unfold Xt;split
 . simp
 split
 . simp
 split
 . simp
 split
 . simp
 refine Nat.le_trans Zjo (by simp)
theorem ZnK {l:Land} {p:Span} {s d:Int} {legs:List Int} (h:(Xt l p s d legs).2.2≠0):(Xt l p s d legs).1=[]:=by
 unfold Xt at h ⊢;split
 . rfl
 rename_i h1;rw [if_neg h1] at h;split
 . rfl
 rename_i h2;rw [if_neg h2] at h;split
 . rfl
 rename_i h3;rw [if_neg h3] at h;split
 . rfl
 rename_i h4;rw [h4] at h;exact ZnV h
end Go.Azalai
namespace Go.Proofs.YtongccnhomncnaaGreatDoor
open Go Go.Sx Go.Azalai
structure OkS (s:Season):Prop where
 small:SmallS s
 ok:ZR s=true
theorem OkS.land {s:Season} (h:OkS s):Z7 s.land=true:=by have:=h.ok;simp only [ZR,Bool.and_eq_true] at this;exact this.1.1.1.1.1.1
theorem OkS.pace {s:Season} (h:OkS s):Yf s.pace=true:=by have:=h.ok;simp only [ZR,Bool.and_eq_true] at this;exact this.1.1.1.1.1.2
theorem OkS.lp {s:Season} (h:OkS s):OkLP s.land s.pace:=⟨h.land,h.pace⟩
theorem OkS.beast {s:Season} (h:OkS s):ZK s.breed=true/\ZE s.breed s.camel=true:=by
 have:=h.ok;simp only [ZR,Bool.and_eq_true,decide_eq_true_eq] at this;exact Cm.errC_0.1 this.1.1.1.1.2
theorem OkS.num {s:Season} (h:OkS s):1<=s.herd/\s.herd<=30/\1<=s.hours/\s.hours<=24/\1<=s.slab/\s.slab<=1000000/\0<=s.cost/\s.cost<=1000000/\0<=s.sale/\s.sale<=1000000/\0<=s.day/\s.day<=s.till/\s.till<=100000:=by
 have:=h.ok;simp only [ZR,Za2,inR,Bool.and_eq_true,decide_eq_true_eq] at this;omega
theorem OkS.start {s:Season} (h:OkS s):0<=s.start/\s.start < s.land.wells.length:=by
 have:=h.ok;simp only [ZR,inR,Bool.and_eq_true,decide_eq_true_eq] at this;omega
theorem OkS.scs {s:Season} (h:OkS s):1<=s.scenes.length/\s.scenes.length<=4:=by
 have:=h.ok;simp only [ZR,inR,Bool.and_eq_true,decide_eq_true_eq] at this;omega
theorem OkS.scene {s:Season} (h:OkS s):∀ x ∈ s.scenes,YI s.land.wells.length x=true:=by
 have:=h.ok;simp only [ZR,Bool.and_eq_true,List.all_eq_true] at this;exact this.2
theorem ZzY (s:Season) (h:OkS s) (p:Plan) (hg:p.legs.length<=1000):Cp 23 [.agg (Zv s),.agg (ZQ p)] (B (Wi s p)):=by
 refine t23.1 (by simp [Zv,ZQ,Zl,Zg,Zr,Zi,Ze,Zk,Za]) (by simp) ?_;dsimp only [c23,r23,Zv,ZQ,go_sem];refine call (ZvC s h.small h.land h.pace h.start p.legs hg _) ?_;dsimp only [go_sem];repeat (first | (refine gb ?_;dsimp only [go_sem]) | (refine call (XY _ _ _) ?_;dsimp only [go_sem]))
 have:decide ((Y8 s.land s.start [s.start] p.legs).getD (-1) ≥ 0)=(Y8 s.land s.start [s.start] p.legs).isSome:=by
  cases hq:Y8 s.land s.start [s.start] p.legs with
  | none=>rfl
  | some u=>have:=(Zhu h.lp h.start hq).1;simpa using this
 rw [this];rfl
theorem ZtL (s:Season) (hs:SmallS s) (p:Plan) (hg:p.legs.length<=1000):Cp 24 [.agg (Zv s),.agg (ZQ p)] (I (if ZR s=false then 90 else if Wi s p=false then 91 else 0)):=by
 refine t24.1 (by simp [Zv,ZQ,Zl,Zg,Zr,Zi,Ze,Zk,Za]) (by simp) ?_;dsimp only [c24,r24,Zv,ZQ,go_sem];refine call (ZeX s hs) ?_;dsimp only [go_sem];by_cases ho:ZR s=true
 case neg =>
  refine Zs (by simp [ho]) ?_;dsimp only [go_sem];simp [ho]
 refine Zo (by simp [ho]) ?_;dsimp only [go_sem];have h:OkS s:=⟨hs,ho⟩
 refine call (Zk5 s h.small h.land h.pace h.start p.legs hg _) ?_;dsimp only [go_sem];repeat (first | (refine gb ?_;dsimp only [go_sem]) | (refine call (ZlJ _ _ _ _) ?_;dsimp only [go_sem]))
 refine br ?_ ?_
 . intro hb;dsimp only [go_sem];have:Wi s p=false:=by simp only [Wi];revert hb;generalize Option.isSome _=a;generalize inR 0 s.herd p.animals=b;generalize inR 0 12 p.slabs=c;revert a b c;decide
   rw [ho,this];rfl
 intro hb;dsimp only [go_sem];have:Wi s p=true:=by simp only [Wi];revert hb;generalize Option.isSome _=a;generalize inR 0 s.herd p.animals=b;generalize inR 0 12 p.slabs=c;revert a b c;decide
 rw [ho,this];rfl
theorem walkS (s:Season) (h:OkS s) (legs:List Int) (hg:legs.length<=1000) (c:Bool) {f:Nat}
 (hc:Cp f [.agg (Yo s.land),I s.start,I s.day,.agg (Ze s.pace),.sl c 1 (legs.map Zk)] (Zb2 (Xt s.land s.pace s.start s.day legs))) :
 Cp f [.agg (Yo s.land),I s.start,I s.day,.agg (Ze s.pace),.sl c 1 (legs.map Zk)] (.tup [.sl false 6 ((Ye s legs).map Z3),I (Xt s.land s.pace s.start s.day legs).2.1,I (Xt s.land s.pace s.start s.day legs).2.2]):=by
 unfold Zb2 X3 at hc;split at hc
 . exact hc
 . rename_i he;refine hc.res (by simp [Za,Z3]) ?_;rw [Ye,ZnK he];exact VR (ZH YP Wl)
theorem ZrM (s:Season) (h:OkS s) (legs:List Int) (hg:legs.length<=1000) (c:Bool):Cp 71 [.agg (Zv s),.sl c 1 (legs.map Zk)] (.tup [.sl false 6 ((Ye s legs).map Z3),B (Uh s legs)]):=by
 refine t71.1 (by simp [Zv,Zl,Zg,Zr,Zi,Ze,Zk,Za]) (by simp [Za,Z3]) ?_;dsimp only [c71,r71,Zv,go_sem];refine call (walkS s h legs hg c (Zov s.land h.small.land s.start s.day s.pace legs hg c)) ?_;dsimp only [go_sem];repeat (refine gb ?_;dsimp only [go_sem])
 have hlen:(Ye s legs).length<=1000:=Nat.le_trans ZbU hg;simp only [List.length_map];refine ZuC ((Ye s legs).length - 1) (Z3 (Zip (Ye s legs))) rfl (λhb=>?_) ?_
 . have hz:(Ye s legs).length≠0:=by simpa using hb
   rw [Zf (by omega) (by omega)];exact ⟨by omega,by rw [List.getElem?_map,ZeE hz];rfl⟩
 dsimp only [Z3,go_sem];repeat (refine gb ?_;dsimp only [go_sem])
 have:((Xt s.land s.pace s.start s.day legs).2.2 == 0 && (((Ye s legs).length:Int) == 0 || decide ((Zip (Ye s legs)).arrives.hi<=s.till)))=Uh s legs:=by
  have h1:(((Ye s legs).length:Int) == 0)=decide ((Ye s legs).length=0):=by rw [Bool.eq_iff_iff];simp
  simp only [Uh,h1];rfl
 rw [this]
end Go.Proofs.YtongccnhomncnaaGreatDoor
namespace Go.Azalai
open Go.Sx
def ZcB (s:Season) (x:Scene) (slabs:Int):March:=⟨s.hours,slabs * s.slab,x.heat,x.grass,⟨0,0⟩⟩
def Zfp (b:Breed) (c:Camel):Span:=if Uz b c=0 then Zeh b c else Z0
def Zm4 (a b:Span):Span:=⟨min a.lo b.lo,max a.hi b.hi⟩
def ZoL (a b:Camel):Camel:=⟨Zm4 a.water b.water,Zm4 a.fat b.fat,Zm4 a.sore b.sore,a.milks⟩
def ZaK (b:Breed) (m:March) (lo:Int):Nat->Nat->Camel->Camel->Camel × Int
 | 0,_,_,out=>(out,0)
 | j+1,n,c,out =>
  if m.load > (Zfp b c).lo then (Xq,2)
  else if (XQ b c m).2.2≠0\/(XQ b c m).2.1≠0 then (Xq,3)
  else ZaK b m lo j (n+1) (XQ b c m).1 (if (n:Int)+1=lo then (XQ b c m).1 else if (n:Int)+1 > lo then ZoL out (XQ b c m).1 else out)
def Xx (s:Season) (x:Scene) (d:Span) (slabs:Int) (c:Camel):Camel × Int:=ZaK s.breed (ZcB s x slabs) d.lo d.hi.toNat 0 c Xq
end Go.Azalai
namespace Go.Proofs.YtongccnhomncnaaGreatDoor
open Go Go.Sx Go.Azalai
abbrev camelL:=Cm.camelL
abbrev U8 (n:Int):SV:=.v (.int .u8 n)
def YF (s:Season) (k:Int):Ls :=
 [.sl false 9 (s.land.wells.map Zg),.sl false 5 (s.land.legs.map Zr),I s.pace.lo,I s.pace.hi,
  I s.breed.full,I s.breed.fed,I s.breed.rest.lo,I s.breed.rest.hi,I s.breed.heat.lo,I s.breed.heat.hi,I s.breed.toil.lo,I s.breed.toil.hi,I s.breed.burn.lo,I s.breed.burn.hi,I s.breed.rub.lo,I s.breed.rub.hi,I s.breed.milk.lo,I s.breed.milk.hi,I s.breed.heal,I s.breed.strong.lo,I s.breed.strong.hi,
  I s.camel.water.lo,I s.camel.water.hi,I s.camel.fat.lo,I s.camel.fat.hi,I s.camel.sore.lo,I s.camel.sore.hi,B s.camel.milks,
  I s.herd,I s.hours,I s.slab,I s.cost,I s.sale,I s.start,I s.day,I s.till,.sl false 6 (s.scenes.map Zl),I k]
theorem Zfz (a b:Span) (c:Bool):Cp 267 [.agg (Ze a),.sl c 2 [[I b.lo,I b.hi]]] (.agg (Ze (Zm4 a b))):=by
 refine t267.1 ⟨by simp [KF,KFL,Ze],by simp [KF,KFR,KFL],trivial⟩ (by simp [Ze]) ?_;dsimp only [c267,r267,Ze,go_sem];refine ZX 2 ?_;dsimp only [Zb,go_sem];refine Zs (by decide) ?_;dsimp only [go_sem];refine ixs 0 [I b.lo,I b.hi] rfl rfl ?_;dsimp only [go_sem];refine Zo (by decide) ?_;dsimp only [go_sem];rfl
theorem ZdH:ZeF Tryz.prog 86=true:=by kernel_rfl
def XN (why at_:Int):Ot:=⟨true,.ifc 86 (.agg [U8 why,I at_]),[],0⟩
theorem UQ (w k:Int):Cq 72 [] 0 [B true,U8 w,I k] (λo=>o=⟨false,.tup [],[],0⟩):=by
 refine m72 (by simp [hpb]) (λo ho=>by subst ho;simp [KX,KXL,KXP]) ?_;dsimp only [c72,r72,go_sem];refine Zo rfl ?_;dsimp only [go_sem];refine ⟨_,rfl,?_⟩;(refine Zw ?_ ?_ ?_ rfl<;>dsimp only [id,go_sem]<;>simp [Za])
theorem Zb9 (w k:Int):Cq 72 [] 0 [B false,U8 w,I k] (λo=>o=XN w k):=by
 refine m72 (by simp [hpb]) (λo ho=>by subst ho;simp [XN,KX,KXL,KXP]) ?_;dsimp only [c72,r72,go_sem];refine Zs rfl ?_;dsimp only [go_sem];refine Zn0 (s:=.agg [U8 w,I k]) ZdH rfl (λ_ _ _ e=>by cases e) ?_;dsimp only [go_sem];refine Zn9 rfl ?_;dsimp only [go_sem];refine ⟨_,rfl,?_⟩;(refine Zw ?_ ?_ ?_ rfl<;>dsimp only [XN,id,go_sem]<;>simp [XN,Za])
theorem ZjG (s:Season) (k:Nat) (hk:k < s.scenes.length):Cp 171 [.agg (YF s k)] (.agg (Zl s.scenes[k])):=by
 refine t171.1 (by simp [YF,Zl,Zg,Zr,Zi,Ze,Zk,Za]) (by simp [Zl,Ze,Zk,Za]) ?_;dsimp only [c171,r171,YF,go_sem];refine Zn k hk rfl ?_;dsimp only [Zl,go_sem]
def ZbD (at_:Int) (r:Camel × Int):Ot:=if r.2=0 then ⟨false,.agg (camelL r.1),[],0⟩ else XN r.2 at_
theorem Zqe (s:Season) (k:Nat) (hk:k < s.scenes.length) (at_:Int) (c:Camel) (d:Span) (slabs:Int) (hn:0<=slabs/\slabs<=12) (hs:0<=s.slab/\s.slab<=1000000) (hd:d.hi<=1000000000) :
 Cq 202 [] 0 [.agg (YF s k),I at_,.agg (camelL c),.agg (Ze d),I slabs] (λo=>o=ZbD at_ (Xx s s.scenes[k] d slabs c)):=by
 have hb:0<=slabs * s.slab/\slabs * s.slab<=12 * 1000000:=⟨Int.mul_nonneg hn.1 hs.1,Int.mul_le_mul hn.2 hs.2 hs.1 (by decide)⟩
 refine m202 (by simp [hpb]) (λo ho=>by subst ho;unfold ZbD;split<;>simp [XN,Cm.camelL,KX,KXL,KXP]) ?_;dsimp only [c202,r202,Ze,Cm.camelL,YF,go_sem];refine call (ZjG s k hk) ?_;dsimp only [Zl,go_sem];refine call (ZjG s k hk) ?_;dsimp only [Zl,go_sem];rw [Zf (n:=slabs * s.slab) (by omega) (by omega)];refine UV [1,5,7,8,10,11,12,13,35,36] rfl (λq:Nat × Camel × Camel=>[(36,I q.1)]) (λq=>[(1,.cells (Cm.camelL q.2.1) 31),(5,.cells (Cm.camelL q.2.2) 31)])
  (λq=>q.1<=d.hi.toNat/\ZaK s.breed (ZcB s s.scenes[k] slabs) d.lo (d.hi.toNat - q.1) q.1 q.2.1 q.2.2=Xx s s.scenes[k] d slabs c) (λq=>d.hi.toNat - q.1) (0,c,Xq) ⟨Nat.zero_le _,rfl⟩ ?_ ?_
 . (refine Zj ?_ ?_ ?_ rfl rfl<;>dsimp only [Cm.camelL,Xq,Z0,Zi,Zg,Zr,Zl,Ze,Zk,mtL,mtB,mtS,id,go_sem]<;>simp [Cm.camelL,Xq,Z0,Zi,Zg,Zr,Zl,Ze,Zk,mtL,mtB,mtS,Za])
 rintro ⟨n,c,out⟩ ⟨hk',hi⟩;simp only at hk' hi;dsimp only [Cm.camelL,go_sem];by_cases hlt:n < d.hi.toNat
 case neg =>
  refine Zo (by simp;omega) ?_;dsimp only [go_sem];rw [show d.hi.toNat - n=0 from by omega,ZaK] at hi;rw [<- hi];refine ⟨_,rfl,?_⟩;simp only [ZbD,if_true];(refine Zw ?_ ?_ ?_ rfl<;>dsimp only [Cm.camelL,mtL,mtB,mtS,id,go_sem]<;>simp [Cm.camelL,mtL,mtB,mtS,Za])
 refine Zs (by simp;omega) ?_;dsimp only [go_sem];refine call (Cm.carries_ok s.breed c) ?_;dsimp only [Cm.sres,Ze,go_sem];rw [show (if Uz s.breed c=0 then Zeh s.breed c else Z0)=Zfp s.breed c from rfl];have hj:d.hi.toNat - n=(d.hi.toNat - (n+1))+1:=by omega
 rw [hj,ZaK] at hi;by_cases hw:(ZcB s s.scenes[k] slabs).load > (Zfp s.breed c).lo
 . rw [show decide (slabs * s.slab<=(Zfp s.breed c).lo)=false from decide_eq_false (by have:slabs * s.slab > (Zfp s.breed c).lo:=hw;omega)];refine ZA [] (Zb9 2 at_) rfl rfl rfl ?_ ?_ ?_
   . (repeat first | dsimp only [go_sem] | simp only [nbr])
     try simp [mtL,mtB,mtS]
   . trivial
   rintro _ rfl
   (repeat first | dsimp only [XN,go_sem] | simp only [nbr])
   rw [<- hi,if_pos hw];refine ⟨_,rfl,?_⟩;simp only [ZbD];(refine Zw ?_ ?_ ?_ rfl<;>dsimp only [XN,id,go_sem]<;>simp [XN,Za])
 rw [show decide (slabs * s.slab<=(Zfp s.breed c).lo)=true from decide_eq_true (by have:¬ slabs * s.slab > (Zfp s.breed c).lo:=hw;omega)];refine ZA [] (UQ 2 at_) rfl rfl rfl ?_ ?_ ?_
 . (repeat first | dsimp only [go_sem] | simp only [nbr])
   try simp [mtL,mtB,mtS]
 . trivial
 rintro _ rfl
 (repeat first | dsimp only [go_sem] | simp only [nbr])
 rw [if_neg hw] at hi;refine call (Cm.after1_ok s.breed c (ZcB s s.scenes[k] slabs)) ?_;generalize XQ s.breed c (ZcB s s.scenes[k] slabs)=r at hi ⊢;dsimp only [Cm.camelL,Cm.U8,go_sem];repeat (refine gb ?_;dsimp only [go_sem])
 by_cases hf:r.2.2≠0\/r.2.1≠0
 . rw [show (r.2.2 == 0 && r.2.1 == 0)=false from by simp;omega];refine ZA [] (Zb9 3 at_) rfl rfl rfl ?_ ?_ ?_
   . (repeat first | dsimp only [go_sem] | simp only [nbr])
     try simp [mtL,mtB,mtS]
   . trivial
   rintro _ rfl
   (repeat first | dsimp only [XN,go_sem] | simp only [nbr])
   rw [<- hi,if_pos hf];refine ⟨_,rfl,?_⟩;simp only [ZbD];(refine Zw ?_ ?_ ?_ rfl<;>dsimp only [XN,id,go_sem]<;>simp [XN,Za])
 rw [show (r.2.2 == 0 && r.2.1 == 0)=true from by simp;omega];refine ZA [] (UQ 3 at_) rfl rfl rfl ?_ ?_ ?_
 . (repeat first | dsimp only [go_sem] | simp only [nbr])
   try simp [mtL,mtB,mtS]
 . trivial
 rintro _ rfl
 (repeat first | dsimp only [go_sem] | simp only [nbr])
 rw [if_neg hf] at hi;rw [Zf (n:=(n:Int)+1) (by omega) (by omega)];by_cases hl:(n:Int)+1=d.lo
 . refine Zs (by simpa using hl) ?_;dsimp only [go_sem];rw [if_pos hl] at hi;try rw [Zf (n:=(n:Int)+1) (by omega) (by omega)]
   refine ⟨(n+1,r.1,r.1),⟨hlt,hi⟩,by simp only;omega,?_⟩;(refine Zj ?_ ?_ ?_ rfl rfl<;>dsimp only [Cm.camelL,Xq,Z0,Zi,Zg,Zr,Zl,Ze,Zk,mtL,mtB,mtS,id,go_sem]<;>simp [Cm.camelL,Xq,Z0,Zi,Zg,Zr,Zl,Ze,Zk,mtL,mtB,mtS,Za])
 refine Zo (by simpa using hl) ?_;dsimp only [go_sem];rw [if_neg hl] at hi;try rw [Zf (n:=(n:Int)+1) (by omega) (by omega)]
 by_cases hm:(n:Int)+1 > d.lo
 . refine Zs (by simpa using hm) ?_;dsimp only [go_sem];rw [if_pos hm] at hi;refine call (Zfz out.water r.1.water _) ?_;dsimp only [go_sem];refine call (Zfz out.fat r.1.fat _) ?_;dsimp only [go_sem];refine call (Zfz out.sore r.1.sore _) ?_;dsimp only [Ze,go_sem];try rw [Zf (n:=(n:Int)+1) (by omega) (by omega)]
   refine ⟨(n+1,r.1,ZoL out r.1),⟨hlt,hi⟩,by simp only;omega,?_⟩;(refine Zj ?_ ?_ ?_ rfl rfl<;>dsimp only [Cm.camelL,ZoL,Xq,Z0,Zi,Zg,Zr,Zl,Ze,Zk,mtL,mtB,mtS,id,go_sem]<;>simp [Cm.camelL,ZoL,Xq,Z0,Zi,Zg,Zr,Zl,Ze,Zk,mtL,mtB,mtS,Za])
 refine Zo (by simp;omega) ?_;dsimp only [go_sem];rw [if_neg hm] at hi;try rw [Zf (n:=(n:Int)+1) (by omega) (by omega)]
 refine ⟨(n+1,r.1,out),⟨hlt,hi⟩,by simp only;omega,?_⟩;(refine Zj ?_ ?_ ?_ rfl rfl<;>dsimp only [Cm.camelL,Xq,Z0,Zi,Zg,Zr,Zl,Ze,Zk,mtL,mtB,mtS,id,go_sem]<;>simp [Cm.camelL,Xq,Z0,Zi,Zg,Zr,Zl,Ze,Zk,mtL,mtB,mtS,Za])
def ZyX:SC:=(sr1 [o1 2 (.mv (.c (.slice none 0 0)))] (.seq (sr1 [m1 3 0,o1 4 (.isn (.t 3))] (Ji 4 (sr1 [o1 2 (.mv (.c (.slice none 0 0)))] .ret) .skip)) (sr1 [o1 5 (.bsl 9 222 []),m1 6 0,o1 7 (.cln 9 72 222 (.t 5) (.t 6)),m1 2 7] .ret)))
def Zxc:List RV:=[.tmp 2]
theorem nw170:Tryz.f170.ntmps=8:=by kernel_rfl
theorem bw170:Z4 Tryz.prog 170=true:=by kernel_rfl
theorem Zo5:YR Tryz.prog ZyX ((Tryz.f170.body).getD .skip)=true:=by kernel_rfl
theorem ZtT:Y2 Tryz.prog Zxc Tryz.f170.results.toList=true:=by kernel_rfl
theorem mw170 {n0:Nat} {hp0:Lh} {args:Ls} {Zz:Ot->Prop} (hh:hpb n0 hp0) (hx:∀ o,Zz o->KX o.res/\KXP o.hp) (h:sx Tryz.prog Y0 n0 ZyX ⟨YT 0 args,hp0,n0,8,[]⟩ (X0 Zxc λo=>∃ o',Zz o'/\WI n0 o o')) (hA:Nat.ble args.length 8=true:=by rfl):Cq 170 hp0 n0 args Zz:=ZB Tryz.func170 rfl bw170 Zo5 ZtT nw170 (Nat.le_of_ble_eq_true hA) hh hx h
def ZDq:SC:=(sr1 [o1 2 (Jz 0 0 89),o1 3 (Jz 1 0 72),Jk 4 0] (sr1 [o1 10 (ao 2 0),o1 11 (ao 10 0),o1 12 (lt 11 2),o1 5 (.alloc ZEh 25),Js 5 12 2] (sr1 [o1 13 (ao 5 0),o1 14 (lf 13 1),o1 15 (.callm 170 [.t 14]),o1 16 (ao 5 0),Js 16 15 1] (.seq (sr1 [o1
 17 (ao 5 0),o1 18 (lf 17 1),o1 19 (Jl 18),Jk 20 0] (.block 0 (.loop (sr1 [o1 21 (Jb .lss 20 19)] (.seq (Ji 21 .skip (.exit 0)) (.seq (.block 1 (sr1 [m1 22 20,m1 6 22] (.regd (Jr 12) [Jo 23 (ao 5 0),Jp 24 (lf 23 1) [0],Jm 25 6,Jo 26 (lt 2 38),Jp 27
 (J1 171 26) [3],Jp 28 (.fld (.t 27) 4 1 false) [4],Jm 29 6,Jp 30 (Jx 28 29 2) [5,6],Jp 31 (lt 30 2) [7],Jp 32 (Jx 24 25 9) (Jr 9),Jp 33 (ao 32 3) (Jr 10)] 0 1 [Ju 33 31 2 [0,1,2,3,4,5,6,7,8,10]]))) (.reg [o1 34 (Jc .add 20 1),m1 20 34]))))))) (sr1
 [o1 36 (lt 5 2),o1 37 (ao 3 1),o1 38 (lf 37 1),o1 39 (ao 3 4),o1 40 (ao 39 0),o1 41 (lf 40 1),o1 42 (.call 172 [.t 36,.t 38,.c (.slice none 0 0),.t 41]),m1 35 42,o1 43 (Je 35 0),o1 44 (Je 35 1),o1 45 (Je 35 2),o1 7 (.alloc zv0 27),Js 7 43 2,m1 8
 44,m1 9 45] (sr1 [o1 46 (ao 7 0),o1 47 (lf 46 1),m1 4 47] .ret))))))
def ZBC:List RV:=[.tmp 4]
theorem tw103:Qt1 Tryz.prog 103 ZDq ZBC 48:=ZF Tryz.func103
end Go.Proofs.YtongccnhomncnaaGreatDoor
namespace Go.Azalai
open Go.Sx
def Zjl (ws:List Well) (ys:List Span):List Well:=List.zipWith (λw y=>{ w with yld:=y }) ws ys
def Zar (s:Season) (x:Scene):Land:=⟨Zjl s.land.wells x.yields,s.land.legs⟩
def UZ (ws Z:List Well) (k:Nat):List Well:=Z.take k ++ ws.drop k
theorem ZgI {ws:List Well} {ys:List Span} (h:ys.length=ws.length):(Zjl ws ys).length=ws.length:=by simp [Zjl,h]
theorem ZeH {ws Z:List Well} {k:Nat} (h:Z.length=ws.length) (hk:k<=ws.length):(UZ ws Z k).length=ws.length:=by simp [UZ];omega
theorem Zer {ws Z:List Well} {k:Nat} (h:Z.length=ws.length) (hk:k < ws.length) (hk':k < (UZ ws Z k).length):(UZ ws Z k)[k]=ws[k]:=by
 simp only [UZ];rw [List.getElem_append_right (by simp;omega)];simp [Nat.min_eq_left (Nat.le_of_lt (h ▸ hk:k < Z.length))]
theorem Zk7 {ws Z:List Well} {k:Nat} (h:Z.length=ws.length) (hk:k < ws.length) (hz:k < Z.length):(UZ ws Z k).set k Z[k]=UZ ws Z (k+1):=by
 simp only [UZ];rw [List.set_append_right _ _ (by simp;omega)];have h1:(Z.take k).length=k:=by simp;omega
 rw [h1,Nat.sub_self,List.drop_eq_getElem_cons hk,List.set_cons_zero,List.take_succ_eq_append_getElem hz,List.append_assoc];rfl
theorem Zqf {ws:List Well} {ys:List Span} {k:Nat} (h1:k < ws.length) (h2:k < ys.length) (h:k < (Zjl ws ys).length):(Zjl ws ys)[k]={ ws[k] with yld:=ys[k] }:=by simp [Zjl]
def ZdQ (s:Season) (x:Scene) (st:Stop):Int:=(WY (Zar s x) st.well [] st.arrives.lo).1.lo
end Go.Azalai
namespace Go.Proofs.YtongccnhomncnaaGreatDoor
open Go Go.Sx Go.Azalai
theorem Zen {s:Season} {x:Scene} (h:Small s.land) (hx:x.yields.length=s.land.wells.length):Small (Zar s x):=by
 refine ⟨?_,h.2.1,h.2.2⟩;simp only [Zar];rw [ZgI hx];exact h.1
theorem Znn (l:List Well) (hL:l.length<=1000) (k:Bool):Cq 170 [] 0 [.sl k 9 (l.map Zg)] (λo=>o=⟨false,.mr 0 0,[(0,.row 0 9 (l.map Zg) 222)],1⟩):=by
 refine mw170 (by simp [hpb]) (λo ho=>by subst ho;simp [KX,KXL,KXP,KXH,Za,KFL,KF,Zg]) ?_;dsimp only [ZyX,Zxc,go_sem];intro b hb;dsimp only [go_sem];cases b with
 | true =>
  have hl:l=[]:=by simpa using hb rfl
  subst hl;refine Zs rfl ?_;dsimp only [go_sem];refine ⟨_,rfl,?_⟩;refine Uq (Yi (Yc 0 9 222 rfl rfl) ?_) (λ_ _ _ e=>by cases e);(refine Zj ?_ ?_ ?_ rfl rfl<;>dsimp only [Zg,id,go_sem]<;>simp [Zg,Za])
 | false =>
  refine Zo rfl ?_;dsimp only [go_sem];refine ⟨by simp;omega,?_⟩;dsimp only [go_sem];refine ⟨_,rfl,?_⟩;(refine Zw ?_ ?_ ?_ rfl<;>dsimp only [Zg,id,go_sem]<;>simp [Zg,Za])
theorem ZuA (s:Season) (hs:SmallS s) (k:Nat) (hk:k < s.scenes.length) (hy:s.scenes[k].yields.length=s.land.wells.length) (st:Stop):Cp 103 [.agg (YF s k),.agg (Z3 st)] (I (ZdQ s s.scenes[k] st)):=by
 have hw:=hs.land.1;refine tw103.1 (by simp [YF,Z3,Zl,Zg,Zr,Zi,Ze,Zk,Za]) (by simp) ?_;dsimp only [ZDq,ZBC,YF,Z3,go_sem];refine ZaI [] (Znn s.land.wells hw false) rfl rfl rfl ?_ ?_ ?_
 . exact Zc (by simp [Za,Zg])
 . trivial
 dsimp only [go_sem];simp only [List.length_map];have hz:=ZgI hy;refine UV [2,3,4,5,19,20] rfl (λq:Nat=>[(20,I q)]) (λq=>[(3,.row 0 9 ((UZ s.land.wells (Zjl s.land.wells s.scenes[k].yields) q).map Zg) 222)])
  (λq=>q<=s.land.wells.length) (λq=>s.land.wells.length - q) 0 (Nat.zero_le _) ?_ ?_
 . (refine Zj ?_ ?_ ?_ rfl rfl<;>dsimp only [Zg,Zr,Zi,Zl,Ze,Zk,UZ,id,go_sem]<;>simp [Zg,Zr,Zi,Zl,Ze,Zk,UZ,Za])
 intro q hq;dsimp only [go_sem];by_cases hlt:q < s.land.wells.length
 . refine Zs (by simpa using hlt) ?_;dsimp only [go_sem];refine call (ZjG s k hk) ?_;dsimp only [Zl,go_sem];refine Zn q (by omega) rfl ?_;dsimp only [Ze,go_sem];refine UK q rfl (by simp [ZeH hz hq];omega) ?_;dsimp only [go_sem];have hq2:q < (UZ s.land.wells (Zjl s.land.wells s.scenes[k].yields) q).length:=by rw [ZeH hz hq];exact hlt
   have hq3:q < (Zjl s.land.wells s.scenes[k].yields).length:=by omega
   refine Ztj ((Zjl s.land.wells s.scenes[k].yields)[q]) hq2 (by rw [Zer hz hlt];simp [Zg]) (by rw [Zer hz hlt,Zqf hlt (by omega)];simp [Zg,ZJ]) ?_;rw [Zk7 hz hlt hq3];dsimp only [go_sem];rw [Zf (n:=(q:Int)+1) (by omega) (by omega)];refine ⟨q+1,by omega,by omega,?_⟩;(refine Zj ?_ ?_ ?_ rfl rfl<;>dsimp only [Zg,Zr,Zi,Zl,Ze,Zk,id,go_sem]<;>simp [Zg,Zr,Zi,Zl,Ze,Zk,Za])
 refine Zo (by simp;omega) ?_;dsimp only [go_sem];have hq':UZ s.land.wells (Zjl s.land.wells s.scenes[k].yields) q=Zjl s.land.wells s.scenes[k].yields:=by
  simp only [UZ];rw [List.take_of_length_le (by omega),List.drop_eq_nil_of_le (by omega),List.append_nil]
 rw [hq'];have hwa:=(Zo1 (Zar s s.scenes[k]) (Zen hs.land hy) st.well st.arrives.lo [] (by simp)).args (args0:=[.agg (Yo (Zar s s.scenes[k])),I st.well,.v (.slice none 0 0),I st.arrives.lo]) (by simp [Yo,Zg,Zr,Zi,Za]) (ZH (λ_ _ _ _ _ h=>h) (ZH (λ_ _ _ _ _ h=>h) (ZH YP Wl)));refine WM (by simp [FLT,ZzZ,ZqB,Ze]) (res:=ZqB (WY (Zar s s.scenes[k]) st.well [] st.arrives.lo)) ?_ ?_
 . dsimp only [go_sem];exact hwa
 dsimp only [ZqB,Ze,go_sem];rfl
end Go.Proofs.YtongccnhomncnaaGreatDoor
namespace Go.Sx
open Go Go.RowKit
theorem VS {l l':Ls} (h:∀ (w:World) (E:Env) (n ok:Nat->Prop) (ys:LZ),RL w E n ok l ys->RL w E n ok l' ys):ZcZ (.agg l) (.agg l'):=λw E n ok y hy=>by
 simp only [R] at hy ⊢;obtain ⟨cs,h1,h2⟩:=hy;exact ⟨cs,h1,h _ _ _ _ _ h2⟩
end Go.Sx
namespace Go.Azalai
open Go.Sx
def Zd8 (b:Breed) (c:Camel):Camel:={ c with water:=⟨b.full,b.full⟩ }
def goG (s:Season) (x:Scene) (slabs:Int):List Stop->Nat->Camel->List (Int × Int)->Int × Int × List (Int × Int)
 | [],_,_,acc=>(0,0,acc)
 | st :: r,i,c,acc =>
  if (Xx s x (YV s.land st.leg s.pace).1 slabs c).2≠0 then ((Xx s x (YV s.land st.leg s.pace).1 slabs c).2,i,acc)
  else goG s x slabs r (i+1) (Zd8 s.breed (Xx s x (YV s.land st.leg s.pace).1 slabs c).1)
   (if r=[] then acc else acc ++ [(s.breed.full - (Xx s x (YV s.land st.leg s.pace).1 slabs c).1.water.lo,ZdQ s x st)])
def goF (s:Season) (x:Scene) (slabs:Int) (l:List Stop):Int × Int × List (Int × Int) :=
 if l=[] then (if slabs * s.slab > (Zfp s.breed s.camel).lo then 2 else 0,0,[]) else goG s x slabs l 0 s.camel []
theorem ZfV {lo hi:Int} {a b:Span} (ha:ZW lo hi a=true) (hb:ZW lo hi b=true):ZW lo hi (Zm4 a b)=true:=by
 simp only [ZW,decide_eq_true_eq] at ha hb;show decide (lo<=min a.lo b.lo/\min a.lo b.lo<=max a.hi b.hi/\max a.hi b.hi<=hi)=true;rw [decide_eq_true_eq];omega
theorem Zj5 {b:Breed} {c:Camel} {m:March} (hb:ZK b=true) (hc:ZE b c=true) (he:(XQ b c m).2.2=0):ZE b (XQ b c m).1=true:=by
 unfold XQ at he ⊢;rw [if_neg (by rw [Go.Proofs.YtongccnhomncnaaGreatDoor.Cm.errC_0.2 ⟨hb,hc⟩];simp)] at he ⊢;split
 . rename_i h;rw [if_pos h] at he;simp at he
 . rename_i h;rw [if_neg h] at he;split
   . rename_i h2;rw [if_pos h2] at he;simp at he
   . rename_i h2;exact Go.Azalai.after_ok hb hc (by simpa using h) h2
theorem Zdv {b:Breed} (hb:ZK b=true):ZE b Xq=true:=by
 have:=Go.Proofs.YtongccnhomncnaaGreatDoor.Cm.breed_bd hb;simp [ZE,Xq,ZW];omega
theorem Zew {b:Breed} {m:March} {lo:Int} (hb:ZK b=true):∀ {j n:Nat} {c out:Camel},ZE b c=true->ZE b out=true->ZE b (ZaK b m lo j n c out).1=true
 | 0,_,_,_,_,ho=>ho
 | j+1,n,c,out,hc,ho=>by
  simp only [ZaK];split
  . exact Zdv hb
  split
  . exact Zdv hb
  rename_i h1 h2;have ha:=Zj5 (m:=m) hb hc (by omega);refine Zew hb ha ?_;split
  . exact ha
  split
  . simp only [ZE,Bool.and_eq_true] at ha ho ⊢;exact ⟨⟨ZfV ho.1.1 ha.1.1,ZfV ho.1.2 ha.1.2⟩,ZfV ho.2 ha.2⟩
  . exact ho
theorem Ze5 {s:Season} {x:Scene} {d:Span} {slabs:Int} {c:Camel} (hb:ZK s.breed=true) (hc:ZE s.breed c=true):ZE s.breed (Xx s x d slabs c).1=true:=Zew hb hc (Zdv hb)
theorem ZdE {b:Breed} {c:Camel} (hb:ZK b=true) (hc:ZE b c=true):ZE b (Zd8 b c)=true:=by
 have:=Go.Proofs.YtongccnhomncnaaGreatDoor.Cm.breed_bd hb;simp only [ZE,Zd8,Bool.and_eq_true] at hc ⊢;exact ⟨⟨by simp only [ZW,decide_eq_true_eq];omega,hc.1.2⟩,hc.2⟩
theorem Zss {l:Land} {p:Span} {leg:Int} (hg:OkLP l p):(YV l leg p).1.hi<=1000000000:=by
 unfold YV;split
 . simp
 split
 . simp
 split
 . rename_i x hx;have:=Go.Azalai.day_bd (hg.leg hx) hg.pace;simp only;omega
 . simp
theorem Zhs {b:Breed} {c:Camel} (hb:ZK b=true) (hc:ZE b c=true):0<=c.water.lo/\c.water.lo<=b.full/\1<=b.full/\b.full<=1000000:=by
 have h1:=Go.Proofs.YtongccnhomncnaaGreatDoor.Cm.breed_bd hb;have h2:=Go.Proofs.YtongccnhomncnaaGreatDoor.Cm.camel_bd hb hc;omega
end Go.Azalai
namespace Go.Proofs.YtongccnhomncnaaGreatDoor
open Go Go.Sx Go.Azalai
theorem days_ok (s:Season) (h:OkS s) (leg:Int):Cp 119 [.agg (Yo s.land),I leg,.agg (Ze s.pace)] (sres (YV s.land leg s.pace)):=ZgN s.land h.small.land leg s.pace
end Go.Proofs.YtongccnhomncnaaGreatDoor
namespace Go.Azalai
open Go.Sx
def ZcH (n:Int):List (Int × Int)->Nat->Option Nat
 | [],_=>none
 | p :: r,i=>if n * p.1 > p.2 then some i else ZcH n r (i+1)
def Zbu (n:Int) (g:Int × Int × List (Int × Int)):Int × Int :=
 match ZcH n g.2.2 0 with
 | some i=>(4,i)
 | none=>(g.1,g.2.1)
def WJ (s:Season) (p:Plan) (x:Scene):Int × Int :=
 if Uh s p.legs=false then (1,0) else if p.animals=0 then (0,0) else Zbu p.animals (goF s x p.slabs (Ye s p.legs))
def Ug (s:Season) (p:Plan):List Scene->Nat->Int × Int × Int × Int
 | [],_=>(0,0,0,0)
 | x :: r,i=>if (WJ s p x).1≠0 then ((WJ s p x).1,i,(WJ s p x).2,0) else Ug s p r (i+1)
def Vq (s:Season) (p:Plan):Int × Int × Int × Int :=
 if ZR s=false then (0,0,0,90) else if Wi s p=false then (0,0,0,91) else Ug s p s.scenes 0
theorem ZnF {s:Season} {x:Scene} {slabs:Int} (hb:ZK s.breed=true):∀ {l:List Stop} {i:Nat} {c:Camel} {acc:List (Int × Int)},ZE s.breed c=true->(∀ q ∈ acc,0<=q.1/\q.1<=1000000) ->
 (∀ q ∈ (goG s x slabs l i c acc).2.2,0<=q.1/\q.1<=1000000)/\(goG s x slabs l i c acc).2.2.length<=acc.length+l.length
 | [],_,_,acc,_,ha=>⟨ha,by simp [goG]⟩
 | st :: r,i,c,acc,hc,ha=>by
  simp only [goG];split
  . exact ⟨ha,by simp only;omega⟩
  have hbo:=Ze5 (x:=x) (d:=(YV s.land st.leg s.pace).1) (slabs:=slabs) hb hc;have hw:=Zhs hb hbo;split
  . obtain ⟨h1,h2⟩:=ZnF (s:=s) (x:=x) (slabs:=slabs) hb (l:=r) (i:=i+1) (acc:=acc) (ZdE hb hbo) ha;exact ⟨h1,by simp only [List.length_cons];omega⟩
  . obtain ⟨h1,h2⟩:=ZnF (s:=s) (x:=x) (slabs:=slabs) hb (l:=r) (i:=i+1) (acc:=acc ++ [(s.breed.full - (Xx s x (YV s.land st.leg s.pace).1 slabs c).1.water.lo,ZdQ s x st)]) (ZdE hb hbo) (λq hq=>by
     rcases List.mem_append.1 hq with hq | hq
     . exact ha q hq
     . simp only [List.mem_singleton] at hq;subst hq;simp only;omega)
    exact ⟨h1,by simp only [List.length_cons,List.length_append,List.length_nil] at h2 ⊢;omega⟩
theorem ZC9 {s:Season} {x:Scene} {slabs:Int} {l:List Stop} (hb:ZK s.breed=true) (hc:ZE s.breed s.camel=true):(∀ q ∈ (goF s x slabs l).2.2,0<=q.1/\q.1<=1000000)/\(goF s x slabs l).2.2.length<=l.length:=by
 unfold goF;split
 . simp
 . obtain ⟨h1,h2⟩:=ZnF (x:=x) (slabs:=slabs) hb (l:=l) (i:=0) (acc:=[]) hc (by simp);exact ⟨h1,by simpa using h2⟩
end Go.Azalai
namespace Go.Proofs.YtongccnhomncnaaGreatDoor
open Go Go.Sx Go.Azalai
theorem Zbq {s:Season} {p:Plan} (h:Wi s p=true):(∃ v,Y8 s.land s.start [s.start] p.legs=some v)/\0<=p.animals/\p.animals<=s.herd/\0<=p.slabs/\p.slabs<=12:=by
 simp only [Wi,inR,Bool.and_eq_true,decide_eq_true_eq,Option.isSome_iff_exists] at h;exact ⟨h.1.1,by omega⟩
def Zm7 (r:Int × Int × Int × Int):SV:=.tup [U8 r.1,I r.2.1,I r.2.2.1,I r.2.2.2]
end Go.Proofs.YtongccnhomncnaaGreatDoor
namespace Go.Azalai
open Go.Sx
def ZbV (n:Int) (st:Stop) (p:Int × Int):Draw:=⟨st.well,st.arrives.lo,n * p.1⟩
def Vw (n:Int) (l:List Stop) (g:List (Int × Int)):List Draw:=List.zipWith (ZbV n) l g
def VJ (s:Season) (x:Scene) (n slabs:Int) (l:List Stop):List Draw :=
 if l=[] then [] else if n=0 then l.dropLast.map λst=>⟨st.well,st.arrives.lo,0⟩ else Vw n l (goF s x slabs l).2.2
def Zix (s:Season) (x:Scene) (n slabs:Int) (l:List Stop):Int × Int:=if n=0 then (0,0) else Zbu n (goF s x slabs l)
theorem Zgf {s:Season} {x:Scene} {slabs:Int}:∀ {l:List Stop} {i:Nat} {c:Camel} {acc:List (Int × Int)},∃ more,(goG s x slabs l i c acc).2.2=acc ++ more
 | [],_,_,acc=>⟨[],by simp [goG]⟩
 | st :: r,i,c,acc=>by
  simp only [goG];split
  . exact ⟨[],by simp⟩
  split
  . exact Zgf
  . obtain ⟨m,hm⟩:=Zgf (s:=s) (x:=x) (slabs:=slabs) (l:=r) (i:=i+1) (c:=Zd8 s.breed (Xx s x (YV s.land st.leg s.pace).1 slabs c).1) (acc:=acc ++ [(s.breed.full - (Xx s x (YV s.land st.leg s.pace).1 slabs c).1.water.lo,ZdQ s x st)]);exact ⟨_,by rw [hm,List.append_assoc]⟩
theorem ZbE {n:Int}:∀ {a b:List (Int × Int)} {i:Nat},ZcH n a i=none->ZcH n (a ++ b) i=ZcH n b (i+a.length)
 | [],_,_,_=>by simp
 | p :: a,b,i,h=>by
  simp only [ZcH] at h;split at h
  . cases h
  rename_i hp;simp only [List.cons_append,ZcH];rw [if_neg hp,ZbE h,List.length_cons];congr 1;omega
theorem Zfy {n:Int} {l:List Stop} {acc:List (Int × Int)} {p:Int × Int} {j:Nat} (hj:j < l.length) (ha:acc.length=j):Vw n l (acc ++ [p])=Vw n l acc ++ [ZbV n l[j] p]:=by
 simp only [Vw];subst ha;have h1:l=l.take acc.length ++ l.drop acc.length:=(List.take_append_drop ..).symm;have hlen:(l.take acc.length).length=acc.length:=by simp;omega
 have e1:List.zipWith (ZbV n) l (acc ++ [p])=List.zipWith (ZbV n) (l.take acc.length) acc ++ List.zipWith (ZbV n) (l.drop acc.length) [p]:=by
  rw [<- List.zipWith_append hlen,<- h1]
 have e2:List.zipWith (ZbV n) l acc=List.zipWith (ZbV n) (l.take acc.length) acc:=by
  have:=List.zipWith_append (f:=ZbV n) (l₁:=l.take acc.length) (l₁':=l.drop acc.length) (l₂:=acc) (l₂':=[]) hlen;rw [<- h1] at this;simpa using this
 rw [e1,e2,List.drop_eq_getElem_cons hj];simp only [List.zipWith_cons_cons,List.zipWith_nil_right]
end Go.Azalai
namespace Go.Proofs.YtongccnhomncnaaGreatDoor
open Go Go.Sx Go.Azalai
def ZCa (s:Season) (k:Int) (l:List Stop) (slabs:Int):Ot:=⟨false,.cl 201 [.p 0 0,.p 1 0,.p 2 0],[(0,.cells (YF s k) 89),(1,.cells [.sl false 6 (l.map Z3)] 68),(2,.cells [I slabs] 3)],3⟩
theorem Zgb (s:Season) (k:Int) (l:List Stop) (slabs:Int):Cq 127 [] 0 [.agg (YF s k),.sl false 6 (l.map Z3),I slabs] (λo=>o=ZCa s k l slabs):=by
 refine m127 (by simp [hpb]) (λo ho=>by subst ho;simp [ZCa,YF,KX,KXL,KXP,KXH,Za,KFL,KF,Zg,Zr,Zi,Zl,Ze,Zk,Z3]) ?_;dsimp only [c127,r127,go_sem];refine ⟨_,rfl,?_⟩;(refine Zw ?_ ?_ ?_ rfl<;>dsimp only [ZCa,YF,Zg,Zr,Zi,Zl,Ze,Zk,Z3,id,go_sem]<;>simp [ZCa,YF,Zg,Zr,Zi,Zl,Ze,Zk,Z3,Za])
def Uf (w:Int × Int) (ds:List Draw):Ot:=if w.1=0 then ⟨false,.sl false 3 (ds.map Yx),[],0⟩ else XN w.1 w.2
theorem ZqV (s:Season) (h:OkS s) (k:Nat) (hk:k < s.scenes.length) (l:List Stop) (hl:l.length<=1000) (n slabs:Int) (hn:0<=n/\n<=s.herd) (hsl:0<=slabs/\slabs<=12) :
 Cq 73 [] 0 [.agg (YF s k),.sl false 6 (l.map Z3),I n,I slabs] (λo=>o=Uf (Zix s s.scenes[k] n slabs l) (VJ s s.scenes[k] n slabs l)):=by
 have hnum:=h.num;have hx:=h.scene _ (List.getElem_mem hk);have hy:s.scenes[k].yields.length=s.land.wells.length:=by simp only [YI,Bool.and_eq_true,decide_eq_true_eq] at hx;omega
 have hb:0<=slabs * s.slab/\slabs * s.slab<=12 * 1000000:=⟨Int.mul_nonneg hsl.1 (by omega),Int.mul_le_mul hsl.2 (by omega) (by omega) (by decide)⟩
 refine m73 (by simp [hpb]) (λo ho=>by subst ho;unfold Uf;split<;>simp [XN,KX,KXL,KXP,Za,KFL,KF,Yx]) ?_;dsimp only [c73,r73,YF,go_sem];simp only [List.length_map];by_cases hl0:l=[]
 . subst hl0;refine Zs (by simp) ?_;dsimp only [go_sem];refine call (Cm.carries_ok s.breed s.camel) ?_;dsimp only [Cm.sres,Ze,go_sem];rw [show (if Uz s.breed s.camel=0 then Zeh s.breed s.camel else Z0)=Zfp s.breed s.camel from rfl];repeat (refine gb ?_;dsimp only [go_sem])
   rw [Zf (n:=slabs * s.slab) (by omega) (by omega)];by_cases hok:n=0\/slabs * s.slab<=(Zfp s.breed s.camel).lo
   . rw [show (n == 0 || decide (slabs * s.slab<=(Zfp s.breed s.camel).lo))=true from by simpa using hok];refine ZA [] (UQ 2 0) rfl rfl rfl ?_ ?_ ?_
     . (repeat first | dsimp only [go_sem] | simp only [nbr])
       try simp [mtL,mtB,mtS]
     . trivial
     rintro _ rfl
     (repeat first | dsimp only [go_sem] | simp only [nbr])
     refine ⟨_,rfl,?_⟩;have hw:Zix s s.scenes[k] n slabs []=(0,0):=by
      unfold Zix;split
      . rfl
      . rw [goF,if_pos rfl,if_neg (by omega)];rfl
     rw [hw];simp only [Uf,if_true,VJ,List.map_nil];refine Uq (Yi (Yc 0 3 212 rfl rfl) (Yi (Zav 0 4 0 rfl rfl rfl rfl) ?_)) (λ_ _ _ e=>by cases e);(refine Zj ?_ ?_ ?_ rfl rfl<;>dsimp only [id,go_sem]<;>simp [Za])
   . rw [show (n == 0 || decide (slabs * s.slab<=(Zfp s.breed s.camel).lo))=false from by simpa using hok];refine ZA [] (Zb9 2 0) rfl rfl rfl ?_ ?_ ?_
     . (repeat first | dsimp only [go_sem] | simp only [nbr])
       try simp [mtL,mtB,mtS]
     . trivial
     rintro _ rfl
     (repeat first | dsimp only [XN,go_sem] | simp only [nbr])
     refine ⟨_,rfl,?_⟩;have hw:Zix s s.scenes[k] n slabs []=(2,0):=by
      unfold Zix;rw [if_neg (by omega),goF,if_pos rfl,if_pos (by omega)];rfl
     rw [hw];simp only [Uf];(refine Zw ?_ ?_ ?_ rfl<;>dsimp only [XN,id,go_sem]<;>simp [XN,Za])
 have hl1:l.length≠0:=λe=>hl0 (List.length_eq_zero_iff.1 e);refine Zo (by simpa using hl0) ?_;dsimp only [go_sem];by_cases hn0:n=0
 . refine Zs (by simpa using hn0) ?_;dsimp only [go_sem];simp only [List.length_map];refine ⟨0,l.length - 1,⟨rfl,by rw [Zf (by omega) (by omega)];omega,by omega,by simp⟩,?_⟩;rw [List.drop_zero,show (l.map Z3).take (l.length - 1)=l.dropLast.map Z3 from by rw [List.dropLast_eq_take,List.map_take]];dsimp only [go_sem];simp only [List.length_map];have hwF:Zix s s.scenes[k] n slabs l=(0,0):=by simp only [Zix,if_pos hn0]
   have hdF:VJ s s.scenes[k] n slabs l=l.dropLast.map λst=>⟨st.well,st.arrives.lo,0⟩:=by simp only [VJ,if_neg hl0,if_pos hn0]
   have hdl:l.dropLast.length<=1000:=by simp;omega
   rw [hwF,hdF];generalize l.dropLast=m at hdl ⊢;refine ZdB (Yi (Zbl [4,5,6,8,11,49,50,51] rfl) (XE 3 0 3 212 rfl rfl)) (λq:Nat × Nat × List Draw=>[(51,I q.1)])
    (λq=>[(3,.cells [.mr 4 q.2.1] 84),(4,.row q.2.1 3 (q.2.2.map Yx) 212)]) (λq=>q.1<=m.length/\q.2.2=(m.map λst=>(⟨st.well,st.arrives.lo,0⟩:Draw)).take q.1) (λq=>m.length - q.1) (0,0,[]) ⟨Nat.zero_le _,by simp⟩ ?_ ?_
   . (refine Zj ?_ ?_ ?_ rfl rfl<;>dsimp only [YF,Zg,Zr,Zi,Zl,Ze,Zk,Z3,Yx,id,go_sem]<;>simp [YF,Zg,Zr,Zi,Zl,Ze,Zk,Z3,Yx,Za])
   rintro ⟨j,v,D⟩ ⟨hj,hD⟩;simp only at hj hD;dsimp only [go_sem];by_cases hlt:j < m.length
   . refine Zs (by simpa using hlt) ?_;dsimp only [go_sem];refine Zn j hlt rfl ?_;dsimp only [Z3,go_sem];simp only [nbr];dsimp only [go_sem];refine ⟨(by intro c hc;simp only [List.mem_singleton] at hc;subst hc;rfl),by simp [hD];omega,?_⟩;dsimp only [go_sem];rw [Zf (n:=(j:Int)+1) (by omega) (by omega)];refine ⟨(j+1,v+1,D ++ [⟨m[j].well,m[j].arrives.lo,0⟩]),⟨hlt,?_⟩,by simp only;omega,?_⟩
     . simp only;rw [List.take_succ_eq_append_getElem (by simpa using hlt),<- hD,List.getElem_map]
     simp only [List.map_append,List.map_cons,List.map_nil];(refine Zj ?_ ?_ ?_ rfl rfl<;>dsimp only [YF,Zg,Zr,Zi,Zl,Ze,Zk,Z3,Yx,id,go_sem]<;>simp [YF,Zg,Zr,Zi,Zl,Ze,Zk,Z3,Yx,Za])
   refine Zo (by simp;omega) ?_;dsimp only [go_sem];rw [List.take_of_length_le (by simp;omega)] at hD;rw [<- hD];refine ⟨_,rfl,?_⟩;simp only [Uf,if_true];refine Uq (Yi (Zav 0 4 v rfl rfl rfl rfl) ?_) (λ_ _ _ e=>by cases e);(refine Zj ?_ ?_ ?_ rfl rfl<;>dsimp only [Yx,id,go_sem]<;>simp [Yx,Za])
 refine Zo (by simpa using hn0) ?_;dsimp only [go_sem];refine ZaI [] (Zgb s k l slabs) rfl rfl rfl ?_ ?_ ?_
 . exact Zc (by simp [YF,Zg,Zr,Zi,Zl,Ze,Zk,Z3,Za])
 . trivial
 dsimp only [ZCa,YF,go_sem];refine gh (XE 3 0 3 212 rfl rfl) ?_;dsimp only [go_sem];refine ⟨b201,λrec=>?_⟩;refine y201 ?_;dsimp only [c201,r201,go_sem];have hgF:goF s s.scenes[k] slabs l=goG s s.scenes[k] slabs l 0 s.camel []:=by simp only [goF,if_neg hl0]
 have hgs:∀ (j n:Nat) (hj:j < l.length) c acc,goG s s.scenes[k] slabs (l.drop j) n c acc=if (Xx s s.scenes[k] (YV s.land l[j].leg s.pace).1 slabs c).2≠0 then ((Xx s s.scenes[k] (YV s.land l[j].leg s.pace).1 slabs c).2,(n:Int),acc)
  else goG s s.scenes[k] slabs (l.drop (j+1)) (n+1) (Zd8 s.breed (Xx s s.scenes[k] (YV s.land l[j].leg s.pace).1 slabs c).1)
   (if l.drop (j+1)=[] then acc else acc ++ [(s.breed.full - (Xx s s.scenes[k] (YV s.land l[j].leg s.pace).1 slabs c).1.water.lo,ZdQ s s.scenes[k] l[j])]):=λj n hj c acc=>by
  rw [List.drop_eq_getElem_cons hj,goG]
 have hwF:Zix s s.scenes[k] n slabs l=Zbu n (goF s s.scenes[k] slabs l):=by simp only [Zix,if_neg hn0]
 have hdF:VJ s s.scenes[k] n slabs l=Vw n l (goF s s.scenes[k] slabs l).2.2:=by simp only [VJ,if_neg hl0,if_neg hn0]
 rw [hwF,hdF];refine UV [0,1,2,3,5,13,14,15] rfl (λq:Nat × Camel × List (Int × Int) × Nat=>[(15,I q.1)])
  (λq=>[(9,.cells (Cm.camelL q.2.1) 31),(3,.cells [.mr 7 q.2.2.2] 84),(7,.row q.2.2.2 3 ((Vw n l q.2.2.1).map Yx) 212)])
  (λq=>q.1 < l.length/\goG s s.scenes[k] slabs (l.drop q.1) q.1 q.2.1 q.2.2.1=goF s s.scenes[k] slabs l/\ZE s.breed q.2.1=true/\ZcH n q.2.2.1 0=none/\q.2.2.1.length=q.1) (λq=>l.length - q.1) (0,s.camel,[],0)
  ⟨by simp only;omega,hgF.symm,h.beast.2,rfl,rfl⟩ ?_ ?_
 . (refine Zj ?_ ?_ ?_ rfl rfl<;>dsimp only [Cm.camelL,Vw,YF,Zg,Zr,Zi,Zl,Ze,Zk,Z3,Yx,mtL,mtB,mtS,id,go_sem]<;>simp [Cm.camelL,Vw,YF,Zg,Zr,Zi,Zl,Ze,Zk,Z3,Yx,mtL,mtB,mtS,Za])
 rintro ⟨j,c,acc,v⟩ ⟨hlt,hi,hc,hdry,hal⟩;simp only at hlt hi hc hdry hal;dsimp only [Cm.camelL,go_sem];simp only [List.length_map];refine Zs (by simpa using hlt) ?_;dsimp only [go_sem];refine Zn j hlt rfl ?_;dsimp only [Z3,go_sem];refine call (days_ok s h l[j].leg) ?_;dsimp only [sres,Ze,go_sem];have hm:=Zqe s k hk j c (YV s.land l[j].leg s.pace).1 slabs hsl (by omega) (Zss h.lp);rw [hgs j j hlt] at hi
 have hbo:=Ze5 (x:=s.scenes[k]) (d:=(YV s.land l[j].leg s.pace).1) (slabs:=slabs) h.beast.1 hc;generalize Xx s s.scenes[k] (YV s.land l[j].leg s.pace).1 slabs c=b at hi hbo hm;have hwb:=Zhs h.beast.1 hbo;by_cases hw:b.2=0
 case neg =>
  simp only [ZbD,if_neg hw] at hm;refine ZA [] hm rfl rfl rfl ?_ ?_ ?_
  . exact Zc (by simp [YF,Cm.camelL,Zg,Zr,Zi,Zl,Ze,Zk,Z3,Za,KFL,KF])
  . trivial
  rintro _ rfl
  (repeat first | dsimp only [XN,go_sem] | simp only [nbr])
  rw [if_pos hw] at hi;rw [<- hi];refine ⟨_,rfl,?_⟩;rw [show Zbu n (b.2,(j:Int),acc)=(b.2,(j:Int)) from by simp only [Zbu,hdry]];simp only [Uf,if_neg hw];(refine Zw ?_ ?_ ?_ rfl<;>dsimp only [XN,id,go_sem]<;>simp [XN,Za])
 simp only [ZbD,if_pos hw] at hm;refine ZA [] hm rfl rfl rfl ?_ ?_ ?_
 . exact Zc (by simp [YF,Cm.camelL,Zg,Zr,Zi,Zl,Ze,Zk,Z3,Za,KFL,KF])
 . trivial
 rintro _ rfl
 (repeat first | dsimp only [camelL,Cm.camelL,go_sem] | simp only [nbr])
 rw [if_neg (by simpa using hw)] at hi;refine ⟨trivial,trivial,?_⟩;rw [Zf (n:=(j:Int)+1) (by omega) (by omega)];simp only [List.length_map];by_cases hlast:j+1=l.length
 . refine Zs (by simp;omega) ?_;dsimp only [go_sem];refine ⟨by trivial,?_⟩;refine Zs rfl ?_;dsimp only [go_sem];rw [if_pos (List.drop_eq_nil_of_le (by omega)),List.drop_eq_nil_of_le (by omega),goG] at hi;rw [<- hi];refine ⟨_,rfl,?_⟩;rw [show Zbu n (0,0,acc)=(0,0) from by simp only [Zbu,hdry]];simp only [Uf,if_true];refine Uq (Yi (Zav 0 7 v rfl rfl rfl rfl) ?_) (λ_ _ _ e=>by cases e);(refine Zj ?_ ?_ ?_ rfl rfl<;>dsimp only [Yx,id,go_sem]<;>simp [Yx,Za])
 refine Zo (by simp;omega) ?_;dsimp only [go_sem];rw [if_neg (by intro e;rw [List.drop_eq_nil_iff] at e;omega)] at hi;refine Zn j hlt rfl ?_;dsimp only [Z3,go_sem];refine Zn j hlt rfl ?_;dsimp only [Z3,go_sem];have hm2:0<=n * (s.breed.full - b.1.water.lo)/\n * (s.breed.full - b.1.water.lo)<=30 * 1000000:=⟨Int.mul_nonneg hn.1 (by omega),Int.mul_le_mul (by omega) (by omega) (by omega) (by decide)⟩
 rw [Zf (n:=s.breed.full - b.1.water.lo) (by omega) (by omega),Zf (n:=n * (s.breed.full - b.1.water.lo)) (by omega) (by omega)];refine Zn j hlt rfl ?_;dsimp only [Z3,go_sem];refine call (ZuA s h.small k hk hy l[j]) ?_;dsimp only [go_sem];by_cases hdr:n * (s.breed.full - b.1.water.lo)<=ZdQ s s.scenes[k] l[j]
 case neg =>
  rw [show decide (n * (s.breed.full - b.1.water.lo)<=ZdQ s s.scenes[k] l[j])=false from decide_eq_false hdr];refine ZA [] (Zb9 4 j) rfl rfl rfl ?_ ?_ ?_
  . (repeat first | dsimp only [go_sem] | simp only [nbr])
    try simp [mtL,mtB,mtS]
  . trivial
  rintro _ rfl
  (repeat first | dsimp only [XN,go_sem] | simp only [nbr])
  refine ⟨_,rfl,?_⟩;obtain ⟨more,hmore⟩:=Zgf (s:=s) (x:=s.scenes[k]) (slabs:=slabs) (l:=l.drop (j+1)) (i:=j+1) (c:=Zd8 s.breed b.1) (acc:=acc ++ [(s.breed.full - b.1.water.lo,ZdQ s s.scenes[k] l[j])]);have hf:Zbu n (goF s s.scenes[k] slabs l)=(4,(j:Int)):=by
   rw [<- hi];simp only [Zbu];rw [hmore,List.append_assoc,ZbE hdry,hal];simp only [List.cons_append,List.nil_append,ZcH];rw [if_pos (by omega)];simp
  rw [hf];simp only [Uf];(refine Zw ?_ ?_ ?_ rfl<;>dsimp only [XN,id,go_sem]<;>simp [XN,Za])
 rw [show decide (n * (s.breed.full - b.1.water.lo)<=ZdQ s s.scenes[k] l[j])=true from decide_eq_true hdr];refine ZA [] (UQ 4 j) rfl rfl rfl ?_ ?_ ?_
 . (repeat first | dsimp only [go_sem] | simp only [nbr])
   try simp [mtL,mtB,mtS]
 . trivial
 rintro _ rfl
 (repeat first | dsimp only [go_sem] | simp only [nbr])
 refine ⟨(by intro c hc;simp only [List.mem_singleton] at hc;subst hc;rfl),by simp [Vw];omega,?_⟩;dsimp only [go_sem];refine ⟨by trivial,?_⟩;refine Zo rfl ?_;dsimp only [go_sem];rw [Zf (n:=(j:Int)+1) (by omega) (by omega)];refine ⟨(j+1,Zd8 s.breed b.1,acc ++ [(s.breed.full - b.1.water.lo,ZdQ s s.scenes[k] l[j])],v+1),⟨by simp only;omega,hi,ZdE h.beast.1 hbo,?_,by simp;omega⟩,by simp only;omega,?_⟩
 . simp only;rw [ZbE hdry];simp only [ZcH];rw [if_neg (by omega)]
 simp only;rw [Zfy hlt hal];simp only [List.map_append,List.map_cons,List.map_nil];(refine Zj ?_ ?_ ?_ rfl rfl<;>dsimp only [Cm.camelL,Zd8,ZbV,YF,Zg,Zr,Zi,Zl,Ze,Zk,Z3,Yx,mtL,mtB,mtS,id,go_sem]<;>simp [Cm.camelL,Zd8,ZbV,YF,Zg,Zr,Zi,Zl,Ze,Zk,Z3,Yx,mtL,mtB,mtS,Za])
def ZEm:List Ins:=[
 m1 2 5]
def ZEe:SC:=(sr1 [m1 6 2,o1 7 (.raw (Go.Op.binOp Go.BinOp.neq 20 (Go.Operand.tmp 6) (Go.Operand.const Go.Value.nilIface) 20) 4)] (Ji 7 (sr1 [m1 9 2,o1 10 (.raw (Go.Op.typeAssert (Go.Operand.tmp 9) 20 86 Bool.true) 159),m1 8 10,o1 11 (Je 8 0),o1 12 (Je
 8 1),o1 3 (.alloc Zvj 86),Js 3 11 2,m1 4 12] (.seq (sr1 [m1 13 4,o1 14 (Jh 13)] (Ji 14 (.reg [m1 15 2,⟨none,.raw (Go.Op.panic (Go.Operand.tmp 15)) 0,none,[]⟩]) .skip)) (.regd [0,1,2] [.hide (.t 0),Jo 16 (lt 3 2)] 0 2 [Jv 0 (.c (.slice none 0 0)) 1,Ju
 1 16 2 [0,1]]))) .skip))
theorem qw70:RcF Tryz.prog 70 5 ZEm ZEe 17:=⟨⟨Tryz.f70,_,_,_,_,Tryz.func70,rfl,rfl,by kernel_rfl,by kernel_rfl,by kernel_rfl,by kernel_rfl,by decide,rfl⟩,by kernel_rfl⟩
def cw7:SC:=(sr1 [o1 2 (Jz 0 0 34),o1 3 (Jz 1 0 37),o1 4 (.mv (.c (.int .u8 0))),Jk 5 0,Jk 6 0,Jk 7 0] (.seq (sr1 [o1 12 (lt 2 37),o1 13 (lt 3 3),o1 14 (J2 24 12 13),m1 8 14] (sr1 [m1 15 8,o1 16 (Jc .neq 15 0)] (Ji 16 (sr1 [m1 17 8,o1 4 (.mv (.c (.int
 .u8 0))),Jk 5 0,Jk 6 0,m1 7 17] .ret) .skip))) (.seq (sr1 [o1 18 (ao 2 36),o1 19 (lf 18 1),o1 20 (Jl 19),Jk 21 0] (.block 0 (.loop (sr1 [o1 22 (Jb .lss 21 20)] (.seq (Ji 22 .skip (.exit 0)) (.seq (.block 1 (sr1 [m1 23 21,m1 9 23] (sr1 [o1 25 (lt 2
 37),m1 26 9,o1 27 (.build zv2 [(0,37,.t 25),(37,1,.t 26)]),o1 28 (lt 3 3),o1 29 (.callm 25 [.t 27,.t 28]),m1 24 29,o1 30 (Je 24 0),o1 31 (Je 24 1),o1 11 (.alloc Zvj 86),m1 10 30,Js 11 31 2] (sr1 [o1 32 (ao 11 0),o1 33 (lf 32 1),o1 34 (.bin .neq (.t
 33) (.c (.int .u8 0)))] (Ji 34 (.seq (.regd (Jr 9) [Jo 35 (ao 11 0),Jp 36 (lf 35 1) [0],Jm 37 9,Jo 38 (ao 11 1),Jp 39 (lf 38 1) [3],Jp 4 (.mv (.t 36)) [0,1],Jp 5 (.mv (.t 37)) [0,1,2,5],Jp 6 (.mv (.t 39)) (Jr 7),Jp 7 (.mv (cn 0)) (Jr 8)] 0 0 [])
 .ret) .skip))))) (.reg [o1 40 (Jc .add 21 1),m1 21 40]))))))) (sr1 [o1 4 (.mv (.c (.int .u8 0))),Jk 5 0,Jk 6 0,Jk 7 0] .ret))))
def rw7:List RV:=[.tmp 4,.tmp 5,.tmp 6,.tmp 7]
theorem tw7:Qt1 Tryz.prog 7 cw7 rw7 41:=ZF Tryz.func7
def cw48:SC:=(sr1 [o1 3 (Jz 0 0 34),Jk 6 0] (sr1 [o1 14 (ao 3 28),o1 15 (lf 14 1),m1 7 15] (.seq (sr1 [o1 16 (ao 3 36),o1 17 (lf 16 1),o1 18 (Jl 17),Jk 19 0] (.block 0 (.loop (sr1 [o1 20 (Jb .lss 19 18)] (.seq (Ji 20 .skip (.exit 0)) (.seq (.block 1
 (sr1 [m1 21 19,m1 8 21] (sr1 [o1 22 (lt 3 37),m1 23 8,o1 24 (.build zv2 [(0,37,.t 22),(37,1,.t 23)]),o1 9 (.alloc zv2 89),Js 9 24 38] (sr1 [o1 26 (lt 9 38),m1 27 1,m1 28 2,o1 29 (.build ZrV [(0,1,.t 27),(1,1,.c (.int .i64 1)),(2,1,.t 28)]),o1 30
 (.callm 25 [.t 26,.t 29]),m1 25 30,o1 31 (Je 25 0),o1 32 (Je 25 1),o1 11 (.alloc Zvj 86),m1 10 31,Js 11 32 2] (.seq (sr1 [o1 33 (ao 11 0),o1 34 (lf 33 1),o1 35 (.bin .neq (.t 34) (.c (.int .u8 0)))] (Ji 35 (sr1 [Jk 6 0] .ret) .skip)) (sr1 [m1 36
 10,o1 37 (Jl 36),Jk 38 0] (.block 2 (.loop (sr1 [o1 39 (Jb .lss 38 37)] (.seq (Ji 39 .skip (.exit 2)) (.seq (.block 3 (sr1 [o1 40 (Jx 36 38 3),o1 41 (lt 40 3),o1 13 (.alloc zv3 212),Js 13 41 3] (sr1 [o1 42 (ao 13 2),o1 43 (lf 42 1),o1 44 (Jc .gtr 43
 0)] (Ji 44 (.regd (Jr 14) [Jm 45 7,Jo 46 (lt 9 38),Jo 47 (ao 13 0),Jp 48 (lf 47 1) [2],Jo 49 (ao 13 1),Jp 50 (lf 49 1) [4],Jp 51 (.build zv0 [(0,1,.t 50)]) [5],Jp 52 (.build zv9 [(1,1,.t 48),(4,2,.t 51)]) [3,6],Jp 53 (J2 103 46 52) [1,7],Jo 54 (ao 13
 2),Jp 55 (lf 54 1) [9],Jp 56 (.div .quo (.t 53) (.t 55)) [8,10],Jp 57 (.mm false [.t 45,.t 56]) [0,11]] 0 0 [⟨some 7,.mv (.t 57),none,(Jr 13)⟩]) .skip)))) (.reg [o1 58 (Jc .add 38 1),m1 38 58])))))))))))) (.reg [o1 59 (Jc .add 19 1),m1 19 59])))))))
 (sr1 [m1 60 7,m1 6 60] .ret))))
def rw48:List RV:=[.tmp 6]
theorem tw48:Qt1 Tryz.prog 48 cw48 rw48 61:=ZF Tryz.func48
theorem ZBB {s:Season} {x:Scene} {slabs:Int}:∀ {l:List Stop} {i:Nat} {c:Camel} {acc:List (Int × Int)},(goG s x slabs l i c acc).1=0->((goG s x slabs l i c acc).1,(goG s x slabs l i c acc).2.1)=(0,0)
 | [],_,_,acc,_=>by simp [goG]
 | st :: r,i,c,acc,h=>by
  simp only [goG] at h ⊢;split
  . rename_i hb;rw [if_pos hb] at h;exact absurd h hb
  . rename_i hb;rw [if_neg hb] at h;exact ZBB h
theorem goF_z {s:Season} {x:Scene} {slabs:Int} {l:List Stop} (h:(goF s x slabs l).1=0):((goF s x slabs l).1,(goF s x slabs l).2.1)=(0,0):=by
 unfold goF at h ⊢;split
 . rename_i hb;rw [if_pos hb] at h;simp only at h ⊢;rw [h]
 . rename_i hb;rw [if_neg hb] at h;exact ZBB h
theorem u20:Tryz.prog.underlying 20=some (.interface (Tryz.prog.methodsAt 20)):=by kernel_rfl
theorem ZeS {s:Season} {p:Plan} {x:Scene}:WJ s p x=if Uh s p.legs=false then (1,0) else Zix s x p.animals p.slabs (Ye s p.legs):=by
 unfold WJ Zix;rfl
def Vu (s:Season) (p:Plan) (x:Scene):List Draw:=if (WJ s p x).1=0 then VJ s x p.animals p.slabs (Ye s p.legs) else []
def ZxB (w:Int × Int) (ds:List Draw):Ot:=⟨false,.tup [.sl false 3 (ds.map Yx),.agg [U8 w.1,I w.2]],[],0⟩
theorem Zu1 (s:Season) (h:OkS s) (k:Nat) (hk:k < s.scenes.length) (p:Plan) (hp:Wi s p=true) (hg:p.legs.length<=1000) :
 Cq 25 [] 0 [.agg (YF s k),.agg (ZQ p)] (λo=>o=ZxB (WJ s p s.scenes[k]) (Vu s p s.scenes[k])):=by
 have hnum:=h.num;obtain ⟨_,hpl⟩:=Zbq hp;refine m25 (by simp [hpb]) (λo ho=>by subst ho;simp [ZxB,KX,KXL,KXP,Za,KFL,KF,Yx]) ?_;dsimp only [c25,r25,YF,ZQ,go_sem];refine call (ZrM s h p.legs hg _) ?_;dsimp only [go_sem];by_cases hs:Uh s p.legs=true
 case neg =>
  rw [Bool.eq_false_iff.2 hs];refine ZA [] (Zb9 1 0) rfl rfl rfl ?_ ?_ ?_
  . (repeat first | dsimp only [go_sem] | simp only [nbr])
    try simp [mtL,mtB,mtS]
  . trivial
  rintro _ rfl
  (repeat first | dsimp only [XN,go_sem] | simp only [nbr])
  refine ⟨_,_,_,_,qw70,?_⟩;dsimp only [ZEm,ZEe,go_sem];refine ⟨rfl,?_⟩;refine Zgz u20 rfl ?_;dsimp only [go_sem];refine Zs rfl ?_;dsimp only [go_sem];refine ZbN ZdH rfl ?_;dsimp only [go_sem];refine Zo rfl ?_;dsimp only [go_sem];refine ⟨_,rfl,?_⟩;have hF:WJ s p s.scenes[k]=(1,0):=by rw [ZeS,if_pos (Bool.eq_false_iff.2 hs)]
  rw [ZxB,Vu,hF];refine Uq (Yi (Zcv (s':=.tup [.sl false 3 [],.agg [U8 1,I 0]]) 0 rfl (VR (ZH YP Wl)) (λ_ _ _ h=>by cases h)) ?_) (λ_ _ _ e=>by cases e);(refine Zj ?_ ?_ ?_ rfl rfl<;>dsimp only [id,go_sem]<;>simp [Za])
 rw [hs];refine ZA [] (UQ 1 0) rfl rfl rfl ?_ ?_ ?_
 . (repeat first | dsimp only [go_sem] | simp only [nbr])
   try simp [mtL,mtB,mtS]
 . trivial
 rintro _ rfl
 (repeat first | dsimp only [go_sem] | simp only [nbr])
 have hF:WJ s p s.scenes[k]=Zix s s.scenes[k] p.animals p.slabs (Ye s p.legs):=by rw [ZeS,if_neg (by simp [hs])]
 have hd:=ZqV s h k hk (Ye s p.legs) (Nat.le_trans ZbU hg) p.animals p.slabs ⟨hpl.1,hpl.2.1⟩ hpl.2.2;rw [<- hF] at hd;have hT:Vu s p s.scenes[k]=if (WJ s p s.scenes[k]).1=0 then VJ s s.scenes[k] p.animals p.slabs (Ye s p.legs) else []:=rfl
 rw [hT];have hz:(WJ s p s.scenes[k]).1=0->WJ s p s.scenes[k]=(0,0):=λh0=>by
  rw [hF] at h0 ⊢
  revert h0
  unfold Zix;split
  . intro _;rfl
  . unfold Zbu;split
    . intro h1;simp at h1
    . intro h1;exact goF_z h1
 generalize WJ s p s.scenes[k]=w at hd hz ⊢;generalize VJ s s.scenes[k] p.animals p.slabs (Ye s p.legs)=D at hd ⊢;by_cases hw:w.1=0
 . simp only [Uf,if_pos hw] at hd;refine ZA [] hd rfl rfl rfl ?_ ?_ ?_
   . exact Zc (by simp [YF,Zg,Zr,Zi,Zl,Ze,Zk,Z3,Za])
   . trivial
   rintro _ rfl
   (repeat first | dsimp only [go_sem] | simp only [nbr])
   refine ⟨_,_,_,_,qw70,?_⟩;dsimp only [ZEm,ZEe,go_sem];refine ⟨rfl,?_⟩;refine UP u20 rfl ?_;dsimp only [go_sem];refine Zo rfl ?_;dsimp only [go_sem];refine ⟨_,rfl,?_⟩;rw [hz hw];simp only [ZxB,if_true];(refine Zw ?_ ?_ ?_ rfl<;>dsimp only [Yx,id,go_sem]<;>simp [Yx,Za])
 simp only [Uf,if_neg hw] at hd;refine ZA [] hd rfl rfl rfl ?_ ?_ ?_
 . exact Zc (by simp [YF,Zg,Zr,Zi,Zl,Ze,Zk,Z3,Za])
 . trivial
 rintro _ rfl
 (repeat first | dsimp only [XN,go_sem] | simp only [nbr])
 refine ⟨_,_,_,_,qw70,?_⟩;dsimp only [ZEm,ZEe,go_sem];refine ⟨rfl,?_⟩;refine Zgz u20 rfl ?_;dsimp only [go_sem];refine Zs rfl ?_;dsimp only [go_sem];refine ZbN ZdH rfl ?_;dsimp only [go_sem];refine Zo rfl ?_;dsimp only [go_sem];refine ⟨_,rfl,?_⟩;rw [ZxB,if_neg hw];refine Uq (Yi (Zcv (s':=.tup [.sl false 3 [],.agg [U8 w.1,I w.2]]) 0 rfl (VR (ZH YP Wl)) (λ_ _ _ h=>by cases h)) ?_) (λ_ _ _ e=>by cases e)
 (refine Zj ?_ ?_ ?_ rfl rfl<;>dsimp only [id,go_sem]<;>simp [Za])
theorem Zm6 (a b:List Int) (ha:a.length<=1000000) (hb:b.length<=1000000) (c c':Bool):Cp 64 [.sl c 1 (a.map Zk),.sl c' 1 (b.map Zk)] (B (decide (a=b))):=by
 refine t64.1 (by simp [Za,Zk]) (by simp) ?_;dsimp only [c64,r64,go_sem];simp only [List.length_map];by_cases hl:a.length=b.length
 case neg =>
  refine Zs (by simp;omega) ?_;dsimp only [go_sem];have:a≠b:=λe=>hl (by rw [e]);simp [this]
 refine Zo (by simp;omega) ?_;dsimp only [go_sem];refine Ym (λj:Nat=>[(5,I j)]) (λ_=>[]) (λj=>j<=a.length/\a.take j=b.take j) (λj=>a.length - j) 0 ⟨Nat.zero_le _,rfl⟩ ?_ ?_
 . (refine Zj ?_ ?_ ?_ rfl rfl<;>dsimp only [Zk,id,go_sem]<;>simp [Zk,Za])
 rintro j ⟨hj,ht⟩;dsimp only [go_sem];simp only [List.length_map];by_cases hlt:j < a.length
 . refine Zs (by simpa using hlt) ?_;dsimp only [go_sem];have hltb:j < b.length:=by omega
   refine Zn j hlt rfl ?_;dsimp only [go_sem];refine Zn j hltb rfl ?_;dsimp only [Zk,go_sem];by_cases he:a[j]=b[j]
   . refine Zo (by rw [he];simp [ngB]) ?_;dsimp only [go_sem];rw [Zf (n:=(j:Int)+1) (by omega) (by omega)];refine ⟨j+1,⟨hlt,?_⟩,by omega,?_⟩
     . rw [List.take_succ_eq_append_getElem hlt,List.take_succ_eq_append_getElem hltb,ht,he]
     (refine Zj ?_ ?_ ?_ rfl rfl<;>dsimp only [Zk,id,go_sem]<;>simp [Zk,Za])
   . refine Zs ?_ ?_
     . simpa using he
     dsimp only [go_sem];have:a≠b:=λe=>he (by subst e;rfl);simp [this]
 refine Zo (by simp;omega) ?_;dsimp only [go_sem];have:a=b:=by
  rw [List.take_of_length_le (by omega),List.take_of_length_le (by omega)] at ht;exact ht
 simp [this]
theorem Zs7 (s:Season) (hs:SmallS s) (p:Plan) (hg:p.legs.length<=1000):Cp 7 [.agg (Zv s),.agg (ZQ p)] (Zm7 (Vq s p)):=by
 refine tw7.1 (by simp [Zv,ZQ,Zl,Zg,Zr,Zi,Ze,Zk,Z3,Za]) (by simp [Zm7]) ?_;dsimp only [cw7,rw7,Zv,ZQ,go_sem];refine call (ZtL s hs p hg) ?_;dsimp only [go_sem];by_cases ho:ZR s=true
 case neg =>
  refine Zs (by simp [ho]) ?_;dsimp only [go_sem];simp [Zm7,Vq,ho]
 by_cases hp:Wi s p=true
 case neg =>
  refine Zs (by simp [ho,hp]) ?_;dsimp only [go_sem];simp [Zm7,Vq,ho,hp]
 refine Zo (by simp [ho,hp]) ?_;dsimp only [go_sem];simp only [List.length_map];have h:OkS s:=⟨hs,ho⟩
 have hF:Vq s p=Ug s p s.scenes 0:=by simp only [Vq,ho,hp,Bool.true_eq_false,if_false]
 rw [hF];have hsc:=hs.sc;refine UV [2,3,20,21] rfl (λq:Nat=>[(21,I q)]) (λ_=>[]) (λq=>q<=s.scenes.length/\Ug s p (s.scenes.drop q) q=Ug s p s.scenes 0) (λq=>s.scenes.length - q) 0 ⟨Nat.zero_le _,rfl⟩ ?_ ?_
 . (refine Zj ?_ ?_ ?_ rfl rfl<;>dsimp only [Zg,Zr,Zi,Zl,Ze,Zk,Z3,id,go_sem]<;>simp [Zg,Zr,Zi,Zl,Ze,Zk,Z3,Za])
 rintro j ⟨hj,hi⟩;dsimp only [go_sem];by_cases hlt:j < s.scenes.length
 case neg =>
  refine Zo (by simp;omega) ?_;dsimp only [go_sem];rw [List.drop_eq_nil_of_le (by omega),Ug] at hi;rw [<- hi];rfl
 refine Zs (by simpa using hlt) ?_;dsimp only [go_sem];have ht:=Zu1 s h j hlt p hp hg;rw [List.drop_eq_getElem_cons hlt,Ug] at hi;generalize WJ s p s.scenes[j]=w at ht hi;refine ZA [] ht rfl rfl rfl ?_ ?_ ?_
 . exact Zc (by simp [YF,ZQ,Zg,Zr,Zi,Zl,Ze,Zk,Z3,Za])
 . trivial
 rintro _ rfl
 (repeat first | dsimp only [ZxB,go_sem] | simp only [nbr])
 by_cases hf:w.1=0
 case neg =>
  refine Zs (by simpa using hf) ?_;dsimp only [go_sem];rw [if_pos hf] at hi;rw [<- hi];rfl
 refine Zo (by simpa using hf) ?_;dsimp only [go_sem];rw [if_neg (by simpa using hf)] at hi;rw [Zf (n:=(j:Int)+1) (by omega) (by omega)];refine ⟨j+1,⟨hlt,hi⟩,by omega,?_⟩;(refine Zj ?_ ?_ ?_ rfl rfl<;>dsimp only [Zg,Zr,Zi,Zl,Ze,Zk,Z3,id,go_sem]<;>simp [Zg,Zr,Zi,Zl,Ze,Zk,Z3,Za])
theorem Zgh (p q:Plan) (hp:p.legs.length<=1000) (hq:q.legs.length<=1000):Cp 20 [.agg (ZQ p),.agg (ZQ q)] (B (decide (p=q))):=by
 refine t20.1 (by simp [ZQ,Zk,Za]) (by simp) ?_;dsimp only [c20,r20,ZQ,go_sem];repeat (first | (refine gb ?_;dsimp only [go_sem]) | (refine call (Zm6 p.legs q.legs (by omega) (by omega) _ _) ?_;dsimp only [go_sem]))
 have:(p.animals == q.animals && p.slabs == q.slabs && decide (p.legs=q.legs))=decide (p=q):=by
  obtain ⟨a,b,c⟩:=p;obtain ⟨a',b',c'⟩:=q;rw [Bool.eq_iff_iff];simp;constructor
  . rintro ⟨⟨h1,h2⟩,h3⟩;exact ⟨h3,h1,h2⟩
  . rintro ⟨h1,h2,h3⟩;exact ⟨⟨h2,h3⟩,h1⟩
 rw [this]
def c49:SC:=(sr1 [o1 3 (Jz 0 0 34),o1 4 (Jz 1 0 37),Jk 6 0] (sr1 [o1 7 (.mv (.c (.slice none 0 0)))] (.seq (sr1 [o1 10 (ao 3 36),o1 11 (lf 10 1),o1 12 (Jl 11),Jk 13 0] (.block 0 (.loop (sr1 [o1 14 (Jb .lss 13 12)] (.seq (Ji 14 .skip (.exit 0)) (.seq
 (.block 1 (sr1 [o1 15 (Jx 11 13 6),o1 16 (lt 15 6),o1 9 (.alloc ZAD 139),Js 9 16 6] (.regs (Jr 27) ⟨[Jm 17 7,Jo 18 (ao 4 1),Jp 19 (lf 18 1) [1],Jo 20 (ao 4 2),Jp 21 (lf 20 1) [3],Jp 22 (Jb .mul 19 21) [2,4],Jo 23 (ao 9 5),Jp 24 (lf 23 1) [6],Jm 25
 2,Jp 26 (Jx 24 25 1) [7,8],Jp 27 (lf 26 1) [9],Jo 28 (ao 3 31),Jp 29 (lf 28 1) [11],Jp 30 (Jb .sub 27 29) [10,12],Jp 31 (Jb .mul 22 30) [5,13],Jo 32 (ao 3 28),Jp 33 (lf 32 1) [15],Jo 34 (ao 4 1),Jp 35 (lf 34 1) [17],Jp 36 (Jb .sub 33 35) [16,18],Jo
 37 (ao 3 32),Jp 38 (lf 37 1) [20],Jp 39 (Jb .mul 36 38) [19,21],Jp 40 (Jb .add 31 39) [14,22],Jp 41 (.bsl 1 3 [.t 40]) [23]],0,1,[⟨some 42,.appm 1 8 3 (.t 17) (.t 41),none,[0,24]⟩]⟩ [⟨[],0,1,[⟨some 7,.mv (.t 42),none,(Jr 26)⟩]⟩]))) (.reg [o1 43 (Jc
 .add 13 1),m1 13 43]))))))) (.gh (sr1 [m1 44 7,o1 45 (J1 104 44),m1 6 45] .ret)))))
def r49:List RV:=[.tmp 6]
theorem t49:Qt1 Tryz.prog 49 c49 r49 46:=ZF Tryz.func49
end Go.Proofs.YtongccnhomncnaaGreatDoor
namespace Go.Azalai
open Go.Sx
def Zjf:List Int->Int
 | []=>0
 | x :: r=>r.foldl min x
theorem Zn8 {l:List Int} {a:Int} (h:l≠[]):Zjf (l ++ [a])=min (Zjf l) a:=by
 cases l with
 | nil=>exact absurd rfl h
 | cons x r=>simp [Zjf,List.foldl_append]
def ZaR (s:Season) (p:Plan) (to:Int) (x:Scene):Int:=p.animals * p.slabs * ((x.prices[to.toNat]?).getD 0 - s.cost)+(s.herd - p.animals) * s.sale
def ZuU (s:Season) (p:Plan) (to:Int):Int:=Zjf (s.scenes.map (ZaR s p to))
theorem ZyL {α : Type} {L:List α} {k:Nat} (hk:k≠0) (h:1<=L.length):L.take k≠[]:=λe=>by
 rw [List.take_eq_nil_iff] at e;rcases e with e | e
 . exact hk e
 . rw [e] at h;simp at h
theorem Zxl {A B d M:Int} (h0:0<=A) (h1:A<=B) (hM:0<=M) (hd:-M<=d/\d<=M):-(B * M)<=A * d/\A * d<=B * M:=by
 have e1:A * d<=A * M:=Int.mul_le_mul_of_nonneg_left hd.2 h0;have e2:A * M<=B * M:=Int.mul_le_mul_of_nonneg_right h1 hM;have e3:A * (-M)<=A * d:=Int.mul_le_mul_of_nonneg_left hd.1 h0;rw [Int.mul_neg] at e3;omega
end Go.Azalai
namespace Go.Proofs.YtongccnhomncnaaGreatDoor
open Go Go.Sx Go.Azalai
theorem Zmi (L:List Int) (h1:1<=L.length) (hl:L.length<=1001) (c:Bool):Cp 104 [.sl c 1 (L.map Zk)] (I (Zjf L)):=by
 refine t104.1 (by simp [Za,Zk]) (by simp) ?_;dsimp only [ZEb,ZD6,go_sem];simp only [List.length_map];refine Zo (by simp;omega) ?_;dsimp only [go_sem];refine Zn 0 (by omega) rfl ?_;dsimp only [Zk,go_sem];have h0:L[0]=Zjf (L.take 1):=by
  cases L with
  | nil=>simp at h1
  | cons x r=>simp [Zjf]
 rw [h0];refine Ym (λk:Nat=>[(4,I (k+1)),(3,I (Zjf (L.take (k+1))))]) (λ_=>[]) (λk=>k+1<=L.length) (λk=>L.length - k) 0 h1 ?_ ?_
 . (refine Zj ?_ ?_ ?_ rfl rfl<;>dsimp only [Zk,id,go_sem]<;>simp [Zk,Za])
 intro k hk;dsimp only [go_sem];simp only [List.length_map];by_cases hlt:k+1 < L.length
 . refine Zs (by simp;omega) ?_;dsimp only [go_sem];refine Zn (k+1) hlt (by simp) ?_;dsimp only [Zk,go_sem];rw [Zf (n:=(k:Int)+1+1) (by omega) (by omega)];refine ⟨k+1,by omega,by omega,?_⟩;have e:min (Zjf (L.take (k+1))) L[k+1]=Zjf (L.take (k+1+1)):=by
    rw [List.take_succ_eq_append_getElem hlt,Zn8 (ZyL (by omega) h1)]
   rw [e];(refine Zj ?_ ?_ ?_ rfl rfl<;>dsimp only [Zk,id,go_sem]<;>simp [Zk,Za])
 refine Zo (by simp;omega) ?_;dsimp only [go_sem];rw [List.take_of_length_le (by omega)]
theorem Zhk {s:Season} (h:OkS s) {k:Nat} (hk:k < s.scenes.length) {m:Nat} (hm:m < s.land.wells.length):∃ hp:m < (s.scenes[k]).prices.length,0<=(s.scenes[k]).prices[m]/\(s.scenes[k]).prices[m]<=1000000:=by
 have hx:=h.scene _ (List.getElem_mem hk);simp only [YI,Bool.and_eq_true,decide_eq_true_eq,List.all_eq_true] at hx;have hp:m < (s.scenes[k]).prices.length:=by omega
 have:=hx.2 _ (List.getElem_mem hp);simp only [inR,decide_eq_true_eq] at this;exact ⟨hp,this⟩
theorem ZxA {s:Season} (h:OkS s) {p:Plan} (hp:Wi s p=true) {k:Nat} (hk:k < s.scenes.length) {m:Nat} (hm:m < s.land.wells.length) (hq:m < (s.scenes[k]).prices.length) :
 IntKind.i64.wrap (IntKind.i64.wrap (IntKind.i64.wrap (p.animals * p.slabs) * IntKind.i64.wrap ((s.scenes[k]).prices[m] - s.cost))+IntKind.i64.wrap (IntKind.i64.wrap (s.herd - p.animals) * s.sale))=ZaR s p m s.scenes[k] /\
 -1000000000<=ZaR s p m s.scenes[k]/\ZaR s p m s.scenes[k]<=1000000000:=by
 have hnum:=h.num;obtain ⟨_,hpl⟩:=Zbq hp;obtain ⟨_,hpr⟩:=Zhk h hk hm;have e1:0<=p.animals * p.slabs/\p.animals * p.slabs<=30 * 12:=⟨Int.mul_nonneg hpl.1 hpl.2.2.1,Int.mul_le_mul (by omega) hpl.2.2.2 hpl.2.2.1 (by decide)⟩
 have e2:=Zxl (A:=p.animals * p.slabs) (B:=360) (d:=(s.scenes[k]).prices[m] - s.cost) (M:=1000000) e1.1 (by omega) (by decide) (by omega);have e3:0<=(s.herd - p.animals) * s.sale/\(s.herd - p.animals) * s.sale<=30 * 1000000:=⟨Int.mul_nonneg (by omega) (by omega),Int.mul_le_mul (by omega) (by omega) (by omega) (by decide)⟩
 have e4:ZaR s p m s.scenes[k]=p.animals * p.slabs * ((s.scenes[k]).prices[m] - s.cost)+(s.herd - p.animals) * s.sale:=by
  simp only [ZaR,Int.toNat_natCast,List.getElem?_eq_getElem hq,Option.getD_some]
 rw [Zf (n:=p.animals * p.slabs) (by omega) (by omega),Zf (n:=(s.scenes[k]).prices[m] - s.cost) (by omega) (by omega),Zf (n:=s.herd - p.animals) (by omega) (by omega),
  Zf (n:=p.animals * p.slabs * ((s.scenes[k]).prices[m] - s.cost)) (by omega) (by omega),Zf (n:=(s.herd - p.animals) * s.sale) (by omega) (by omega),Zf (by omega) (by omega),e4]
 exact ⟨rfl,by omega,by omega⟩
theorem Zpk (s:Season) (h:OkS s) (p:Plan) (hp:Wi s p=true) (m:Nat) (hm:m < s.land.wells.length):Cp 49 [.agg (Zv s),.agg (ZQ p),I m] (I (ZuU s p m)):=by
 have hsc:=h.scs;have hs4:=h.scs;refine t49.1 (by simp [Zv,ZQ,Zl,Zg,Zr,Zi,Ze,Zk,Za]) (by simp) ?_;dsimp only [c49,r49,Zv,ZQ,go_sem];simp only [List.length_map];obtain ⟨W,hW⟩:∃ W,W=s.scenes.map (ZaR s p m):=⟨_,rfl⟩
 have hWl:W.length=s.scenes.length:=by rw [hW];simp
 refine ZdB (Yi (Zbl [2,3,4,6,7,11,12,13] rfl) (Yc 7 1 3 rfl rfl)) (λq:Nat × Nat=>[(13,I q.1),(7,.mr 2 q.2)])
  (λq=>[(2,.row q.2 1 ((W.take q.1).map Zk) 3)]) (λq=>q.1<=s.scenes.length) (λq=>s.scenes.length - q.1) (0,0) (Nat.zero_le _) ?_ ?_
 . (refine Zj ?_ ?_ ?_ rfl rfl<;>dsimp only [Zg,Zr,Zi,Zl,Ze,Zk,Wr,id,go_sem]<;>simp [Zg,Zr,Zi,Zl,Ze,Zk,Wr,Za])
 rintro ⟨j,v⟩ hj;simp only at hj;dsimp only [go_sem];by_cases hlt:j < s.scenes.length
 . refine Zs (by simpa using hlt) ?_;dsimp only [go_sem];refine Zn j hlt rfl ?_;dsimp only [Zl,go_sem];obtain ⟨hq,_⟩:=Zhk h hlt hm;refine Zn m hq rfl ?_;dsimp only [Zk,go_sem];obtain ⟨hww,hwb⟩:=ZxA h hp hlt hm hq;rw [hww];simp only [nbr];dsimp only [go_sem];refine ⟨(by intro c hc;simp only [List.mem_singleton] at hc;subst hc;rfl),by simp;omega,?_⟩;dsimp only [go_sem];rw [Zf (n:=(j:Int)+1) (by omega) (by omega)]
   refine ⟨(j+1,v+1),hlt,by simp only;omega,?_⟩;simp only;have hWj:ZaR s p m s.scenes[j]=W[j]'(by omega):=by simp [hW]
   rw [hWj,List.take_succ_eq_append_getElem (by omega)];simp only [List.map_append,List.map_cons,List.map_nil];(refine Zj ?_ ?_ ?_ rfl rfl<;>dsimp only [Zg,Zr,Zi,Zl,Ze,Zk,Wr,id,go_sem]<;>simp [Zg,Zr,Zi,Zl,Ze,Zk,Wr,Za])
 refine Zo (by simp;omega) ?_;dsimp only [go_sem];rw [List.take_of_length_le (by omega)];refine gh (Zav 7 2 v rfl rfl rfl rfl) ?_;dsimp only [go_sem];refine call (Zmi W (by omega) (by omega) _) ?_;dsimp only [go_sem];rw [hW];rfl
def ZdM (l:Land) (p:Span) (s to day till:Int):SV:=.tup [X3 (Zd2 l p s to day till) 1 ((Zao l p s to day till).map XM),I (Zd2 l p s to day till)]
theorem Zr6 (l:Land) (p:Span) (s to day till:Int):KF (ZdM l p s to day till):=by
 unfold ZdM X3;split<;>simp [KFL,KF,Za,XM,YL,Y4]
theorem Zoo (l:Land) (hs:Small l) (s to day till:Int) (p:Span):Cp 42 [.agg (Yo l),I s,I to,I day,I till,.agg (Ze p)] (ZdM l p s to day till):=by
 have hw:=hs.1;have hleg:=hs.2.1;refine t42.1 (by simp [Yo,Zg,Zr,Zi,Ze,Za]) (Zr6 _ _ _ _ _ _) ?_;dsimp only [c42,r42,Yo,Ze,go_sem];by_cases ha:Za0 l p=0
 case neg =>
  refine call (Za6 l hs p ha) ?_;dsimp only [go_sem];refine Zs (by simpa using ha) ?_;dsimp only [go_sem];simp [ZdM,Zd2,ha,X3]
 have hok:=Zme ha;refine call (Zdq l hs p ha) ?_;dsimp only [Yl,go_sem];refine Zo (by decide) ?_;dsimp only [go_sem];simp only [List.length_map];have h1:=Zai hok.land;rw [Zf (n:=(l.wells.length:Int) - 1) (by omega) (by omega)];refine call (Zev 0 (l.wells.length - 1) s to true) ?_;dsimp only [go_sem];repeat (first | (refine gb ?_;dsimp only [go_sem]) | (refine call (Zev 0 100000 day till true) ?_;dsimp only [go_sem]))
 by_cases hr:(inR 0 (l.wells.length - 1) s && inR 0 (l.wells.length - 1) to && inR 0 100000 day && inR 0 100000 till)=true
 case neg =>
  have hb:∀ a b c d:Bool,¬ (a && b && c && d)=true->(!(a && b) || !(c && d))=true:=by decide
  refine Zs (hb _ _ _ _ hr) ?_;dsimp only [go_sem];simp [ZdM,Zd2,ha,X3,hr]
 have hb:∀ a b c d:Bool,(a && b && c && d)=true->(!(a && b) || !(c && d))=false:=by decide
 refine Zo (hb _ _ _ _ hr) ?_;dsimp only [go_sem];have he:Zd2 l p s to day till=if (Zao l p s to day till).length > 200 then 9 else 0:=by simp only [Zd2,Zao,ha,hr];simp
 simp only [Bool.and_eq_true,inR,decide_eq_true_eq] at hr;obtain ⟨⟨⟨hr1,hr3⟩,hd⟩,hu⟩:=hr;refine Vp rfl rfl rfl ?_;dsimp only [go_sem];refine gh (XE 5 0 1 35 rfl rfl) ?_;dsimp only [go_sem];have hlk:=Zvf l p hs hok till to (l.wells.length+1) [] s day [] [] 0 0 [] (.v (.slice none 0 0)) Zoi.start (by simp) (by omega) (by omega) (by simp;omega) (by simp) MW.nil (λu=>by simp [Xk]) (.inr ⟨rfl,rfl⟩);have hW:(VG l p to till (l.wells.length+1) [] s day).map (([]:List Nat) ++ ·)=Zao l p s to day till:=by simp [Zao]
 rw [hW] at hlk;refine ZA [2,1,5,7,4,8,9,6] hlk rfl rfl ?_ ?_ ?_ ?_
 . rfl
 . dsimp only [rho,go_sem];simp [Za]
 . dsimp only [rho,Wx,Yl,go_sem];simp [Za,Zd,KFR,KFL,KF,Zc,mtO,nbr,Yq,Yl,Zg,Zr,Zi,XM,YL,Y4]
 rintro o ⟨ver',clk',hM',rfl⟩;dsimp only [Wx,Yl,go_sem];try simp only [List.nil_append]
 by_cases hl:(Zao l p s to day till).length<=200
 . refine Zo (by simp only [hl,decide_true];rfl) ?_;dsimp only [go_sem];simp only [nbr];dsimp only [go_sem];rw [ZdM,he,if_neg (by omega),Zdh (by omega)];simp [X3,vwN]
 . refine Zs (by simp only [hl,decide_false];rfl) ?_;dsimp only [go_sem];rw [ZdM,he,if_pos (by omega)];simp [X3]
end Go.Proofs.YtongccnhomncnaaGreatDoor
namespace Go.Azalai
open Go.Sx Go.Proofs.YtongccnhomncnaaGreatDoor
structure Bst where
 legs:List Nat
 an:Int
 sl:Int
 w:Int
deriving DecidableEq
def Xr (a:List Nat):List Int:=a.map λn:Nat=>(n:Int)
def Bst.plan (q:Bst):Plan:=⟨Xr q.legs,q.an,q.sl⟩
def Yy (q p:Bst):Bool :=
 if q.w≠p.w then decide (q.w > p.w) else if q.an≠p.an then decide (q.an < p.an) else if q.sl≠p.sl then decide (q.sl < p.sl)
 else if q.legs.length≠p.legs.length then decide (q.legs.length < p.legs.length) else Vm q.legs p.legs
def ZmA (p q:Bst):Bst:=if Yy q p then q else p
def XW (s:Season) (to:Int) (a:List Nat) (k n:Int):Bst:=⟨a,n,k,ZuU s ⟨Xr a,n,k⟩ to⟩
def Zjg (s:Season) (x:Scene):List Draw->Int->Int
 | [],n=>n
 | d :: r,n=>Zjg s x r (if d.water > 0 then min n ((ZdQ s x ⟨0,d.well,⟨0,0⟩,⟨d.day,0⟩⟩).tdiv d.water) else n)
def ZuI (s:Season) (a:List Int) (k:Int):List Scene->Int->Int
 | [],n=>n
 | x :: r,n=>if (WJ s ⟨a,1,k⟩ x).1≠0 then 0 else ZuI s a k r (Zjg s x (Vu s ⟨a,1,k⟩ x) n)
def Zgl (s:Season) (a:List Int) (k:Int):Int:=ZuI s a k s.scenes s.herd
def Zf2 (s:Season) (to:Int) (a:List Nat) (k:Int):Nat->Bst->Bst
 | 0,b=>b
 | n+1,b=>Zf2 s to a k n (ZmA b (XW s to a k (n+1:Nat)))
def Ztw (s:Season) (to:Int) (a:List Nat) (b:Bst) (k:Nat):Bst:=Zf2 s to a k (Zgl s (Xr a) k).toNat b
def ZD2 (s:Season) (to:Int) (b:Bst) (a:List Nat):Bst:=(List.range 13).foldl (Ztw s to a) b
def Zes (s:Season):List Nat->Bst->Option Bst
 | [],b=>some b
 | g :: r,b=>if Zd2 s.land s.pace s.start g s.day s.till≠0 then none else Zes s r ((Zao s.land s.pace s.start g s.day s.till).foldl (ZD2 s g) b)
def Zzz (s:Season):Option Bst:=Zes s (List.range s.land.wells.length) ⟨[],0,0,s.herd * s.sale⟩
def ZhK (s:Season):Plan × Int × Int :=
 if ZR s=false then (⟨[],0,0⟩,0,90) else match Zzz s with
  | none=>(⟨[],0,0⟩,0,9)
  | some b=>(b.plan,b.w,0)
theorem ZgK {s:Season} {x:Scene}:∀ {D:List Draw} {n m:Int},(m<=Zjg s x D n↔m<=n/\∀ d ∈ D,d.water > 0->m<=(ZdQ s x ⟨0,d.well,⟨0,0⟩,⟨d.day,0⟩⟩).tdiv d.water)
 | [],n,m=>by simp [Zjg]
 | d :: r,n,m=>by
  rw [Zjg,ZgK];simp only [List.mem_cons,forall_eq_or_imp];split
  . rename_i h;constructor
    . rintro ⟨h1,h2⟩;exact ⟨by omega,λ_=>by omega,h2⟩
    . rintro ⟨h1,h2,h3⟩;exact ⟨by have:=h2 h;omega,h3⟩
  . rename_i h;constructor
    . rintro ⟨h1,h2⟩;exact ⟨h1,λq=>absurd q h,h2⟩
    . rintro ⟨h1,_,h3⟩;exact ⟨h1,h3⟩
theorem Zlx {s:Season} {x:Scene} (h:∀ st:Stop,0<=ZdQ s x st):∀ {D:List Draw} {n:Int},0<=n->0<=Zjg s x D n
 | [],n,hn=>hn
 | d :: r,n,hn=>by
  rw [Zjg];refine Zlx h ?_;split
  . have:=Int.tdiv_nonneg (h ⟨0,d.well,⟨0,0⟩,⟨d.day,0⟩⟩) (show (0:Int)<=d.water by omega);omega
  . exact hn
theorem ZjB {s:Season} {a:List Int} {k:Int}:∀ {l:List Scene} {n:Int},0<=n->(∀ x ∈ l,∀ st:Stop,0<=ZdQ s x st)->0<=ZuI s a k l n/\ZuI s a k l n<=n
 | [],n,hn,_=>⟨hn,Int.le_refl _⟩
 | x :: r,n,hn,hh=>by
  rw [ZuI];split
  . omega
  . have h1:=Zlx (hh x (List.mem_cons_self ..)) (D:=Vu s ⟨a,1,k⟩ x) hn;have h2:Zjg s x (Vu s ⟨a,1,k⟩ x) n<=n:=(ZgK.1 (Int.le_refl _)).1;have:=ZjB (s:=s) (a:=a) (k:=k) h1 (λy hy=>hh y (List.mem_cons_of_mem _ hy));omega
theorem Zdd (b:Bst):Yy b b=false:=by simp [Yy,Vh]
theorem Zff {a b c:Bst} (h:Yy a b=true) (h':Yy b c=true):Yy a c=true:=by
 obtain ⟨al,aa,ak,aw⟩:=a;obtain ⟨bl,ba,bk,bw⟩:=b;obtain ⟨cl,ca,ck,cw⟩:=c;simp only [Yy] at h h' ⊢;by_cases e1:aw=bw
 . subst e1;rw [if_neg (by simp)] at h;by_cases e2:aw=cw
   . subst e2;rw [if_neg (by simp)] at h' ⊢;by_cases e3:aa=ba
     . subst e3;rw [if_neg (by simp)] at h;by_cases e4:aa=ca
       . subst e4;rw [if_neg (by simp)] at h' ⊢;by_cases e5:ak=bk
         . subst e5;rw [if_neg (by simp)] at h;by_cases e6:ak=ck
           . subst e6;rw [if_neg (by simp)] at h' ⊢;by_cases e7:al.length=bl.length
             . rw [if_neg (by simp [e7])] at h;by_cases e8:al.length=cl.length
               . rw [if_neg (by omega)] at h' ⊢;exact WW h h'
               . rw [if_pos (by omega)] at h' ⊢;rw [decide_eq_true_eq] at h' ⊢;omega
             . rw [if_pos (by omega),decide_eq_true_eq] at h;by_cases e8:bl.length=cl.length
               . rw [if_pos (by omega),decide_eq_true_eq];omega
               . rw [if_pos (by omega),decide_eq_true_eq] at h';rw [if_pos (by omega),decide_eq_true_eq];omega
           . rw [if_pos e6] at h' ⊢;exact h'
         . rw [if_pos e5,decide_eq_true_eq] at h;by_cases e6:bk=ck
           . subst e6;rw [if_pos e5,decide_eq_true_eq];exact h
           . rw [if_pos e6,decide_eq_true_eq] at h';rw [if_pos (by omega),decide_eq_true_eq];omega
       . rw [if_pos e4] at h' ⊢;exact h'
     . rw [if_pos e3,decide_eq_true_eq] at h;by_cases e4:ba=ca
       . subst e4;rw [if_pos e3,decide_eq_true_eq];exact h
       . rw [if_pos e4,decide_eq_true_eq] at h';rw [if_pos (by omega),decide_eq_true_eq];omega
   . rw [if_pos e2] at h' ⊢;exact h'
 . rw [if_pos e1,decide_eq_true_eq] at h;by_cases e2:bw=cw
   . subst e2;rw [if_pos e1,decide_eq_true_eq];exact h
   . rw [if_pos e2,decide_eq_true_eq] at h';rw [if_pos (by omega),decide_eq_true_eq];omega
structure Top (b0:Bst) (C:Bst->Prop) (b:Bst):Prop where
 is:b=b0\/C b
 init:Yy b0 b=false
 all:∀ q,C q->Yy q b=false
theorem Top.zero {b0:Bst}:Top b0 (λ_=>False) b0:=⟨.inl rfl,Zdd _,λ_ h=>h.elim⟩
theorem Top.congr {b0:Bst} {C C':Bst->Prop} {b:Bst} (h:Top b0 C b) (hc:∀ q,C' q↔C q):Top b0 C' b:=⟨h.is.imp id (hc b).2,h.init,λq hq=>h.all q ((hc q).1 hq)⟩
theorem Top.take {b0:Bst} {C:Bst->Prop} {b:Bst} (h:Top b0 C b) (q:Bst):Top b0 (λr=>C r\/r=q) (ZmA b q):=by
 unfold ZmA;have up:∀ r,Yy r b=false->Yy q b=true->Yy r q=false:=λr h1 h2=>by
  cases h3:Yy r q with
  | false=>rfl
  | true=>have:=Zff h3 h2;rw [h1] at this;cases this
 cases hq:Yy q b with
 | false =>
  simp only [Bool.false_eq_true,if_false];exact ⟨h.is.imp id .inl,h.init,λr hr=>hr.elim (h.all r) (λe=>e ▸ hq)⟩
 | true =>
  simp only [if_true];exact ⟨.inr (.inr rfl),up _ h.init hq,λr hr=>hr.elim (λq=>up r (h.all r q) hq) (λe=>e ▸ Zdd _)⟩
theorem Top.fold {α : Type} {b0:Bst} {f:Bst->α->Bst} {P:α->Bst->Prop} (hf:∀ {C:Bst->Prop} {b:Bst} (x:α),Top b0 C b->Top b0 (λr=>C r\/P x r) (f b x)) :
 ∀ {l:List α} {C:Bst->Prop} {b:Bst},Top b0 C b->Top b0 (λr=>C r\/∃ x ∈ l,P x r) (l.foldl f b)
 | [],C,b,h=>h.congr λq=>by simp
 | x :: r,C,b,h=>(Top.fold hf (l:=r) (hf x h)).congr λq=>by
  simp only [List.mem_cons,exists_eq_or_imp,or_assoc]
structure Ready (l:Land) (p:Span):Prop where
 small:Small l
 ok:OkLP l p
theorem ZuJ {n day:Int} {o s:Gate->Int} {t:Int} (ht:t<=100000):∀ {l:List Gate} {a:Int},Zec n day o s a l<=t↔a<=t\/∃ g ∈ l,max day (o g)+n - 1<=s g/\max day (o g)<=t
 | [],a=>by simp [Zec]
 | g :: l,a=>by
  simp only [Zec];rw [ZuJ ht (l:=l)];simp only [List.mem_cons,exists_eq_or_imp];by_cases h:max day (o g)+n - 1<=s g
  . rw [if_pos h];constructor
    . rintro (q | q)
      . by_cases ha:a<=t
        . exact .inl ha
        . exact .inr (.inl ⟨h,by omega⟩)
      . exact .inr (.inr q)
    . rintro (q | q | q)
      . exact .inl (by omega)
      . exact .inl (by have:=q.2;omega)
      . exact .inr q
  . rw [if_neg h];constructor
    . rintro (q | q)
      . exact .inl q
      . exact .inr (.inr q)
    . rintro (q | q | q)
      . exact .inl q
      . exact absurd q.1 h
      . exact .inr q
def oK (k:Bool) (g:Gate):Int:=bif k then g.opens.hi else g.opens.lo
def sK (k:Bool) (g:Gate):Int:=bif k then g.shuts.lo else g.shuts.hi
theorem Znu {k:Bool} {x:Leg} {p:Span} {t u:Int} (h:GoodLeg x) (hp:Yf p=true) (hu:u<=100000) :
 leK k x p t<=u↔∃ g ∈ x.gates,max t (oK k g)+nK k x p - 1<=sK k g/\max t (oK k g)<=u:=by
 rw [(Zb5 (k:=k) (t:=t) h hp).1,ZuJ hu];constructor
 . rintro (q | q)
   . omega
   . exact q
 . exact λq=>.inr q
theorem Zmz {k:Bool} {x:Leg} {p:Span} {t:Int} (h:GoodLeg x) (hp:Yf p=true) (ht:t<=100001):t<=leK k x p t/\leK k x p t<=100001:=by
 have hn:=ZmG (k:=k) h hp;obtain ⟨_,a2,a3⟩:=Zb5 (k:=k) (t:=t) h hp;have:=Zfv (day:=t) (o:=λg=>bif k then g.opens.hi else g.opens.lo) hn.1 a3;refine ⟨?_,by omega⟩;apply Classical.byContradiction;intro q;obtain ⟨g,hg,h1,h2⟩:=(Znu (k:=k) (t:=t) (u:=leK k x p t) h hp (by omega)).1 (Int.le_refl _);omega
theorem Zfg {a b:Int} (ha:1<=a) (hb:1<=b):a<=(a+b - 1).tdiv b * b/\((a+b - 1).tdiv b - 1) * b < a:=by
 rw [Int.tdiv_eq_ediv_of_nonneg (by omega)];have h1:=Int.emod_add_mul_ediv (a+b - 1) b;have h2:=Int.emod_nonneg (a+b - 1) (show b≠0 by omega);have h3:=Int.emod_lt_of_pos (a+b - 1) (show 0 < b by omega);rw [Int.sub_mul,Int.mul_comm ((a+b - 1) / b) b];omega
theorem ZfO {x:Leg} {p:Span} (h:GoodLeg x) (hp:Yf p=true):nK false x p<=nK true x p:=by
 simp only [Yf,ZW,decide_eq_true_eq] at hp;obtain ⟨h1,h2,h3,_,_⟩:=h;simp only [nK,cond_true,cond_false,ZbG];have u:=Zfg (a:=x.long.lo) (b:=p.hi) h1 (by omega);have v:=Zfg (a:=x.long.hi) (b:=p.lo) (by omega) (by omega);have w:0<=(x.long.hi+p.lo - 1).tdiv p.lo:=Int.tdiv_nonneg (by omega) (by omega);generalize (x.long.lo+p.hi - 1).tdiv p.hi=A at *;generalize (x.long.hi+p.lo - 1).tdiv p.lo=B at *;have q:=Int.mul_le_mul_of_nonneg_left hp.2.1 w
 apply Classical.byContradiction;intro hc;have q2:B * p.hi<=(A - 1) * p.hi:=Int.mul_le_mul_of_nonneg_right (by omega) (by omega);omega
theorem ZsX {x:Leg} {p:Span} {t:Int} (h:GoodLeg x) (hp:Yf p=true) (ht:t<=100001):leK false x p t<=leK true x p t:=by
 have b0:=Zmz (k:=false) h hp ht;have b1:=Zmz (k:=true) h hp ht;have hn:=ZfO h hp;apply Classical.byContradiction;intro q;obtain ⟨g,hg,h1,h2⟩:=(Znu (k:=true) (t:=t) (u:=leK true x p t) h hp (by omega)).1 (Int.le_refl _);have hm:=XC h.g2 (Int.le_refl _) g hg;simp only [oK,sK,cond_true] at h1 h2;exact q ((Znu (k:=false) h hp (by omega)).2 ⟨g,hg,by simp only [oK,sK,cond_false];omega,by simp only [oK,cond_false];omega⟩)
end Go.Azalai
namespace Go.Proofs.YtongccnhomncnaaGreatDoor
open Go Go.Sx Go.Azalai
end Go.Proofs.YtongccnhomncnaaGreatDoor
namespace Go.Azalai
theorem ZnA {x:Leg} {p:Span} {t t':Int} (h:GoodLeg x) (hp:Yf p=true) (ht:t<=t') (ht':t'<=100001):Z6 false x p t<=Z6 true x p t':=by
 have h1:=Zbr (k:=false) h hp ht;have h2:=ZsX (t:=t') h hp ht';have h3:=ZfO h hp;simp only [Z6] at *;omega
def Trk (l:Land) (p:Span):Int->Int->Int->List Int->List Stop->Prop
 | _,_,_,[],[]=>True
 | v,a,b,i :: r,s :: ss=>∃ (k:Nat) (x:Leg),i=k/\l.legs[k]? = some x/\0<=Zm x v/\Z6 true x p b<=100000 /\
  s=⟨k,Zm x v,⟨leK false x p a,leK true x p b⟩,⟨Z6 false x p a,Z6 true x p b⟩⟩/\Trk l p (Zm x v) (Z6 false x p a) (Z6 true x p b) r ss
 | _,_,_,_,_=>False
theorem Trk.len {l:Land} {p:Span}:∀ {legs:List Int} {ss:List Stop} {v a b:Int},Trk l p v a b legs ss->ss.length=legs.length
 | [],[],_,_,_,_=>rfl
 | i :: r,s :: ss,_,_,_,h=>by obtain ⟨_,_,_,_,_,_,_,h⟩:=h;simp [h.len]
 | [],_ :: _,_,_,_,h=>h.elim
 | _ :: _,[],_,_,_,h=>h.elim
theorem Trk.at {l:Land} {p:Span} (h:OkLP l p):∀ {legs:List Int} {ss:List Stop} {v a b:Int},Trk l p v a b legs ss->a<=b->b<=100000->∀ (i:Nat) (s:Stop),ss[i]? = some s ->
 ∃ c:List Nat,c.length=i+1/\legs.take (i+1)=c.map (λn:Nat=>(n:Int))/\goW true l p v b c=some (s.well,s.arrives.hi)/\goW false l p v a c=some (s.well,s.arrives.lo)
 | [],[],_,_,_,_,_,_,i,s,hs=>by simp at hs
 | j :: r,s0 :: ss,v,a,b,q,hab,hb,i,s,hs=>by
  obtain ⟨k,x,rfl,hx,ho,hr,rfl,q⟩:=q;have hm:=ZnA (h.leg hx) h.pace hab (by omega);cases i with
  | zero =>
   simp only [List.getElem?_cons_zero,Option.some.injEq] at hs;subst hs;refine ⟨[k],rfl,by simp,?_,?_⟩
   . simp only [goW,hx];rw [if_neg (by omega),if_neg (by omega)]
   . simp only [goW,hx];rw [if_neg (by omega),if_neg (by omega)]
  | succ i =>
   simp only [List.getElem?_cons_succ] at hs;obtain ⟨c,h1,h2,h3,h4⟩:=Trk.at h q hm hr i s hs;refine ⟨k :: c,by simp [h1],by simp [h2],?_,?_⟩
   . simp only [goW,hx];rw [if_neg (by omega),if_neg (by omega)];exact h3
   . simp only [goW,hx];rw [if_neg (by omega),if_neg (by omega)];exact h4
 | [],_ :: _,_,_,_,q,_,_,_,_,_=>q.elim
 | _ :: _,[],_,_,_,q,_,_,_,_,_=>q.elim
theorem ZmT {l:Land} {p:Span}:∀ {legs:List Int} {v a b:Int} {k:Nat} {acc ss:List Stop} {at':Int},WL l v legs k=none->goS l p v a b legs k acc=(ss,at',0)->∃ tt,ss=acc ++ tt/\at'=0/\Trk l p v a b legs tt
 | [],v,a,b,k,acc,ss,at',_,h=>by
  simp only [goS,Prod.mk.injEq] at h;exact ⟨[],by simp [h.1],h.2.1.symm,trivial⟩
 | i :: r,v,a,b,k,acc,ss,at',hb,h=>by
  simp only [WL] at hb;by_cases he:Vl l i v < 0
  . rw [if_pos he] at hb;cases hb
  rw [if_neg he] at hb;obtain ⟨n,x,rfl,hn,hx,_,e⟩:=Zco he;simp only [goS,Int.toNat_natCast,hx] at h;by_cases hr:Z6 true x p b > 100000
  . rw [if_pos hr] at h;simp at h
  rw [if_neg hr] at h;rw [e] at hb he;obtain ⟨tt,e1,e2,e3⟩:=ZmT hb h;exact ⟨_ :: tt,by rw [e1,List.append_assoc];rfl,e2,n,x,rfl,hx,by omega,by omega,rfl,e3⟩
theorem Zhh {l:Land} {p:Span} {s day:Int} {legs:List Int} {ss:List Stop} {at':Int} (h:Xt l p s day legs=(ss,at',0)):at'=0/\Trk l p s day day legs ss:=by
 unfold Xt at h;split at h
 . rename_i q;simp at h;exact absurd h.2.2 q
 split at h
 . simp at h
 split at h
 . simp at h
 split at h
 . simp at h
 . rename_i q;obtain ⟨tt,rfl,e2,e3⟩:=ZmT q h;exact ⟨e2,by simpa using e3⟩
theorem ZjS {l:Land} {p:Span}:∀ {c:List Nat} {v a b w u:Int} {k:Nat} {acc:List Stop},goW true l p v b c=some (w,u) ->
 WL l v (c.map λn:Nat=>(n:Int)) k=none/\∃ ss,goS l p v a b (c.map λn:Nat=>(n:Int)) k acc=(ss,0,0)
 | [],v,a,b,w,u,k,acc,_=>⟨rfl,acc,rfl⟩
 | i :: c,v,a,b,w,u,k,acc,h=>by
  simp only [goW] at h;cases hx:l.legs[i]? with
  | none=>rw [hx] at h;cases h
  | some x =>
   rw [hx] at h;simp only at h;by_cases ho:Zm x v < 0
   . rw [if_pos ho] at h;cases h
   rw [if_neg ho] at h;by_cases hr:Z6 true x p b > 100000
   . rw [if_pos hr] at h;cases h
   rw [if_neg hr] at h;have hi:i < l.legs.length:=(List.getElem?_eq_some_iff.1 hx).1;have he:Vl l (i:Int) v=Zm x v:=by rw [Zcm hi,(List.getElem?_eq_some_iff.1 hx).2]
   obtain ⟨h1,_⟩:=ZjS (a:=Z6 false x p a) (k:=k+1) (acc:=[]) h;refine ⟨?_,?_⟩
   . simp only [List.map_cons,WL,he];rw [if_neg ho];exact h1
   . obtain ⟨_,ss,h2⟩:=ZjS (a:=Z6 false x p a) (k:=k+1) (acc:=acc ++ [⟨i,Zm x v,⟨leK false x p a,leK true x p b⟩,⟨Z6 false x p a,Z6 true x p b⟩⟩]) h;refine ⟨ss,?_⟩;simp only [List.map_cons,goS,Int.toNat_natCast,hx];rw [if_neg hr];exact h2
theorem ZAk {l:Land} {p:Span} (h:OkLP l p) {s day:Int} (hd:0<=day) (hd':day<=100000) (h0:0<=s) (h1:s < l.wells.length) {c:List Nat} {w u:Int} (hc:c.length<=24) (hw:goW true l p s day c=some (w,u)) :
 ∃ ss,Xt l p s day (c.map λn:Nat=>(n:Int))=(ss,0,0):=by
 obtain ⟨e1,ss,e2⟩:=ZjS (a:=day) (k:=0) (acc:=[]) hw;refine ⟨ss,?_⟩;unfold Xt;rw [if_neg (by simp [Za0,h.land,h.pace]),if_neg (by simp [inR];omega),if_neg (by simp;omega),e1];exact e2
theorem Gr.ends {l:Land} {p:Span} {s day to best:Int} {n0:Nat} (hg:OkLP l p) (hd:0<=day) (hd':day<=100000) (h0:0<=s) (h1:s < l.wells.length) (hb:best=Xf true l p s day to) (hb':best<=100000) :
 ∀ {n:Nat} {v t:Int} {out:List Nat},Gr l p s day to best n0 n v t out->∃ v' t' out',Gr l p s day to best n0 0 v' t' out'
 | 0,v,t,out,h=>⟨v,t,out,h⟩
 | n+1,v,t,out,h=>by
  obtain ⟨i,_,hf⟩:=h.ex hg hd hd' h0 h1 hb hb';obtain ⟨m,⟨x,g1,g2,g3,g4⟩,hm⟩:=Go.Sx.least_ex (λi=>Fit l p to best n v t i) ⟨i,hf⟩;exact Gr.ends hg hd hd' h0 h1 hb hb' (h.step hg hd hd' h0 h1 hb g1 g2 g3 g4 λj hj hq=>by have:=hm j hq;omega)
open Go.Sx
def UX (l:Land) (p:Span) (to till:Int):List Int->Int->Int->List Nat->Prop
 | _,v,t,[]=>v=to/\t<=till
 | been,v,t,i :: r=>∃ x,l.legs[i]? = some x/\0<=Zm x v/\Z6 true x p t<=100000/\Zm x v ∉ v :: been/\UX l p to till (v :: been) (Zm x v) (Z6 true x p t) r
theorem UX.le {l:Land} {p:Span} (h:OkLP l p) {to till:Int}:∀ {a:List Nat} {been:List Int} {v t:Int},UX l p to till been v t a->t<=100001->t<=till
 | [],_,_,_,q,_=>q.2
 | i :: r,been,v,t,q,ht=>by
  obtain ⟨x,hx,ho,hr,hn,q⟩:=q;have:=Zaf (k:=true) (h.leg hx) h.pace ht;have:=UX.le h q (by omega);omega
theorem UX.nin {l:Land} {p:Span} {to till:Int}:∀ {a:List Nat} {been:List Int} {v t:Int},UX l p to till been v t a->v ∉ been->to ∉ been
 | [],_,_,_,q,hv=>by rw [<- q.1];exact hv
 | i :: r,been,v,t,q,hv=>by
  obtain ⟨x,hx,ho,hr,hn,q⟩:=q;have:=UX.nin q hn;exact λh=>this (List.mem_cons_of_mem _ h)
theorem Zl8 {l:Land} {p:Span} (h:OkLP l p) {to till:Int} (htill:till<=100000):∀ {f:Nat} {been:List Int} {v t:Int} {a:List Nat},Zoi l f been->v ∉ been->(0<=v/\v < l.wells.length)->t<=100001 ->
 (a ∈ VG l p to till f been v t↔UX l p to till been v t a):=by
 intro f
 induction f with
 | zero =>
  intro been v t a hR hv hvi;obtain ⟨g,q,_⟩:=hR.pos hv hvi;omega
 | succ f ih =>
  intro been v t a hR hv hvi ht;obtain ⟨g,hg,hR'⟩:=hR.pos hv hvi;have hgf:g=f:=by omega
  subst hgf;rw [X1];by_cases h1:t > till
  . rw [if_pos h1];constructor
    . intro q;cases q
    . intro q;have:=q.le h ht;omega
  rw [if_neg h1];by_cases h2:v=to
  . rw [if_pos h2,List.mem_singleton];constructor
    . rintro rfl;exact ⟨h2,by omega⟩
    . intro q;cases a with
      | nil=>rfl
      | cons i r =>
       obtain ⟨x,hx,ho,hr,hn,q⟩:=q;have:=q.nin hn;exact absurd (by simp [h2]) this
  rw [if_neg h2];simp only [Y1,List.mem_flatMap,List.mem_range];constructor
  . rintro ⟨i,hi,q⟩;simp only [Wt] at q;cases hx:l.legs[i]? with
    | none=>rw [hx] at q;cases q
    | some x =>
     rw [hx] at q;simp only at q;by_cases hc:Zm x v < 0\/Zm x v ∈ v :: been
     . rw [if_pos hc] at q;cases q
     rw [if_neg hc] at q;obtain ⟨r,hr,rfl⟩:=List.mem_map.1 q;have ho:¬ Zm x v < 0:=λz=>hc (.inl z);have hn:Zm x v ∉ v :: been:=λz=>hc (.inr z);have ha:=XO (k:=true) (h.leg hx) h.pace ht;have hr':=(ih hR' hn (Yk h hx ho).1 (by omega)).1 hr;refine ⟨x,hx,by omega,?_,hn,hr'⟩;have:=hr'.le h (by omega);omega
  . intro q;cases a with
    | nil=>exact absurd q.1 h2
    | cons i r =>
     obtain ⟨x,hx,ho,hr,hn,q⟩:=q;refine ⟨i,(List.getElem?_eq_some_iff.1 hx).1,?_⟩;rw [Zak hx (by omega) hn];exact List.mem_map.2 ⟨r,(ih hR' hn (Yk h hx (by omega)).1 (by omega)).2 q,rfl⟩
theorem UX.len {l:Land} {p:Span} (h:OkLP l p) {to till:Int}:∀ {a:List Nat} {f:Nat} {been:List Int} {v t:Int},UX l p to till been v t a->Zoi l f been->v ∉ been->(0<=v/\v < l.wells.length)->a.length+1<=f
 | [],f,been,v,t,q,hR,hv,hi=>by obtain ⟨g,hg,_⟩:=hR.pos hv hi;simp;omega
 | i :: r,f,been,v,t,q,hR,hv,hi=>by
  obtain ⟨g,hg,hR'⟩:=hR.pos hv hi;obtain ⟨x,hx,ho,hr,hn,q⟩:=q;have:=UX.len h q hR' hn (Yk h hx (by omega)).1;simp;omega
theorem ZgH {l:Land} {i:Nat} {v:Int}:Vl l i v=match l.legs[i]? with | some x=>Zm x v | none=>-1:=by
 cases h:l.legs[i]? with
 | none=>rw [List.getElem?_eq_none_iff] at h;exact ZfH (.inr (by omega))
 | some x =>
  obtain ⟨hi,hx⟩:=List.getElem?_eq_some_iff.1 h;rw [Zcm hi,hx]
theorem Zaq {l:Land} {p:Span} {to till:Int}:∀ {c:List Nat} {been:List Int} {v t:Int},
 UX l p to till been v t c↔Y8 l v (v :: been) (Xr c)=some to/\∃ u,goW true l p v t c=some (to,u)/\u<=till
 | [],been,v,t=>by
  simp only [UX,Xr,List.map_nil,Y8,Option.some.injEq,goW,Prod.mk.injEq];constructor
  . rintro ⟨h1,h2⟩;exact ⟨h1,t,⟨h1,rfl⟩,h2⟩
  . rintro ⟨h1,u,⟨_,rfl⟩,h2⟩;exact ⟨h1,h2⟩
 | i :: c,been,v,t=>by
  simp only [UX,Xr,List.map_cons,Y8,goW];rw [ZgH];cases hx:l.legs[i]? with
  | none =>
   constructor
   . rintro ⟨x,hx',_⟩;cases hx'
   . rintro ⟨h1,_⟩;simp at h1
  | some x =>
   simp only;constructor
   . rintro ⟨y,hy,ho,hr,hn,q⟩;cases hy
     obtain ⟨q1,q2⟩:=(Zaq (c:=c)).1 q;rw [if_neg (by omega),if_neg hn,if_neg (by omega),if_neg (by omega)];exact ⟨q1,q2⟩
   . rintro ⟨h1,h2⟩;split at h1
     . cases h1
     rename_i h3;split at h1
     . cases h1
     rename_i h4;rw [if_neg h3] at h2;split at h2
     . obtain ⟨u,hu,_⟩:=h2;cases hu
     rename_i h5;exact ⟨x,rfl,by omega,by omega,h4,(Zaq (c:=c)).2 ⟨h1,h2⟩⟩
theorem ZeY {l:Land} {p:Span} (hg:OkLP l p):∀ {legs:List Int} {v u:Int} {been:List Int},been.Nodup->(∀ b ∈ been,0<=b/\b < l.wells.length)->Y8 l v been legs=some u->legs.length+been.length<=l.wells.length
 | [],v,u,been,h1,h2,_=>by have:=Zfh h1 h2;simpa using this
 | i :: r,v,u,been,h1,h2,h=>by
  simp only [Y8] at h;split at h
  . cases h
  rename_i he;split at h
  . cases h
  rename_i hn;obtain ⟨k,x,_,_,hx,_,e⟩:=Zco he;have hin:=(Yk hg hx (by rw [<- e];exact he)).1;have:=ZeY hg (List.nodup_cons.2 ⟨hn,h1⟩) (λb hb=>(List.mem_cons.1 hb).elim (λq=>by rw [q,e];exact hin) (h2 b)) h;simp only [List.length_cons] at this ⊢;omega
open Go.Proofs.YtongccnhomncnaaGreatDoor
theorem Zgs:∀ {a b:List Nat},Xr a=Xr b->a=b
 | [],[],_=>rfl
 | x :: a,y :: b,h=>by
  simp only [Xr,List.map_cons,List.cons.injEq] at h;rw [Zgs (a:=a) (b:=b) h.2,show x=y by omega]
 | [],_ :: _,h=>by simp [Xr] at h
 | _ :: _,[],h=>by simp [Xr] at h
theorem lenS {s:Season} (h:OkS s) {legs:List Int} {u:Int} (hg:Y8 s.land s.start [s.start] legs=some u):legs.length < s.land.wells.length/\legs.length<=24:=by
 have:=ZeY h.lp (legs:=legs) (v:=s.start) (u:=u) (been:=[s.start]) (by simp) (λb hb=>by simp only [List.mem_singleton] at hb;subst hb;exact h.start) hg;have hw:=h.land;simp only [Z7,inR,Bool.and_eq_true,decide_eq_true_eq] at hw;simp only [List.length_cons,List.length_nil] at this;omega
theorem ZgC {s:Season} (h:OkS s) {c:List Nat} (hc:c.length<=24):Uh s (Xr c)=true↔∃ v u,goW true s.land s.pace s.start s.day c=some (v,u)/\u<=s.till:=by
 have hn:=h.num;have hst:=h.start;have key:∀ {ss:List Stop} {at':Int},Xt s.land s.pace s.start s.day (Xr c)=(ss,at',0)->(Uh s (Xr c)=true↔∃ v u,goW true s.land s.pace s.start s.day c=some (v,u)/\u<=s.till):=λ{ss at'} hw=>by
  obtain ⟨_,ht⟩:=Zhh hw;have hss:Ye s (Xr c)=ss:=by unfold Ye;rw [hw]
  have hlen:=ht.len;simp only [Xr,List.length_map] at hlen;unfold Uh;rw [hss,hw];simp only [decide_true,Bool.true_and,Bool.or_eq_true,decide_eq_true_eq];by_cases h0:ss.length=0
  . have:c=[]:=List.eq_nil_of_length_eq_zero (by omega);subst this;exact ⟨λ_=>⟨s.start,s.day,rfl,by omega⟩,λ_=>.inl h0⟩
  . obtain ⟨c',h1,h2,h3,_⟩:=ht.at h.lp (Int.le_refl _) (by omega) (ss.length - 1) (Zip ss) (ZeE h0);have hcc:c'=c:=by
     have e:(Xr c).take (ss.length - 1+1)=Xr c:=List.take_of_length_le (by simp [Xr];omega);rw [e] at h2;exact Zgs h2.symm
    subst hcc;constructor
    . rintro (q | q)
      . exact absurd q h0
      . exact ⟨_,_,h3,q⟩
    . rintro ⟨v,u,e,q⟩;rw [h3] at e;simp only [Option.some.injEq,Prod.mk.injEq] at e;exact .inr (by omega)
 constructor
 . intro q;have q':=q;simp only [Uh,Bool.and_eq_true,decide_eq_true_eq] at q';have:Xt s.land s.pace s.start s.day (Xr c)=((Xt s.land s.pace s.start s.day (Xr c)).1,(Xt s.land s.pace s.start s.day (Xr c)).2.1,0):=by
    rw [<- q'.1]
   exact (key this).1 q
 . rintro ⟨v,u,e,q⟩;obtain ⟨ss,hw⟩:=ZAk h.lp (by omega) (by omega) hst.1 hst.2 hc e;exact (key hw).2 ⟨v,u,e,q⟩
theorem Zhe {k:Bool} {l:Land} {p:Span} {w u to:Int}:∀ {c:List Nat} {v t:Int} {been:List Int},goW k l p v t c=some (w,u)->Y8 l v been (Xr c)=some to->w=to
 | [],v,t,been,h,h'=>by
  simp only [goW,Option.some.injEq,Prod.mk.injEq,Xr,List.map_nil,Y8] at h h';omega
 | i :: c,v,t,been,h,h'=>by
  simp only [goW,Xr,List.map_cons,Y8] at h h';rw [ZgH] at h';cases hx:l.legs[i]? with
  | none=>rw [hx] at h;cases h
  | some x =>
   rw [hx] at h h';simp only at h h';split at h
   . cases h
   rename_i h1;split at h
   . cases h
   rw [if_neg h1] at h';split at h'
   . cases h'
   exact Zhe h h'
theorem Zqs {s:Season} (h:OkS s) {to:Int} {c:List Nat}:c ∈ Zao s.land s.pace s.start to s.day s.till↔Y8 s.land s.start [s.start] (Xr c)=some to/\Uh s (Xr c)=true:=by
 have hn:=h.num;unfold Zao;rw [Zl8 h.lp (by omega) Zoi.start (by simp) h.start (by omega),Zaq];constructor
 . rintro ⟨h1,u,h2,h3⟩;have hl:=(lenS h h1).2;exact ⟨h1,(ZgC h (by simpa [Xr] using hl)).2 ⟨_,_,h2,h3⟩⟩
 . rintro ⟨h1,h2⟩;have hl:=(lenS h h1).2;obtain ⟨v,u,h3,h4⟩:=(ZgC h (by simpa [Xr] using hl)).1 h2;refine ⟨h1,u,?_,h4⟩;rw [Zhe h3 h1] at h3;exact h3
theorem Zok {l:Land} {well day:Int}:0<=(WY l well [] day).1.lo:=by
 unfold WY;split
 . exact Int.le_refl _
 rename_i h1;split
 . exact Int.le_refl _
 rename_i h2;split
 . exact Int.le_refl _
 split
 . exact Int.le_refl _
 split
 . rename_i w hw;simp only [Bool.not_eq_false,Z7,Bool.and_eq_true,List.all_eq_true,inR,decide_eq_true_eq] at h1 h2;have hwell:=h1.1.2 w (List.mem_of_getElem? hw);simp only [YY,ZW,inR,Bool.and_eq_true,decide_eq_true_eq] at hwell;have:0<=(day - 1 - -1) * w.yld.lo:=Int.mul_nonneg (by omega) (by omega);simp only [Ue,Wo];omega
 . exact Int.le_refl _
theorem ZuE {s:Season} {x:Scene} (st:Stop):0<=ZdQ s x st:=Zok
theorem Zqk {s:Season} {p:Plan} {to:Int} (hto:Y8 s.land s.start [s.start] p.legs=some to) (ha:0<=p.animals/\p.animals<=s.herd) (hs:0<=p.slabs/\p.slabs<=12):Wi s p=true:=by
 simp only [Wi,hto,Option.isSome_some,inR,Bool.true_and,Bool.and_eq_true,decide_eq_true_eq];omega
theorem ZyF {s:Season} (h:OkS s) {a:List Int} {k:Int}:0<=Zgl s a k/\Zgl s a k<=s.herd:=ZjB (by have:=h.num;omega) (λ_ _=>ZuE)
end Go.Azalai
namespace Go.Proofs.YtongccnhomncnaaGreatDoor
open Go Go.Sx
def c47:SC:=(sr1 [o1 2 (Jz 0 0 37),o1 4 (.alloc zv8 120)] (sr1 [m1 5 1,o1 6 (ao 2 1),o1 7 (lf 6 1),o1 8 (.un .neg (.t 7)),o1 9 (ao 2 2),o1 10 (lf 9 1),o1 11 (.un .neg (.t 10)),o1 12 (ao 2 0),o1 13 (lf 12 1),o1 14 (Jl 13),o1 15 (.un .neg (.t 14)),o1 16
 (.build zv8 [(0,1,.t 5),(1,1,.t 8),(2,1,.t 11),(3,1,.t 15)]),Js 4 16 4] .ret))
def r47:List RV:=[.cell 4 4 true]
theorem t47:Qt1 Tryz.prog 47 c47 r47 17:=ZF Tryz.func47
def c50:SC:=(sr1 [o1 4 (Jz 0 0 37),o1 5 (Jz 1 0 120),o1 6 (Jz 2 0 37),o1 7 (Jz 3 0 120),Jw 8 Jf] (.seq (sr1 [o1 10 (lt 5 4),o1 11 (lt 7 4),o1 12 (.eqs false true [1,1,1,1] (.t 10) (.t 11))] (Ji 12 (sr1 [o1 13 (ao 4 0),o1 14 (lf 13 1),o1 15 (ao 6 0),o1
 16 (lf 15 1),o1 17 (J2 87 14 16),o1 18 (Jc .lss 17 0),m1 8 18] .ret) .skip)) (.seq (sr1 [Jk 19 0] (.block 0 (.loop (sr1 [o1 20 (Jc .lss 19 4)] (.seq (Ji 20 .skip (.exit 0)) (.seq (.block 1 (sr1 [m1 21 19,m1 9 21] (.seq (.regd (Jr 7) [Jm 22 9,Jp 23
 (.ixa (.t 5) (.t 22) 4 1) [0],Jp 24 (lf 23 1) [1],Jm 25 9,Jp 26 (.ixa (.t 7) (.t 25) 4 1) [3],Jp 27 (lf 26 1) [4],Jp 28 (Jb .neq 24 27) [2,5]] 0 0 []) (Ji 28 (.seq (.regd (Jr 8) [Jm 29 9,Jp 30 (.ixa (.t 5) (.t 29) 4 1) [0],Jp 31 (lf 30 1) [1],Jm 32
 9,Jp 33 (.ixa (.t 7) (.t 32) 4 1) [3],Jp 34 (lf 33 1) [4],Jp 35 (Jb .gtr 31 34) [2,5],Jp 8 (.mv (.t 35)) (Jr 7)] 0 0 []) .ret) .skip)))) (.reg [o1 36 (Jc .add 19 1),m1 19 36]))))))) (sr1 [Jw 8 Jf] .ret))))
def r50:List RV:=[.tmp 8]
theorem t50:Qt1 Tryz.prog 50 c50 r50 37:=ZF Tryz.func50
def c14:SC:=(sr1 [o1 1 (Jz 0 0 34),o1 2 (.alloc ZrV 37),Jk 3 0,Jk 4 0] (.seq (sr1 [o1 17 (lt 1 37),o1 18 (J1 46 17),m1 5 18] (sr1 [m1 19 5,o1 20 (Jc .neq 19 0)] (Ji 20 (sr1 [o1 21 (.build ZrV []),m1 22 5,Js 2 21 3,Jk 3 0,m1 4 22] .ret) .skip))) (sr1
 [o1 23 (ao 1 28),o1 24 (lf 23 1),o1 25 (ao 1 32),o1 26 (lf 25 1),o1 27 (Jb .mul 24 26),m1 3 27] (sr1 [o1 28 (lt 2 3),m1 29 3,o1 30 (J2 47 28 29),o1 6 (.alloc zv8 120),Js 6 30 4] (.seq (sr1 [o1 31 (ao 1 0),o1 32 (ao 31 0),o1 33 (lf 32 1),o1 34 (Jl
 33),Jk 35 0] (.block 0 (.loop (sr1 [o1 36 (Jb .lss 35 34)] (.seq (Ji 36 .skip (.exit 0)) (.seq (.block 1 (sr1 [m1 37 35,m1 7 37] (sr1 [o1 39 (ao 1 0),o1 40 (lt 39 2),o1 41 (ao 1 33),o1 42 (lf 41 1),m1 43 7,o1 44 (ao 1 34),o1 45 (lf 44 1),o1 46 (ao 1
 35),o1 47 (lf 46 1),o1 48 (ao 1 2),o1 49 (lt 48 2),o1 50 (J6 42 40 42 43 45 47 49),m1 38 50,o1 51 (Je 38 0),o1 52 (Je 38 1),m1 8 51,m1 9 52] (.seq (sr1 [m1 53 9,o1 54 (Jc .neq 53 0)] (Ji 54 (sr1 [o1 55 (.build ZrV []),Js 2 55 3,Jk 3 0,Jk 4 9] .ret)
 .skip)) (sr1 [m1 56 8,o1 57 (Jl 56),Jk 58 0] (.block 2 (.loop (sr1 [o1 59 (Jb .lss 58 57)] (.seq (Ji 59 .skip (.exit 2)) (.seq (.block 3 (sr1 [o1 60 (Jx 56 58 1),o1 61 (lf 60 1),m1 11 61] (.scope (.seq (.label 0) (sr1 [Jk 62 0] (.block 4 (.loop (sr1
 [o1 63 (Jc .lss 62 13)] (.seq (Ji 63 .skip (.exit 4)) (.seq (.block 5 (sr1 [m1 64 62,m1 12 64] (sr1 [o1 65 (lt 1 37),m1 66 11,m1 67 12,o1 68 (J3 48 65 66 67),m1 13 68] (.block 6 (.loop (.seq (.block 7 (.seq (sr1 [m1 71 13,o1 72 (Jc .eql 71 0)] (Ji 72
 (.exit 5) .skip)) (sr1 [m1 73 11,m1 74 13,m1 75 12,o1 76 (.build ZrV [(0,1,.t 73),(1,1,.t 74),(2,1,.t 75)]),o1 14 (.alloc ZrV 37),Js 14 76 3] (sr1 [o1 77 (lt 1 37),o1 78 (lt 14 3),m1 79 7,o1 80 (J3 49 77 78 79),m1 15 80] (sr1 [o1 81 (lt 14 3),m1 82
 15,o1 83 (J2 47 81 82),o1 16 (.alloc zv8 120),Js 16 83 4] (sr1 [o1 84 (lt 14 3),o1 85 (lt 16 4),o1 86 (lt 2 3),o1 87 (lt 6 4),o1 88 (J4 50 84 85 86 87)] (Ji 88 (.regd (Jr 6) [Jo 89 (lt 14 3),.hide (.t 2),Jm 90 15,Jo 91 (lt 16 4)] 0 3 [Ju 2 89 3
 [0],⟨some 3,.mv (.t 90),none,[0,1,3]⟩,Ju 6 91 4 (Jr 5)]) .skip))))))) (.reg [m1 69 13,o1 70 (Jc .sub 69 1),m1 13 70]))))))) (.reg [o1 92 (Jc .add 62 1),m1 62 92]))))))))))) (.reg [o1 93 (Jc .add 58 1),m1 58 93]))))))))))) (.reg [o1 94 (Jc .add 35
 1),m1 35 94]))))))) (sr1 [o1 95 (lt 2 3),m1 96 3,Js 2 95 3,m1 3 96,Jk 4 0] .ret))))))
def r14:List RV:=[.cell 2 3 true,.tmp 3,.tmp 4]
theorem n14:Tryz.f14.ntmps=97:=by kernel_rfl
theorem b14:Z4 Tryz.prog 14=true:=by kernel_rfl
theorem ZBr:YR Tryz.prog c14 ((Tryz.f14.body).getD .skip)=true:=by kernel_rfl
theorem ZDi:Y2 Tryz.prog r14 Tryz.f14.results.toList=true:=by kernel_rfl
open Go.Azalai
end Go.Proofs.YtongccnhomncnaaGreatDoor
namespace Go.Azalai
open Go.Sx Go.Proofs.YtongccnhomncnaaGreatDoor
theorem Zr1 {l:Land} {well day:Int}:(WY l well [] day).1.lo<=1000000000:=by
 unfold WY;split
 . simp
 rename_i h1;split
 . simp
 split
 . simp
 split
 . simp
 split
 . rename_i w hw;simp only [Bool.not_eq_false,Z7,Bool.and_eq_true,List.all_eq_true,inR,decide_eq_true_eq] at h1;have hwell:=h1.1.2 w (List.mem_of_getElem? hw);simp only [YY,ZW,inR,Bool.and_eq_true,decide_eq_true_eq] at hwell;simp only [Ue,Wo];omega
 . simp
theorem ZCR {s:Season} {x:Scene} (st:Stop):ZdQ s x st<=1000000000:=Zr1
theorem Zge {s:Season} {p:Plan} {x:Scene} (h:OkS s) (hp:Wi s p=true):∀ d ∈ Vu s p x,0<=d.water/\d.water<=30000000:=by
 have hn:=h.num;obtain ⟨_,hpl⟩:=Zbq hp;intro d hd;unfold Vu at hd;split at hd
 . unfold VJ at hd;split at hd
   . cases hd
   split at hd
   . obtain ⟨st,_,rfl⟩:=List.mem_map.1 hd;simp
   . unfold Vw at hd;obtain ⟨i,hi,rfl⟩:=List.getElem_of_mem hd;simp only [List.length_zipWith] at hi;rw [List.getElem_zipWith];have hb:=(ZC9 (x:=x) (slabs:=p.slabs) (l:=Ye s p.legs) h.beast.1 h.beast.2).1 _ (List.getElem_mem (show i < _ by omega));simp only [ZbV];have h1:0<=p.animals * ((goF s x p.slabs (Ye s p.legs)).2.2[i]'(by omega)).1:=Int.mul_nonneg hpl.1 hb.1;have h2:p.animals * ((goF s x p.slabs (Ye s p.legs)).2.2[i]'(by omega)).1<=30 * 1000000:=Int.mul_le_mul (by omega) hb.2 hb.1 (by decide)
     omega
 . cases hd
theorem Znw {s:Season} {p:Plan} {x:Scene} (hg:p.legs.length<=1000):(Vu s p x).length<=1000:=by
 have h1:(Ye s p.legs).length<=1000:=Nat.le_trans ZbU hg;unfold Vu VJ;split
 . split
   . simp
   split
   . simp;omega
   . simp only [Vw,List.length_zipWith];omega
 . simp
end Go.Azalai
namespace Go.Proofs.YtongccnhomncnaaGreatDoor
open Go Go.Sx Go.Azalai
theorem ZAc (s:Season) (h:OkS s) (a:List Int) (ha:(Y8 s.land s.start [s.start] a).isSome=true) (hg:a.length<=1000) (k:Int) (hk:0<=k/\k<=12) :
 Cp 48 [.agg (Zv s),.sl false 1 (a.map Zk),I k] (I (Zgl s a k)):=by
 have hnum:=h.num;have hsc:=h.scs;have hp:Wi s ⟨a,1,k⟩=true:=by
  simp only [Wi,ha,inR,Bool.true_and,Bool.and_eq_true,decide_eq_true_eq];omega
 refine tw48.1 (by simp [Zv,Zl,Zg,Zr,Zi,Ze,Zk,Za]) (by simp) ?_;dsimp only [cw48,rw48,Zv,go_sem];simp only [List.length_map];refine UV [1,2,3,7,18,19] rfl (λq:Nat × Int=>[(19,I q.1),(7,I q.2)]) (λ_=>[])
  (λq=>q.1<=s.scenes.length/\ZuI s a k (s.scenes.drop q.1) q.2=Zgl s a k/\0<=q.2/\q.2<=30) (λq=>s.scenes.length - q.1) (0,s.herd) ⟨Nat.zero_le _,rfl,by simp only;omega,by simp only;omega⟩ ?_ ?_
 . (refine Zj ?_ ?_ ?_ rfl rfl<;>dsimp only [Zg,Zr,Zi,Zl,Ze,Zk,id,go_sem]<;>simp [Zg,Zr,Zi,Zl,Ze,Zk,Za])
 rintro ⟨j,n⟩ ⟨hj,hi,hn0,hn1⟩;simp only at hj hi hn0 hn1;dsimp only [go_sem];by_cases hlt:j < s.scenes.length
 case neg =>
  refine Zo (by simp;omega) ?_;dsimp only [go_sem];rw [List.drop_eq_nil_of_le (by omega),ZuI] at hi;rw [hi]
 refine Zs (by simpa using hlt) ?_;dsimp only [go_sem];have ht:=Zu1 s h j hlt ⟨a,1,k⟩ hp hg;have hx:=h.scene _ (List.getElem_mem hlt);have hy:s.scenes[j].yields.length=s.land.wells.length:=by simp only [YI,Bool.and_eq_true,decide_eq_true_eq] at hx;omega
 have hwat:=Zge (x:=s.scenes[j]) h hp;have hlen:=Znw (s:=s) (p:=⟨a,1,k⟩) (x:=s.scenes[j]) hg;rw [List.drop_eq_getElem_cons hlt,ZuI] at hi;generalize Vu s ⟨a,1,k⟩ s.scenes[j]=D at ht hi hwat hlen;generalize WJ s ⟨a,1,k⟩ s.scenes[j]=w at ht hi;refine ZA [] ht rfl rfl rfl ?_ ?_ ?_
 . exact Zc (by simp [YF,ZQ,Zg,Zr,Zi,Zl,Ze,Zk,Z3,Za])
 . trivial
 rintro _ rfl
 (repeat first | dsimp only [ZxB,go_sem] | simp only [nbr])
 by_cases hw0:w.1=0
 case neg =>
  refine Zs (by simpa using hw0) ?_;dsimp only [go_sem];rw [if_pos hw0] at hi;rw [<- hi]
 refine Zo (by simpa using hw0) ?_;dsimp only [go_sem];rw [if_neg (by simpa using hw0)] at hi;simp only [List.length_map];refine UV [1,2,3,7,9,18,19,36,37,38] rfl (λq:Nat × Int=>[(38,I q.1),(7,I q.2)]) (λ_=>[])
  (λq=>q.1<=D.length/\Zjg s s.scenes[j] (D.drop q.1) q.2=Zjg s s.scenes[j] D n/\0<=q.2/\q.2<=30) (λq=>D.length - q.1) (0,n) ⟨Nat.zero_le _,rfl,hn0,hn1⟩ ?_ ?_
 . (refine Zj ?_ ?_ ?_ rfl rfl<;>dsimp only [YF,Zg,Zr,Zi,Zl,Ze,Zk,Z3,Yx,id,go_sem]<;>simp [YF,Zg,Zr,Zi,Zl,Ze,Zk,Z3,Yx,Za])
 rintro ⟨i,m⟩ ⟨hi0,hi1,hm0,hm1⟩;simp only at hi0 hi1 hm0 hm1;dsimp only [go_sem];by_cases hilt:i < D.length
 case neg =>
  refine Zo (by simp;omega) ?_;dsimp only [go_sem];rw [List.drop_eq_nil_of_le (by omega),Zjg] at hi1;rw [Zf (n:=(j:Int)+1) (by omega) (by omega)];refine ⟨(j+1,m),⟨hlt,by simp only;rw [hi1];exact hi,hm0,hm1⟩,by simp only;omega,?_⟩;(refine Zj ?_ ?_ ?_ rfl rfl<;>dsimp only [YF,Zg,Zr,Zi,Zl,Ze,Zk,Z3,Yx,id,go_sem]<;>simp [YF,Zg,Zr,Zi,Zl,Ze,Zk,Z3,Yx,Za])
 refine Zs (by simpa using hilt) ?_;dsimp only [go_sem];refine Zn i hilt rfl ?_;dsimp only [Yx,go_sem];rw [List.drop_eq_getElem_cons hilt,Zjg] at hi1;have hw:=hwat _ (List.getElem_mem hilt);have hnext:IntKind.i64.wrap ((i:Int)+1)=((i+1:Nat):Int):=by rw [Zf (by omega) (by omega)];omega
 by_cases hpos:D[i].water > 0
 . refine Zs (by simpa using hpos) ?_;dsimp only [go_sem];refine call (ZuA s h.small j hlt hy ⟨0,D[i].well,⟨0,0⟩,⟨D[i].day,0⟩⟩) ?_;dsimp only [go_sem];refine Zjh (by omega) ?_;have h1:=ZuE (s:=s) (x:=s.scenes[j]) ⟨0,D[i].well,⟨0,0⟩,⟨D[i].day,0⟩⟩;have h2:=ZCR (s:=s) (x:=s.scenes[j]) ⟨0,D[i].well,⟨0,0⟩,⟨D[i].day,0⟩⟩;have h3:=W4 (d:=D[i].water) h1 h2 (by omega);dsimp only [go_sem];rw [Zf (n:=(ZdQ s s.scenes[j] ⟨0,D[i].well,⟨0,0⟩,⟨D[i].day,0⟩⟩).tdiv D[i].water) (by omega) (by omega),hnext]
   rw [if_pos hpos] at hi1;refine ⟨(i+1,min m ((ZdQ s s.scenes[j] ⟨0,D[i].well,⟨0,0⟩,⟨D[i].day,0⟩⟩).tdiv D[i].water)),⟨hilt,hi1,by simp only;omega,by simp only;omega⟩,by simp only;omega,?_⟩;(refine Zj ?_ ?_ ?_ rfl rfl<;>dsimp only [YF,Zg,Zr,Zi,Zl,Ze,Zk,Z3,Yx,id,go_sem]<;>simp [YF,Zg,Zr,Zi,Zl,Ze,Zk,Z3,Yx,Za])
 . refine Zo (by simpa using hpos) ?_;dsimp only [go_sem];rw [hnext];rw [if_neg hpos] at hi1;refine ⟨(i+1,m),⟨hilt,hi1,hm0,hm1⟩,by simp only;omega,?_⟩;(refine Zj ?_ ?_ ?_ rfl rfl<;>dsimp only [YF,Zg,Zr,Zi,Zl,Ze,Zk,Z3,Yx,id,go_sem]<;>simp [YF,Zg,Zr,Zi,Zl,Ze,Zk,Z3,Yx,Za])
def VC (b:Bst):Ls:=[I b.w,I (-b.an),I (-b.sl),I (-(b.legs.length:Int))]
theorem mapW (a:List Nat):(Xr a).map Zk=a.map Y4:=by simp [Xr,Y4,Zk]
theorem Zg8 (a:List Nat):(Xr a).length=a.length:=by simp [Xr]
structure SmB (b:Bst):Prop where
 len:b.legs.length<=1000
 an:0<=b.an/\b.an<=30
 sl:0<=b.sl/\b.sl<=12
theorem ZeJ (b:Bst) (hb:SmB b):Cp 47 [.agg (ZQ b.plan),I b.w] (.agg (VC b)):=by
 obtain ⟨h1,h2,h3⟩:=hb;refine t47.1 (by simp [ZQ,Bst.plan,Zk,Za,KFL,KF]) (by simp [VC]) ?_;dsimp only [c47,r47,ZQ,Bst.plan,VC,go_sem];simp only [List.length_map,Zg8];rw [Int.zero_sub,Int.zero_sub,Int.zero_sub,Zf (n:=-b.an) (by omega) (by omega),Zf (n:=-b.sl) (by omega) (by omega),Zf (n:=-(b.legs.length:Int)) (by omega) (by omega)]
theorem ZlK (q p:Bst) (hq:SmB q) (hp:SmB p):Cp 50 [.agg (ZQ q.plan),.agg (VC q),.agg (ZQ p.plan),.agg (VC p)] (B (Yy q p)):=by
 have hq1:=hq.len;have hp1:=hp.len;refine t50.1 (by simp [ZQ,Bst.plan,Zk,Za,VC,KFL,KF]) (by simp) ?_;dsimp only [c50,r50,ZQ,Bst.plan,VC,go_sem];by_cases e:q.w=p.w/\q.an=p.an/\q.sl=p.sl/\q.legs.length=p.legs.length
 . obtain ⟨e1,e2,e3,e4⟩:=e;refine Zs (by simp [e1,e2,e3,e4]) ?_;dsimp only [go_sem];have hc:=ZiV q.legs p.legs (by omega) (by omega);simp only [YL,<- mapW] at hc;refine call hc ?_;dsimp only [go_sem];rw [Zhm];simp [Yy,e1,e2,e3,e4]
 refine Zo (by simp;omega) ?_;dsimp only [go_sem];refine ZX 5 ?_;dsimp only [Zb,go_sem];refine Zs (by decide) ?_;dsimp only [Zb,go_sem];repeat (refine ixa 0 rfl (by decide) ?_;dsimp only [Zb,go_sem])
 by_cases e1:q.w=p.w
 case neg =>
  refine Zs (by simpa using e1) ?_;dsimp only [Zb,go_sem];repeat (refine ixa 0 rfl (by decide) ?_;dsimp only [Zb,go_sem])
  simp [Yy,e1]
 refine Zo (by simpa using e1) ?_;dsimp only [Zb,go_sem];refine Zs (by decide) ?_;dsimp only [Zb,go_sem];repeat (refine ixa 1 rfl (by decide) ?_;dsimp only [Zb,go_sem])
 by_cases e2:q.an=p.an
 case neg =>
  refine Zs (by simp;omega) ?_;dsimp only [Zb,go_sem];repeat (refine ixa 1 rfl (by decide) ?_;dsimp only [Zb,go_sem])
  have:decide (-q.an > -p.an)=decide (q.an < p.an):=by rw [decide_eq_decide];omega
  simp [Yy,e1,e2]
 refine Zo (by simp;omega) ?_;dsimp only [Zb,go_sem];refine Zs (by decide) ?_;dsimp only [Zb,go_sem];repeat (refine ixa 2 rfl (by decide) ?_;dsimp only [Zb,go_sem])
 by_cases e3:q.sl=p.sl
 case neg =>
  refine Zs (by simp;omega) ?_;dsimp only [Zb,go_sem];repeat (refine ixa 2 rfl (by decide) ?_;dsimp only [Zb,go_sem])
  simp [Yy,e1,e2,e3]
 refine Zo (by simp;omega) ?_;dsimp only [Zb,go_sem];refine Zs (by decide) ?_;dsimp only [Zb,go_sem];repeat (refine ixa 3 rfl (by decide) ?_;dsimp only [Zb,go_sem])
 have e4:¬ q.legs.length=p.legs.length:=λe4=>e ⟨e1,e2,e3,e4⟩;refine Zs (by simp;omega) ?_;dsimp only [Zb,go_sem];repeat (refine ixa 3 rfl (by decide) ?_;dsimp only [Zb,go_sem])
 simp [Yy,e1,e2,e3,e4]
end Go.Proofs.YtongccnhomncnaaGreatDoor
namespace Go.Sx
open Go Go.RowKit
theorem ZbF {m:Nat} {σ : St} (k:Nat) {l l':Ls} {T':TypeId} (hk:lkh k σ.hp = .cells l T') (hw:∀ (w:World) (E:Env) (n ok:Nat->Prop) (ys:LZ),RL w E n ok l ys->RL w E n ok l' ys) :
 Ent m σ ⟨σ.fr,(k,.cells l' T') :: σ.hp,σ.n,σ.N,σ.gs⟩:=λC E a w _ h=>by
 have hocc:∀ b,occ E k (.cells l' T') b↔occ E k (lkh k σ.hp) b:=λb=>by rw [hk];rfl
 obtain ⟨h6,h7⟩:=Wc (hb:=.cells l' T') (B:=E.β k) h.hs hocc (by rw [hk];rfl) ⟨rfl,rfl,rfl,rfl,λ_ _=>rfl⟩ (λhst=>by
  have hb:=h.hs.bk k;rw [hk] at hb;simp only [Yr] at hb ⊢;obtain ⟨cs,e1,e2⟩:=hb
  exact ⟨cs,e1,hw _ _ _ _ _ (ZL hst (λ_ _=>Ele.rfl) (λ_ h=>h) _ _ e2)⟩)
 exact ⟨E,λu=>XD h7 (λ_ _=>Ele.rfl) (λ_ h=>h) (λ_ _ _ _=>Iff.rfl) (h.fr u),h.sz,X5 h7 h.df,h.gs,h6⟩
end Go.Sx
namespace Go.Proofs.YtongccnhomncnaaGreatDoor
open Go Go.Sx Go.Azalai
def Zzj (r:Plan × Int × Int):SV:=.tup [.agg (ZQ r.1),I r.2.1,I r.2.2]
theorem Zvi (w:Int):Cp 47 [.agg [.v (.slice none 0 0),I 0,I 0],I w] (.agg [I w,I 0,I 0,I 0]) :=
 (ZeJ ⟨[],0,0,w⟩ ⟨by simp,by simp,by simp⟩).args (by simp) (ZH (VS (ZH YP Wl)) Wl)
theorem ZyG {s:Season} {to:Int} {a:List Nat} {k n:Int} (ha:a.length<=1000) (hn:0<=n/\n<=30) (hk:0<=k/\k<=12):SmB (XW s to a k n):=⟨ha,hn,hk⟩
theorem u25 {args:Ls} {res:SV} (ka:KFL args) (kr:KF res) (h:sx Tryz.prog Y0 0 c14 (st0 args 97) (ZB9 r14 res)) (hA:Nat.ble args.length 97=true:=by rfl):Cp 14 args res:=ZeD Tryz.func14 rfl b14 ZBr ZDi n14 (Nat.le_of_ble_eq_true hA) ka kr h
theorem ZyW (s:Season) (hs:SmallS s):Cp 14 [.agg (Zv s)] (Zzj (ZhK s)):=by
 refine u25 (by simp [Zv,Zl,Zg,Zr,Zi,Ze,Zk,Za]) (by simp [Zzj,ZQ,Zk,Za]) ?_;dsimp only [c14,r14,Zv,go_sem];refine call (ZeX s hs) ?_;dsimp only [go_sem];by_cases ho:ZR s=true
 case neg =>
  refine Zs (by simp [ho]) ?_;dsimp only [go_sem];refine ⟨_,rfl,?_⟩;rw [show ZhK s=(⟨[],0,0⟩,0,90) from by unfold ZhK;exact if_pos (by simpa using ho),if_neg ho];exact VR (ZH (VS (ZH YP Wl)) Wl)
 refine Zo (by simp [ho]) ?_;dsimp only [go_sem];have h:OkS s:=⟨hs,ho⟩
 have hn:=h.num;have hw0:0<=s.herd * s.sale/\s.herd * s.sale<=30 * 1000000:=⟨Int.mul_nonneg (by omega) (by omega),Int.mul_le_mul (by omega) (by omega) (by omega) (by decide)⟩
 rw [Zf (n:=s.herd * s.sale) (by omega) (by omega)];refine call (Zvi (s.herd * s.sale)) ?_;dsimp only [go_sem];simp only [List.length_map];have hR:ZhK s=match Zzz s with | none=>(⟨[],0,0⟩,0,9) | some b=>(b.plan,b.w,0):=by unfold ZhK;exact if_neg (by simp [ho])
 have hwl:=h.land;simp only [Z7,inR,Bool.and_eq_true,decide_eq_true_eq] at hwl;refine ZdB (Yi (Zbl [1,2,3,6,34,35] rfl) (ZbF 1 (l':=ZQ ⟨[],0,0⟩) rfl (ZH YP Wl)))
  (λq:Nat × Bst=>[(35,I q.1),(3,I q.2.w)]) (λq=>[(1,.cells (ZQ q.2.plan) 37),(2,.cells (VC q.2) 120)])
  (λq=>q.1<=s.land.wells.length/\Zes s ((List.range s.land.wells.length).drop q.1) q.2=Zzz s/\SmB q.2) (λq=>s.land.wells.length - q.1) (0,⟨[],0,0,s.herd * s.sale⟩)
  ⟨Nat.zero_le _,rfl,⟨by simp,by simp,by simp⟩⟩ ?_ ?_
 . (refine Zj ?_ ?_ ?_ rfl rfl<;>dsimp only [ZQ,VC,Bst.plan,Xr,Zg,Zr,Zi,Zl,Ze,Zk,id,go_sem]<;>simp [ZQ,VC,Bst.plan,Xr,Zg,Zr,Zi,Zl,Ze,Zk,Za])
 rintro ⟨g,b⟩ ⟨hg,hi,hb⟩;simp only at hg hi hb;dsimp only [ZQ,VC,go_sem];by_cases hlt:g < s.land.wells.length
 case neg =>
  refine Zo (by simp;omega) ?_;dsimp only [go_sem];rw [List.drop_eq_nil_of_le (by simp;omega),Zes] at hi;rw [hR,<- hi];exact ⟨_,rfl,λ_ _ _ _ _ h=>h⟩
 refine Zs (by simpa using hlt) ?_;dsimp only [go_sem];have hwy:=Zoo s.land hs.land s.start g s.day s.till s.pace;rw [List.drop_eq_getElem_cons (by simpa using hlt),List.getElem_range,Zes] at hi;by_cases hE:Zd2 s.land s.pace s.start g s.day s.till=0
 case neg =>
  simp only [ZdM,X3,if_neg hE] at hwy;refine call hwy ?_;dsimp only [go_sem];refine Zs (by simpa using hE) ?_;dsimp only [go_sem];rw [if_pos hE] at hi;rw [hR,<- hi];refine ⟨_,rfl,?_⟩;exact VR (ZH (VS (ZH YP Wl)) Wl)
 simp only [ZdM,X3,if_pos hE] at hwy;refine call hwy ?_;dsimp only [go_sem];refine Zo (by simpa using hE) ?_;dsimp only [go_sem];rw [if_neg (by simpa using hE)] at hi;simp only [List.length_map];have hmem:∀ a ∈ Zao s.land s.pace s.start g s.day s.till,Y8 s.land s.start [s.start] (Xr a)=some (g:Int)/\a.length<=24:=λa ha=>by
  have h1:=((Zqs h).1 ha).1;exact ⟨h1,by simpa [Xr] using (lenS h h1).2⟩
 have hwlen:(Zao s.land s.pace s.start g s.day s.till).length<=1000:=by
  unfold Zd2 at hE;split at hE
  . rename_i q;exact absurd hE q
  split at hE
  . simp at hE
  split at hE
  . simp at hE
  . rename_i q;unfold Zao;omega
 generalize Zao s.land s.pace s.start g s.day s.till=W at hi hmem hwlen ⊢;refine UV [1,2,3,6,7,34,35,56,57,58] rfl (λq:Nat × Bst=>[(58,I q.1),(3,I q.2.w)]) (λq=>[(1,.cells (ZQ q.2.plan) 37),(2,.cells (VC q.2) 120)])
  (λq=>q.1<=W.length/\(W.drop q.1).foldl (ZD2 s g) q.2=W.foldl (ZD2 s g) b/\SmB q.2) (λq=>W.length - q.1) (0,b) ⟨Nat.zero_le _,rfl,hb⟩ ?_ ?_
 . (refine Zj ?_ ?_ ?_ rfl rfl<;>dsimp only [ZQ,Bst.plan,VC,XW,XM,YL,Y4,Xr,Zg,Zr,Zi,Zl,Ze,Zk,id,go_sem]<;>simp [ZQ,Bst.plan,VC,XW,XM,YL,Y4,Xr,Zg,Zr,Zi,Zl,Ze,Zk,Za])
 rintro ⟨i,b1⟩ ⟨hi1,hf1,hb1⟩;simp only at hi1 hf1 hb1;dsimp only [ZQ,Bst.plan,VC,go_sem];by_cases hilt:i < W.length
 case neg =>
  refine Zo (by simp;omega) ?_;dsimp only [go_sem];rw [List.drop_eq_nil_of_le (by omega),List.foldl_nil] at hf1;rw [Zf (n:=(g:Int)+1) (by omega) (by omega)];refine ⟨(g+1,b1),⟨hlt,by simp only;rw [hf1];exact hi,hb1⟩,by simp only;omega,?_⟩;(refine Zj ?_ ?_ ?_ rfl rfl<;>dsimp only [ZQ,Bst.plan,VC,XW,XM,YL,Y4,Xr,Zg,Zr,Zi,Zl,Ze,Zk,id,go_sem]<;>simp [ZQ,Bst.plan,VC,XW,XM,YL,Y4,Xr,Zg,Zr,Zi,Zl,Ze,Zk,Za])
 refine Zs (by simpa using hilt) ?_;dsimp only [go_sem];refine Zn i hilt rfl ?_;rw [List.drop_eq_getElem_cons hilt,List.foldl_cons] at hf1;obtain ⟨hto,hal⟩:=hmem _ (List.getElem_mem hilt);generalize W[i]=a at hf1 hto hal ⊢;simp only [XM,YL,<- mapW];dsimp only [go_sem];refine UV [1,2,3,6,7,11,34,35,56,57,58,62] rfl (λq:Nat × Bst=>[(62,I q.1),(3,I q.2.w)]) (λq=>[(1,.cells (ZQ q.2.plan) 37),(2,.cells (VC q.2) 120)])
  (λq=>q.1<=13/\((List.range 13).drop q.1).foldl (Ztw s g a) q.2=ZD2 s g b1 a/\SmB q.2) (λq=>13 - q.1) (0,b1) ⟨Nat.zero_le _,rfl,hb1⟩ ?_ ?_
 . (refine Zj ?_ ?_ ?_ rfl rfl<;>dsimp only [ZQ,Bst.plan,VC,XW,XM,YL,Y4,Xr,Zg,Zr,Zi,Zl,Ze,Zk,id,go_sem]<;>simp [ZQ,Bst.plan,VC,XW,XM,YL,Y4,Xr,Zg,Zr,Zi,Zl,Ze,Zk,Za])
 rintro ⟨k,b2⟩ ⟨hk1,hf2,hb2⟩;simp only at hk1 hf2 hb2;dsimp only [ZQ,Bst.plan,VC,go_sem];by_cases hk:k < 13
 case neg =>
  refine Zo (by simp;omega) ?_;dsimp only [go_sem];rw [List.drop_eq_nil_of_le (by simp;omega),List.foldl_nil] at hf2;rw [Zf (n:=(i:Int)+1) (by omega) (by omega)];refine ⟨(i+1,b2),⟨hilt,by simp only;rw [hf2];exact hf1,hb2⟩,by simp only;omega,?_⟩;(refine Zj ?_ ?_ ?_ rfl rfl<;>dsimp only [ZQ,Bst.plan,VC,XW,XM,YL,Y4,Xr,Zg,Zr,Zi,Zl,Ze,Zk,id,go_sem]<;>simp [ZQ,Bst.plan,VC,XW,XM,YL,Y4,Xr,Zg,Zr,Zi,Zl,Ze,Zk,Za])
 refine Zs (by simp;omega) ?_;dsimp only [go_sem];refine call (ZAc s h (Xr a) (by rw [hto];rfl) (by rw [Zg8];omega) k ⟨by omega,by omega⟩) ?_;have hfb:=ZyF h (a:=Xr a) (k:=(k:Int));rw [List.drop_eq_getElem_cons (by simpa using hk),List.getElem_range,List.foldl_cons] at hf2;obtain ⟨F,hF⟩:∃ F:Nat,Zgl s (Xr a) k=F:=⟨(Zgl s (Xr a) k).toNat,by omega⟩
 have hsl:Ztw s g a b2 k=Zf2 s g a k F b2:=by simp only [Ztw,hF,Int.toNat_natCast]
 rw [hsl] at hf2;rw [hF] at hfb ⊢;dsimp only [go_sem];refine UV [1,2,3,6,7,11,12,13,34,35,56,57,58,62] rfl (λq:Nat × Bst=>[(13,I q.1),(3,I q.2.w)]) (λq=>[(1,.cells (ZQ q.2.plan) 37),(2,.cells (VC q.2) 120)])
  (λq=>q.1<=F/\Zf2 s g a k q.1 q.2=Zf2 s g a k F b2/\SmB q.2) (λq=>q.1) (F,b2) ⟨Nat.le_refl _,rfl,hb2⟩ ?_ ?_
 . (refine Zj ?_ ?_ ?_ rfl rfl<;>dsimp only [ZQ,Bst.plan,VC,XW,XM,YL,Y4,Xr,Zg,Zr,Zi,Zl,Ze,Zk,id,go_sem]<;>simp [ZQ,Bst.plan,VC,XW,XM,YL,Y4,Xr,Zg,Zr,Zi,Zl,Ze,Zk,Za])
 rintro ⟨n,b3⟩ ⟨hn1,hf3,hb3⟩;simp only at hn1 hf3 hb3;dsimp only [ZQ,Bst.plan,VC,go_sem];by_cases h0:n=0
 . subst h0;refine Zs (by simp) ?_;dsimp only [go_sem];rw [Zf2] at hf3;rw [Zf (n:=(k:Int)+1) (by omega) (by omega)];refine ⟨(k+1,b3),⟨by simp only;omega,by simp only;rw [hf3];exact hf2,hb3⟩,by simp only;omega,?_⟩;(refine Zj ?_ ?_ ?_ rfl rfl<;>dsimp only [ZQ,Bst.plan,VC,XW,XM,YL,Y4,Xr,Zg,Zr,Zi,Zl,Ze,Zk,id,go_sem]<;>simp [ZQ,Bst.plan,VC,XW,XM,YL,Y4,Xr,Zg,Zr,Zi,Zl,Ze,Zk,Za])
 obtain ⟨m,rfl⟩:∃ m,n=m+1:=⟨n - 1,by omega⟩
 refine Zo (by simp;omega) ?_;dsimp only [go_sem];have hp:Wi s ⟨Xr a,((m+1:Nat):Int),k⟩=true:=Zqk hto ⟨by simp only;omega,by simp only;omega⟩ ⟨by simp only;omega,by simp only;omega⟩;have hcs:SmB (XW s g a k ((m+1:Nat):Int)):=ZyG (by omega) ⟨by omega,by omega⟩ ⟨by omega,by omega⟩;have hwo:=Zpk s h ⟨Xr a,((m+1:Nat):Int),k⟩ hp g hlt;simp only [ZQ] at hwo;refine call hwo ?_;dsimp only [go_sem];have hso:=ZeJ (XW s g a k ((m+1:Nat):Int)) hcs
 simp only [ZQ,Bst.plan,XW,VC] at hso;refine call hso ?_;dsimp only [go_sem];have hbo:=ZlK (XW s g a k ((m+1:Nat):Int)) b3 hcs hb3;simp only [ZQ,Bst.plan,VC] at hbo;refine call hbo ?_;dsimp only [go_sem];rw [Zf2] at hf3;by_cases hbb:Yy (XW s g a k ((m+1:Nat):Int)) b3=true
 . refine Zs (by simpa using hbb) ?_;dsimp only [go_sem];rw [ZmA,if_pos hbb] at hf3;rw [Zf (n:=(((m+1:Nat):Int)) - 1) (by omega) (by omega),show (((m+1:Nat):Int)) - 1=(m:Int) from by omega];refine ⟨(m,XW s g a k ((m+1:Nat):Int)),⟨by simp only;omega,hf3,hcs⟩,by simp only;omega,?_⟩;(refine Zj ?_ ?_ ?_ rfl rfl<;>dsimp only [ZQ,Bst.plan,VC,XW,XM,YL,Y4,Xr,Zg,Zr,Zi,Zl,Ze,Zk,id,go_sem]<;>simp [ZQ,Bst.plan,VC,XW,XM,YL,Y4,Xr,Zg,Zr,Zi,Zl,Ze,Zk,Za])
 . refine Zo (by simpa using hbb) ?_;dsimp only [go_sem];rw [ZmA,if_neg hbb] at hf3;rw [Zf (n:=(((m+1:Nat):Int)) - 1) (by omega) (by omega),show (((m+1:Nat):Int)) - 1=(m:Int) from by omega];refine ⟨(m,b3),⟨by simp only;omega,hf3,hb3⟩,by simp only;omega,?_⟩;(refine Zj ?_ ?_ ?_ rfl rfl<;>dsimp only [ZQ,Bst.plan,VC,XW,XM,YL,Y4,Xr,Zg,Zr,Zi,Zl,Ze,Zk,id,go_sem]<;>simp [ZQ,Bst.plan,VC,XW,XM,YL,Y4,Xr,Zg,Zr,Zi,Zl,Ze,Zk,Za])
end Go.Proofs.YtongccnhomncnaaGreatDoor
namespace Go.Azalai
theorem Zeu:∀ (n q:Nat),q < 2 ^ n->(∀ j,j < n->(q / 2 ^ j) % 2=0)->q=0
 | 0,q,h,_=>by simp at h;omega
 | n+1,q,h,hb=>by
  have h0:=hb 0 (by omega);simp only [Nat.pow_zero,Nat.div_one] at h0;have h2:q / 2 < 2 ^ n:=by rw [Nat.pow_succ] at h;omega
  have:=Zeu n (q / 2) h2 λj hj=>by
   have:=hb (j+1) (by omega);rw [Nat.pow_succ,Nat.mul_comm,<- Nat.div_div_eq_div_mul] at this;exact this
  omega
end Go.Azalai
namespace Go.Proofs.YtongccnhomncnaaGreatDoor.Ld
open Go Go.Sx Go.Azalai
theorem Zza (n:Nat) (h:n<=12) (w:World):(binOp .shl 3 (.int .i64 1) (.int .i64 (n:Int))).run Tryz.prog w = .ok (.int .i64 ((2 ^ n:Nat):Int)) w:=by
 simp only [binOp,Op.shift];rw [if_neg (by omega)];have hn:n=0\/n=1\/n=2\/n=3\/n=4\/n=5\/n=6\/n=7\/n=8\/n=9\/n=10\/n=11\/n=12:=by omega
 rcases hn with rfl | rfl | rfl | rfl | rfl | rfl | rfl | rfl | rfl | rfl | rfl | rfl | rfl<;>rfl
theorem Zwp (q n:Nat) (h:n<=12) (w:World):(binOp .shr 3 (.int .i64 (q:Int)) (.int .i64 (n:Int))).run Tryz.prog w = .ok (.int .i64 ((q / 2 ^ n:Nat):Int)) w:=by
 simp only [binOp,Op.shift];rw [if_neg (by omega)];show Result.ok (Value.int .i64 ((q:Int).fdiv (2 ^ (min (n:Int).toNat IntKind.i64.bits)))) w=_;have hp:(2:Int) ^ n=((2 ^ n:Nat):Int):=by simp
 rw [show min (n:Int).toNat IntKind.i64.bits=n from by rw [show IntKind.i64.bits=64 from rfl];omega,hp,Int.fdiv_eq_ediv_of_nonneg _ (Int.natCast_nonneg _)];rfl
theorem Zz2 (q:Nat) (h:q < 1000000) (w:World):(binOp .and 3 (.int .i64 (q:Int)) (.int .i64 1)).run Tryz.prog w = .ok (.int .i64 ((q % 2:Nat):Int)) w:=by
 have e:(BitVec.ofInt 64 (q:Int) &&& BitVec.ofInt 64 1).toNat=q % 2:=by
  rw [BitVec.toNat_and,show (BitVec.ofInt 64 1).toNat=2 ^ 1 - 1 from by decide,Nat.and_two_pow_sub_one_eq_mod,BitVec.ofInt_natCast,BitVec.toNat_ofNat];omega
 show Result.ok (Value.int .i64 (IntKind.i64.wrap (((BitVec.ofInt 64 (q:Int) &&& BitVec.ofInt 64 1).toNat:Nat):Int))) w=_;rw [e,Zf (by omega) (by omega)]
def Ztn (L:List Int) (v:Nat):Ot:=⟨false,.cl 142 [.p 1 0],[(1,.cells [.mr 0 v] 35),(0,.row v 1 (L.map Zk) 3)],2⟩
theorem ZAe (L:List Int) (v:Nat):Cq 86 [(0,.row v 1 (L.map Zk) 3)] 1 [.mr 0 v] (λo=>o=Ztn L v):=by
 refine m86 (by simp [hpb]) (λo ho=>by subst ho;simp [Ztn,KX,KXL,KXP,KXH,Za,KFL,KF,Zk]) ?_;dsimp only [c86,r86,go_sem];refine ⟨_,rfl,?_⟩;simp only [Ztn];(refine Zw ?_ ?_ ?_ rfl<;>dsimp only [Zk,id,go_sem]<;>simp [Zk,Za])
theorem ZzR:Cp 87 [.sl false 1 [],.sl false 1 []] (I 0):=by
 refine t87.1 (by simp [KFR]) (by simp) ?_;dsimp only [c87,r87,go_sem];refine ZX 1 ?_;dsimp only [Zb,go_sem];refine Zo rfl ?_;dsimp only [go_sem];repeat (first | (refine Zo rfl ?_;dsimp only [go_sem]) | (refine Zs rfl ?_;dsimp only [go_sem]))
theorem Zkr (l:List Pack) (t:Tied) (bound:Int) (h:CarB l t) (hb:0<=bound/\bound<=1000000000) (r1:Wf t.left=true) (r2:Wf t.right=true) (hbal:ZiK l t bound=2) :
 Cp 38 [.agg (XI l t),I bound] (.sl false 1 []):=by
 refine t38.1 (by simp [XI,Za,Ze,Zk]) (by simp [KFR]) ?_;dsimp only [c38,r38,XI,go_sem];have hlen:=h.len;have hall:t.left.length+t.right.length<=10:=by
  have:=h.facts.2;simp only [Zap,List.length_append] at this;omega
 refine ZA [] (Zax t.left t.right (by omega) (by omega) true) rfl rfl rfl ?_ ?_ ?_
 . (repeat first | dsimp only [go_sem] | simp only [nbr])
   try simp [mtL,mtB,mtS,KFL,KF,KFR,Za,Zk,Zc]
 . trivial
 rintro _ ⟨v,rfl⟩
 (repeat first | dsimp only [go_sem] | simp only [nbr])
 refine ZA [2] (Zdt (t.left ++ t.right) v (by simp;omega)) rfl rfl rfl ?_ ?_ ?_
 . (repeat first | dsimp only [go_sem] | simp only [nbr])
   try simp [mtL,mtB,mtS,KFL,KF,KFR]
 . (repeat first | dsimp only [Zk,go_sem] | simp only [nbr])
   try simp [mtL,mtB,mtS,Zc,KFL,KF,KFR,Zd,Za,mtH,mtM,Zk]
 rintro _ ⟨L',e1,_,rfl⟩;simp only [List.length_append] at e1
 (repeat first | dsimp only [go_sem] | simp only [nbr])
 simp only [List.length_map];rw [Zf (n:=(L'.length:Int)+1) (by omega) (by omega)];refine ZA [2] (ZAe L' v) rfl rfl rfl ?_ ?_ ?_
 . (repeat first | dsimp only [go_sem] | simp only [nbr])
   try simp [mtL,mtB,mtS,KFL,KF,KFR]
 . (repeat first | dsimp only [Zk,go_sem] | simp only [nbr])
   try simp [mtL,mtB,mtS,Zc,KFL,KF,KFR,Zd,Za,mtH,mtM,Zk]
 rintro _ rfl
 (repeat first | dsimp only [Ztn,go_sem] | simp only [nbr])
 have hn10:L'.length<=10:=by omega
 refine gh (ZbF 3 (l':=[.sl false 1 []]) rfl (ZH YP λ_ _ _ _ _ h=>h)) ?_;dsimp only [go_sem];refine ⟨b142,λrec=>?_⟩;refine y142 ?_
 (repeat first | dsimp only [c142,r142,go_sem] | simp only [nbr])
 simp only [List.length_map];obtain ⟨N,hN⟩:∃ N,N=2 ^ L'.length:=⟨_,rfl⟩
 have hpow:N<=1024:=by
  have:=Nat.pow_le_pow_right (n:=2) (by omega) hn10;rw [hN];simpa using this
 have hpos:0 < N:=by rw [hN];exact Nat.two_pow_pos _
 have hshl:=Zza L'.length (by omega);rw [<- hN] at hshl;refine ZdI rfl rfl (.inr (.inr rfl)) hshl ?_;dsimp only [go_sem];refine gh Zp ?_;dsimp only [go_sem];refine Ym (λq:Nat=>[(10,I q)]) (λq=>[(4,.cells [I (if q=0 then (L'.length:Int)+1 else 0)] 3)]) (λq=>q<=N) (λq=>N - q) 0 (Nat.zero_le _) ?_ ?_
 . (refine Zj ?_ ?_ ?_ rfl rfl<;>dsimp only [XI,Ze,Zk,id,go_sem]<;>simp [XI,Ze,Zk,Za])
 intro q hq;dsimp only [go_sem];refine gh Zp ?_;dsimp only [go_sem];by_cases hlt:q < N
 case neg =>
  refine Zo (by simp;omega) ?_;dsimp only [go_sem];rw [if_neg (by omega)]
  (repeat first | dsimp only [go_sem] | simp only [nbr])
  simp only [List.length_map];refine ZA [] (Xo 52) rfl rfl rfl ?_ ?_ ?_
  . (repeat first | dsimp only [go_sem] | simp only [nbr])
    try simp [mtL,mtB,mtS,KFL,KF,KFR]
    try omega
  . trivial
  rintro _ rfl
  (repeat first | dsimp only [go_sem] | simp only [nbr])
 refine Zs (by simp;omega) ?_;dsimp only [go_sem];refine gh Zp ?_;dsimp only [go_sem];refine gh (Yc 4 1 3 rfl rfl) ?_
 (repeat first | dsimp only [go_sem] | simp only [nbr])
 simp only [List.length_map];refine gh Zp ?_;dsimp only [go_sem];refine Ym (λz:Nat × Nat × List Int=>[(15,I z.1),(4,.mr 7 z.2.1)]) (λz=>[(7,.row z.2.1 1 (z.2.2.map Zk) 3)])
  (λz=>z.1<=L'.length/\z.2.2.length<=z.1/\(q=0->z.2.2=[])/\(∀ j,j < z.1->(q / 2 ^ j) % 2≠0->z.2.2≠[])) (λz=>L'.length - z.1) (0,0,[]) ⟨Nat.zero_le _,by simp,λ_=>rfl,λj hj=>by simp at hj⟩ ?_ ?_
 . (refine Zj ?_ ?_ ?_ rfl rfl<;>dsimp only [XI,Ze,Zk,id,go_sem]<;>simp [XI,Ze,Zk,Za])
 rintro ⟨i,vv,K⟩ ⟨g1,g2,g3,g4⟩;simp only at g1 g2 g3 g4;dsimp only [go_sem];refine gh Zp ?_;dsimp only [go_sem];by_cases hi:i < L'.length
 . refine Zs (by simpa using hi) ?_
   (repeat first | dsimp only [go_sem] | simp only [nbr])
   refine UK i rfl (by simpa using hi) ?_
   (repeat first | dsimp only [go_sem] | simp only [nbr])
   refine Zeb hi ?_
   (repeat first | dsimp only [Zk,go_sem] | simp only [nbr])
   refine gh Zp ?_;dsimp only [go_sem];refine ZdI rfl rfl (.inr (.inl rfl)) (Zwp q i (by omega)) ?_;dsimp only [go_sem];refine ZdI rfl rfl (.inl rfl) (Zz2 (q / 2 ^ i) (by have:=Nat.div_le_self q (2 ^ i);omega)) ?_;dsimp only [go_sem];refine gh Zp ?_;dsimp only [go_sem];by_cases hb1:q / 2 ^ i % 2=1
   . refine Zs (by rw [hb1];rfl) ?_
     (repeat first | dsimp only [go_sem] | simp only [nbr])
     refine ⟨(by intro c hc;simp only [List.mem_singleton] at hc;subst hc;rfl),by simp;omega,?_⟩
     (repeat first | dsimp only [go_sem] | simp only [nbr])
     rw [Zf (n:=(i:Int)+1) (by omega) (by omega)];refine ⟨(i+1,vv+1,K ++ [L'[i]]),⟨by simp only;omega,by simp;omega,λhq0=>?_,λj hj hne=>by simp⟩,by simp only;omega,?_⟩
     . exfalso;rw [hq0,Nat.zero_div] at hb1;omega
     (refine Zj ?_ ?_ ?_ rfl rfl<;>dsimp only [XI,Ze,Zk,id,go_sem]<;>simp [XI,Ze,Zk,Za])
   . have hb0:q / 2 ^ i % 2=0:=by omega
     refine Zo (by rw [hb0];rfl) ?_;dsimp only [go_sem];rw [Zf (n:=(i:Int)+1) (by omega) (by omega)];refine ⟨(i+1,vv,K),⟨by simp only;omega,by simp only;omega,g3,λj hj hne=>?_⟩,by simp only;omega,?_⟩
     . rcases Nat.lt_or_ge j i with hji | hji
       . exact g4 j hji hne
       . have:j=i:=by simp only at hj;omega
         subst this;exact absurd hb0 hne
     (refine Zj ?_ ?_ ?_ rfl rfl<;>dsimp only [XI,Ze,Zk,id,go_sem]<;>simp [XI,Ze,Zk,Za])
 . refine Zo (by simpa using hi) ?_;dsimp only [go_sem];have hie:i=L'.length:=by omega
   have hK:q≠0->K≠[]:=λhq0 hk=>hq0 (Zeu L'.length q (by omega) λj hj=>by
    by_cases hz:q / 2 ^ j % 2=0
    . exact hz
    . exact absurd hk (g4 j (by omega) hz))
   refine gh (Zav 4 7 vv rfl rfl rfl rfl) ?_;dsimp only [go_sem];refine ⟨rfl,rfl,?_⟩;by_cases hq0:q=0
   . obtain rfl:=g3 hq0;subst hq0;simp only [if_true,List.map_nil];dsimp only [go_sem];rw [show decide (((0:Nat):Int) < (L'.length:Int)+1)=true from by first | (simp;omega) | (simp;done)];repeat (first | (refine gb ?_;dsimp only [go_sem]) | (refine call ZzR ?_;dsimp only [go_sem]))
     refine Zs rfl ?_;dsimp only [go_sem];have hmv:=UJ l t (by omega) (by omega) r1 r2;refine call hmv ?_;dsimp only [go_sem];refine call (Zc6 l t bound h.hp (by have:=h.hl;omega) h.left h.right (by omega) (by omega) hb) ?_;rw [hbal];dsimp only [go_sem];refine Zs rfl ?_;dsimp only [go_sem];refine ⟨rfl,?_⟩;refine gh Zp ?_;dsimp only [go_sem];refine Zo rfl ?_;dsimp only [go_sem];refine gh Zp ?_;dsimp only [go_sem]
     rw [Zf (n:=(((0:Nat):Int))+1) (by omega) (by omega)];refine ⟨0+1,by omega,by omega,?_⟩;rw [if_neg (by omega)];(refine Zj ?_ ?_ ?_ rfl rfl<;>dsimp only [XI,Ze,Zk,id,go_sem]<;>simp [XI,Ze,Zk,Za])
   . rw [if_neg hq0];have hk0:K.length≠0:=λe=>hK hq0 (List.eq_nil_of_length_eq_zero e);simp only [List.length_map];rw [show decide ((K.length:Int) < 0)=false from by simp];repeat (first | (refine ZI rfl ?_;dsimp only [go_sem]))
     simp only [List.length_map];rw [show ((K.length:Int) == 0)=false from by simpa using hk0];repeat (first | (refine ZI rfl ?_;dsimp only [go_sem]) | (refine Xu (by decide) ?_;dsimp only [go_sem]))
     refine Zo rfl ?_;dsimp only [go_sem];refine ⟨rfl,?_⟩;refine gh Zp ?_;dsimp only [go_sem];refine Zo rfl ?_;dsimp only [go_sem];refine gh Zp ?_;dsimp only [go_sem];rw [Zf (n:=(q:Int)+1) (by omega) (by omega)];refine ⟨q+1,by omega,by omega,?_⟩;rw [if_neg (by omega)];(refine Zj ?_ ?_ ?_ rfl rfl<;>dsimp only [XI,Ze,Zk,id,go_sem]<;>simp [XI,Ze,Zk,Za])
end Go.Proofs.YtongccnhomncnaaGreatDoor.Ld
namespace Go.Proofs.YtongccnhomncnaaGreatDoor
open Go Go.Sx
def c37:SC:=(sr1 [o1 4 (lf 0 1),o1 5 (lt 1 3),o1 6 (.bsl 3 45 [.t 5]),o1 7 (.callm 28 [.t 4,.t 6])] (sr1 [o1 8 (lf 2 1),o1 9 (.callm 31 [.t 8])] (.regd (Jr 7) [Jo 10 (lt 1 3),Jo 11 (lf 0 1),Jp 12 (J1 32 11) [1],Jp 13 (.build Zux [(0,3,.t 10),(3,1,.t
 12)]) [0,2],Jo 14 (lf 2 1),Jp 15 (J2 38 13 14) [2,3,4]] 0 1 [Ju 3 15 1 (Jr 6)])))
def r37:List RV:=[]
theorem n37:Tryz.f37.ntmps=16:=by kernel_rfl
theorem b37:Z4 Tryz.prog 37=true:=by kernel_rfl
theorem ZDK:YR Tryz.prog c37 ((Tryz.f37.body).getD .skip)=true:=by kernel_rfl
theorem ZBq:Y2 Tryz.prog r37 Tryz.f37.results.toList=true:=by kernel_rfl
theorem m37 {n0:Nat} {hp0:Lh} {args:Ls} {Zz:Ot->Prop} (hh:hpb n0 hp0) (hx:∀ o,Zz o->KX o.res/\KXP o.hp) (h:sx Tryz.prog Y0 n0 c37 ⟨YT 0 args,hp0,n0,16,[]⟩ (X0 r37 λo=>∃ o',Zz o'/\WI n0 o o')) (hA:Nat.ble args.length 16=true:=by rfl):Cq 37 hp0 n0 args Zz:=ZB Tryz.func37 rfl b37 ZDK ZBq n37 (Nat.le_of_ble_eq_true hA) hh hx h
def c11:SC:=(sr1 [o1 3 (Jz 0 0 43),o1 4 (Jz 1 0 45),o1 5 (Jz 2 0 3),o1 6 (.alloc [.slice none 0 0] 35),Jk 7 0] (sr1 [o1 8 (.mkf 37 [.t 3,.t 4,.t 5,.t 6]),o1 9 (.callm 26 [.t 8]),m1 7 9] (sr1 [o1 10 (lf 6 1),m1 11 7,Js 6 10 1,m1 7 11] .ret)))
def r11:List RV:=[.cell 6 1 false,.tmp 7]
theorem t11:Qt1 Tryz.prog 11 c11 r11 12:=ZF Tryz.func11
end Go.Proofs.YtongccnhomncnaaGreatDoor
