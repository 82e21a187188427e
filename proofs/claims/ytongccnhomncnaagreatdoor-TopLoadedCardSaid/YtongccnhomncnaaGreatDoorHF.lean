/- Walks and plain laws that lead to the given statement, part 6 of 20. -/
import Derived.Test.YtongccnhomncnaaGreatDoorHE
import Derived.WideLaws
import Derived.Lib.AppendZerosOnto
import Derived.Test.YtongccnhomncnaaGreatDoorProg
import Derived.Shelf.Small.Bits
set_option maxRecDepth 100000
set_option maxHeartbeats 4000000
set_option linter.all false
open Nat renaming beq_refl->nbr
namespace Go.Proofs.YtongccnhomncnaaGreatDoor.Cm
open Go Go.Sx Go.Azalai
theorem breed_bd {b:Breed} (h:ZK b=true):1<=b.full/\b.full<=1000000/\1<=b.fed/\b.fed<=1000000/\0<=b.heal/\b.heal<=1000/\(0<=b.strong.lo/\b.strong.lo<=b.strong.hi/\b.strong.hi<=1000000)/\(0<=b.rest.lo/\b.rest.lo<=b.rest.hi/\b.rest.hi<=100000) /\
 (0<=b.heat.lo/\b.heat.lo<=b.heat.hi/\b.heat.hi<=100000)/\(0<=b.toil.lo/\b.toil.lo<=b.toil.hi/\b.toil.hi<=100000)/\(0<=b.burn.lo/\b.burn.lo<=b.burn.hi/\b.burn.hi<=100000)/\(0<=b.rub.lo/\b.rub.lo<=b.rub.hi/\b.rub.hi<=100000)/\(0<=b.milk.lo/\b.milk.lo<=b.milk.hi/\b.milk.hi<=100000):=by
 simp only [ZK,ZW,inR,Bool.and_eq_true,decide_eq_true_eq] at h;omega
theorem camel_bd {b:Breed} {c:Camel} (hb:ZK b=true) (h:ZE b c=true):(0<=c.water.lo/\c.water.lo<=c.water.hi/\c.water.hi<=b.full)/\(0<=c.fat.lo/\c.fat.lo<=c.fat.hi/\c.fat.hi<=b.fed)/\(0<=c.sore.lo/\c.sore.lo<=c.sore.hi/\c.sore.hi<=1000):=by
 simp only [ZE,ZW,Bool.and_eq_true,decide_eq_true_eq] at h;omega
theorem march_bd {m:March} (h:Ya m=true):0<=m.hours/\m.hours<=24/\0<=m.load/\m.load<=1000000/\(0<=m.heat.lo/\m.heat.lo<=m.heat.hi/\m.heat.hi<=60)/\(0<=m.grass.lo/\m.grass.lo<=m.grass.hi/\m.grass.hi<=1000000)/\(0<=m.drinks.lo/\m.drinks.lo<=m.drinks.hi/\m.drinks.hi<=1000000):=by
 simp only [Ya,ZW,inR,Bool.and_eq_true,decide_eq_true_eq] at h;omega
theorem ZDt (b:Breed) (c:Camel) (hb:ZK b=true) (hc:ZE b c=true):Cp 136 [.agg (ZG b c)] (.agg (Ze (Zed b c))):=by
 obtain ⟨b1,b2,b3,b5,_⟩:=breed_bd hb;obtain ⟨⟨w1,w2,w3⟩,⟨f1,f2,f3⟩,⟨s1,s2,s3⟩⟩:=camel_bd hb hc;refine t136.1 (by simp [ZG]) (by simp [Ze]) ?_;dsimp only [c136,r136,ZG,go_sem];refine call (Zag c.water b.full 2 1000 0 true w1 w2 (by omega) (by omega) (by omega) (by omega) b1 (by omega)) ?_;dsimp only [Ze,go_sem];refine call (Zag c.fat b.fed 2 1000 0 true f1 f2 (by omega) (by omega) (by omega) (by omega) b3 (by omega)) ?_
 dsimp only [Ze,go_sem];refine call (ZzJ 1000 c.sore (by omega) (by omega) ⟨by omega,by omega,by omega,by omega⟩) ?_;dsimp only [Ze,go_sem];refine ZX 4 ?_;dsimp only [Zb,go_sem];refine Zs (by decide) ?_;dsimp only [Zb,go_sem];refine ixa 0 rfl (by decide) ?_;dsimp only [Zb,go_sem];refine Zs (by decide) ?_;dsimp only [Zb,go_sem];refine ixa 1 rfl (by decide) ?_;dsimp only [Zb,go_sem];refine Zs (by decide) ?_
 dsimp only [Zb,go_sem];refine ixa 2 rfl (by decide) ?_;dsimp only [Zb,go_sem];refine Zo (by decide) ?_;dsimp only [go_sem];have e1:c.water.lo * 2 * 1000=2000 * c.water.lo:=by omega
 have e2:c.water.hi * 2 * 1000=2000 * c.water.hi:=by omega
 have e3:c.fat.lo * 2 * 1000=2000 * c.fat.lo:=by omega
 have e4:c.fat.hi * 2 * 1000=2000 * c.fat.hi:=by omega
 simp only [e1,e2,e3,e4,Zed,Int.min_assoc]
theorem fit_bd {b:Breed} {c:Camel} (hb:ZK b=true) (hc:ZE b c=true):0<=(Zed b c).lo/\(Zed b c).lo<=1000/\0<=(Zed b c).hi/\(Zed b c).hi<=1000:=by
 obtain ⟨b1,b2,b3,b5,_⟩:=breed_bd hb;obtain ⟨⟨w1,w2,w3⟩,⟨f1,f2,f3⟩,⟨s1,s2,s3⟩⟩:=camel_bd hb hc;have d1:=W4 (a:=2000 * c.water.lo) (A:=2000000000) (d:=b.full) (by omega) (by omega) b1;have d2:=W4 (a:=2000 * c.fat.lo) (A:=2000000000) (d:=b.fed) (by omega) (by omega) b3;have d3:=Zl3 (a:=2000 * c.water.hi) (A:=2000000000) (d:=b.full) (by omega) (by omega) b1;have d4:=Zl3 (a:=2000 * c.fat.hi) (A:=2000000000) (d:=b.fed) (by omega) (by omega) b3
 simp only [Zed];omega
theorem ZBA (b:Breed) (c:Camel) (hb:ZK b=true) (hc:ZE b c=true):Cp 80 [.agg (ZG b c)] (.agg (Ze (Zeh b c))):=by
 obtain ⟨b1,b2,b3,b5,_,_,⟨g1,g2,g3⟩,_⟩:=breed_bd hb;obtain ⟨q1,q2,q3,q4⟩:=fit_bd hb hc;have k1:=U4 (a:=b.strong.lo) (A:=1000000) (b:=(Zed b c).lo) (B:=1000) (by omega) (by omega) q1 q2;have k2:=U4 (a:=b.strong.hi) (A:=1000000) (b:=(Zed b c).hi) (B:=1000) (by omega) (by omega) q3 q4;refine t80.1 (by simp [ZG]) (by simp [Ze]) ?_;dsimp only [c80,r80,ZG,go_sem];refine call (ZDt b c hb hc) ?_;dsimp only [Ze,go_sem]
 rw [Zf (n:=b.strong.lo * (Zed b c).lo) (by omega) (by omega)];refine Zjh (by omega) ?_;dsimp only [go_sem];rw [Zf (n:=b.strong.hi * (Zed b c).hi) (by omega) (by omega)];refine call (Zgd _ _ (by omega) (by omega) (by omega) (by omega)) ?_;dsimp only [go_sem];have d1:=W4 (a:=b.strong.lo * (Zed b c).lo) (d:=1000) k1.1 k1.2 (by omega);rw [Zf (n:=(b.strong.lo * (Zed b c).lo).tdiv 1000) (by omega) (by omega)]
 rfl
def sres (b:Breed) (c:Camel) (s:Span):SV:=.tup [.agg (Ze (if Uz b c=0 then s else Z0)),I (Uz b c)]
theorem errC_0 {b:Breed} {c:Camel}:Uz b c=0↔ZK b=true/\ZE b c=true:=by
 simp only [Uz];cases ZK b<;>cases ZE b c<;>simp
theorem carries_ok (b:Breed) (c:Camel):Cp 29 [.agg (breedL b),.agg (camelL c)] (sres b c (Zeh b c)):=by
 refine t29.1 (by simp [breedL,camelL]) (by simp [sres,Ze]) ?_;dsimp only [c29,r29,breedL,camelL,go_sem];refine call (checkCamel_ok b c) ?_;dsimp only [go_sem];by_cases h:Uz b c=0
 case neg =>
  refine Zs (by simpa using h) ?_;dsimp only [sres,Ze,go_sem];rw [if_neg h];rfl
 refine Zo (by simpa using h) ?_;obtain ⟨hb,hc⟩:=errC_0.1 h;dsimp only [go_sem];refine call (ZBA b c hb hc) ?_;dsimp only [Ze,sres,go_sem];rw [if_pos h,h]
theorem work_bd {m:March} (h:Ya m=true):0<=YG m/\YG m<=26400000:=by
 obtain ⟨h1,h2,h3,h4,_⟩:=march_bd h;have:=U4 (a:=m.hours) (A:=24) (b:=100000+m.load) (B:=1100000) h1 h2 (by omega) (by omega);exact this
theorem toil_bd {m:March} {x:Int} (h:Ya m=true) (h0:0<=x) (h1:x<=100000):0<=x * YG m/\x * YG m<=2640000000000:=by
 obtain ⟨w1,w2⟩:=work_bd h;exact U4 h0 h1 w1 w2
theorem heat_bd {x y:Int} (h0:0<=x) (h1:x<=100000) (h2:0<=y) (h3:y<=60):0<=x * max 0 (y - 20)/\x * max 0 (y - 20)<=4000000 :=
 U4 h0 h1 (B:=40) (by omega) (by omega)
theorem ZnU (b:Breed) (k:Bool) (m:March) (hb:ZK b=true) (hm:Ya m=true):Cp 285 [.agg (breedL b),B k,.agg (marchL m)] (.agg [I (VB b k m).lo,I (VB b k m).hi,I (V5 b m).lo,I (V5 b m).hi]):=by
 obtain ⟨_,_,_,_,_,_,_,⟨r1,r2,r3⟩,⟨a1,a2,a3⟩,⟨t1,t2,t3⟩,⟨u1,u2,u3⟩,_,⟨k1,k2,k3⟩⟩:=breed_bd hb;obtain ⟨m1,m2,m3,m4,⟨g1,g2,g3⟩,_⟩:=march_bd hm;have w0:=work_bd hm;have e1:=heat_bd (x:=b.heat.lo) (y:=m.heat.lo) (by omega) (by omega) (by omega) (by omega);have e2:=heat_bd (x:=b.heat.hi) (y:=m.heat.hi) (by omega) (by omega) (by omega) (by omega);have f1:=toil_bd (x:=b.toil.lo) hm (by omega) (by omega);have f2:=toil_bd (x:=b.toil.hi) hm (by omega) (by omega)
 have f3:=toil_bd (x:=b.burn.lo) hm (by omega) (by omega);have f4:=toil_bd (x:=b.burn.hi) hm (by omega) (by omega);have d1:=W4 f1.1 f1.2 (d:=100000) (by omega);have d2:=Zl3 f2.1 f2.2 (d:=100000) (by omega);have hw:IntKind.i64.wrap (m.hours * IntKind.i64.wrap (100000+m.load))=YG m:=by
  rw [Zf (n:=100000+m.load) (by omega) (by omega)];unfold YG at *;exact Zf (by omega) (by omega)
 refine t285.1 (by simp [breedL,marchL]) (by simp) ?_;dsimp only [c285,r285,breedL,marchL,go_sem];rw [hw,Zf (n:=m.heat.lo - 20) (by omega) (by omega),Zf (n:=m.heat.hi - 20) (by omega) (by omega),Zf (n:=b.heat.lo * max 0 (m.heat.lo - 20)) (by omega) (by omega),Zf (n:=b.heat.hi * max 0 (m.heat.hi - 20)) (by omega) (by omega)];refine call (ZfN b.toil 100000 (YG m) 0 true t1 t2 w0.1 (by omega) (by omega) (by omega)) ?_
 dsimp only [Ze,go_sem]
 refine call (plus3 b.rest ⟨b.heat.lo * max 0 (m.heat.lo - 20),b.heat.hi * max 0 (m.heat.hi - 20)⟩ (scl b.toil 100000 (YG m)) true ⟨by omega,by omega,by omega,by omega⟩ ⟨e1.1,by simp only;omega,e2.1,by simp only;omega⟩
  ⟨d1.1,by simp only [scl];omega,d2.1,by simp only [scl];omega⟩) ?_
 dsimp only [Ze,go_sem];refine br ?_ ?_
 . intro hk;dsimp only [go_sem]
   refine call (Us ⟨b.rest.lo+b.heat.lo * max 0 (m.heat.lo - 20)+(scl b.toil 100000 (YG m)).lo,b.rest.hi+b.heat.hi * max 0 (m.heat.hi - 20)+(scl b.toil 100000 (YG m)).hi⟩ b.milk true
    ⟨by simp only [scl];omega,by simp only [scl];omega,by simp only [scl];omega,by simp only [scl];omega⟩ ⟨by omega,by omega,by omega,by omega⟩) ?_
   dsimp only [Ze,go_sem];refine call (ZfN b.burn 100000 (YG m) 0 true u1 u2 w0.1 (by omega) (by omega) (by omega)) ?_;dsimp only [Ze,go_sem];simp only [VB,V5,hk,scl,if_true]
 . intro hk;dsimp only [go_sem];refine call (ZfN b.burn 100000 (YG m) 0 true u1 u2 w0.1 (by omega) (by omega) (by omega)) ?_;dsimp only [Ze,go_sem];simp only [VB,V5,hk,scl,Bool.false_eq_true,if_false,Int.add_zero]
end Go.Proofs.YtongccnhomncnaaGreatDoor.Cm
namespace Go.Azalai
def Zji (b:Breed) (c:Camel) (l:List March):Int:=if Uz b c≠0 then Uz b c else if l.length > 60 then 4 else if l.all Ya=false then 12 else 0
end Go.Azalai
namespace Go.Proofs.YtongccnhomncnaaGreatDoor.Cm
open Go Go.Sx Go.Azalai
def tres (r:Span × Int):SV:=.tup [.agg (Ze r.1),I r.2]
end Go.Proofs.YtongccnhomncnaaGreatDoor.Cm
namespace Go.Azalai
def Xq:Camel:=⟨⟨0,0⟩,⟨0,0⟩,⟨0,0⟩,false⟩
def ZbJ (most:Int) (has cost gets:Span):Span:=⟨min most (max 0 (has.lo - cost.hi)+gets.lo),min most (has.hi - cost.lo+gets.hi)⟩
def ZcK (b:Breed) (s:Span) (m:March):Span :=
 if m.hours=0 then ⟨max 0 (s.lo - b.heal),max 0 (s.hi - b.heal)⟩
 else ⟨min 1000 (s.lo+(b.rub.lo * (m.hours * m.load)).tdiv 1000000),min 1000 (s.hi+upF (b.rub.hi * (m.hours * m.load)) 1000000)⟩
def ZS (b:Breed) (c:Camel) (m:March):Camel × Int :=
 let w:=VB b c.milks m
 let f:=V5 b m
 if c.water.hi < w.lo\/c.fat.hi < f.lo then (Xq,2)
 else (⟨ZbJ b.full c.water w m.drinks,ZbJ b.fed c.fat f m.grass,ZcK b c.sore m,c.milks⟩,if c.water.lo ≥ w.hi/\c.fat.lo ≥ f.hi then 0 else 1)
theorem Zd1 {b:Breed} {k:Bool} {m:March} (hb:ZK b=true) (hm:Ya m=true):0<=(VB b k m).lo/\(VB b k m).lo<=1000000000/\0<=(VB b k m).hi/\(VB b k m).hi<=1000000000:=by
 have h:=Go.Proofs.YtongccnhomncnaaGreatDoor.Cm.breed_bd hb;have h2:=Go.Proofs.YtongccnhomncnaaGreatDoor.Cm.march_bd hm;have q1:=Go.Proofs.YtongccnhomncnaaGreatDoor.Cm.toil_bd (x:=b.toil.lo) hm (by omega) (by omega);have q2:=Go.Proofs.YtongccnhomncnaaGreatDoor.Cm.toil_bd (x:=b.toil.hi) hm (by omega) (by omega);have q3:=Go.Proofs.YtongccnhomncnaaGreatDoor.Cm.heat_bd (x:=b.heat.lo) (y:=m.heat.lo) (by omega) (by omega) (by omega) (by omega)
 have q4:=Go.Proofs.YtongccnhomncnaaGreatDoor.Cm.heat_bd (x:=b.heat.hi) (y:=m.heat.hi) (by omega) (by omega) (by omega) (by omega);have r1:0<=(b.toil.lo * YG m).tdiv 100000/\(b.toil.lo * YG m).tdiv 100000<=26400000:=by
  rw [Int.tdiv_eq_ediv_of_nonneg q1.1];omega
 have r2:0<=upF (b.toil.hi * YG m) 100000/\upF (b.toil.hi * YG m) 100000<=26400001:=by
  unfold upF;rw [Int.tdiv_eq_ediv_of_nonneg (by omega)];omega
 simp only [VB];cases k<;>simp<;>omega
theorem ZdR {b:Breed} {m:March} (hb:ZK b=true) (hm:Ya m=true):0<=(V5 b m).lo/\(V5 b m).lo<=1000000000/\0<=(V5 b m).hi/\(V5 b m).hi<=1000000000:=by
 have h:=Go.Proofs.YtongccnhomncnaaGreatDoor.Cm.breed_bd hb;have q1:=Go.Proofs.YtongccnhomncnaaGreatDoor.Cm.toil_bd (x:=b.burn.lo) hm (by omega) (by omega);have q2:=Go.Proofs.YtongccnhomncnaaGreatDoor.Cm.toil_bd (x:=b.burn.hi) hm (by omega) (by omega);have r1:0<=(b.burn.lo * YG m).tdiv 100000/\(b.burn.lo * YG m).tdiv 100000<=26400000:=by
  rw [Int.tdiv_eq_ediv_of_nonneg q1.1];omega
 have r2:0<=upF (b.burn.hi * YG m) 100000/\upF (b.burn.hi * YG m) 100000<=26400001:=by
  unfold upF;rw [Int.tdiv_eq_ediv_of_nonneg (by omega)];omega
 simp only [V5];omega
end Go.Azalai
namespace Go.Proofs.YtongccnhomncnaaGreatDoor.Cm
open Go Go.Sx Go.Azalai
theorem Zlk (b:Breed) (c:Camel) (m:March) (hb:ZK b=true) (hc:ZE b c=true) (hm:Ya m=true) (hd:(ZS b c m).2≠2) :
 Cp 261 [.agg (ZG b c),.agg (marchL m)] (.tup [.agg (ZG b (ZS b c m).1),.v (.int .u8 (ZS b c m).2)]):=by
 have h1:=breed_bd hb;have h2:=camel_bd hb hc;have h3:=march_bd hm;have w1:=Zd1 (k:=c.milks) hb hm;have w2:=ZdR hb hm;have k0:=U4 (a:=m.hours) (b:=m.load) (A:=24) (B:=1000000) (by omega) (by omega) (by omega) (by omega);have k1:=U4 (a:=b.rub.lo) (b:=m.hours * m.load) (A:=100000) (B:=24000000) (by omega) (by omega) (by omega) (by omega);have k2:=U4 (a:=b.rub.hi) (b:=m.hours * m.load) (A:=100000) (B:=24000000) (by omega) (by omega) (by omega) (by omega)
 have k3:=W4 k1.1 k1.2 (d:=1000000) (by omega);have k4:=Zl3 k2.1 k2.2 (d:=1000000) (by omega);refine t261.1 (by simp [ZG,marchL]) (by simp [ZG]) ?_;dsimp only [c261,r261,ZG,marchL,go_sem];refine call (ZnU b c.milks m hb hm) ?_;dsimp only [go_sem];generalize hW:VB b c.milks m=W at w1;generalize hF:V5 b m=F at w2;have hd':W.lo<=c.water.hi/\F.lo<=c.fat.hi:=by
  by_cases h:c.water.hi < W.lo\/c.fat.hi < F.lo
  . exact absurd (by simp only [ZS,hW,hF,if_pos h]) hd
  . omega
 clear hd;have k5:=U4 (a:=b.rub.hi) (b:=m.hours) (A:=100000) (B:=24) (by omega) (by omega) (by omega) (by omega);have k6:b.rub.hi * m.hours * m.load<=100000000000000:=by rw [Int.mul_assoc];omega
 have hd0:¬ (c.water.hi < W.lo\/c.fat.hi < F.lo):=by omega
 by_cases hp:c.water.lo < W.hi<;>by_cases hq:c.fat.lo < F.hi
 . refine ZX 3 ?_;dsimp only [Zb,go_sem];refine Zs (by decide) ?_;dsimp only [Zb,go_sem];repeat (first | (refine ixa 0 rfl (by decide) ?_;dsimp only [Zb,go_sem]) | (refine Zo (by simp;omega) ?_;dsimp only [Zb,go_sem]) | (refine Zs (by simp;omega) ?_;dsimp only [Zb,go_sem]))
   simp (disch:=omega) only [Zf];refine call (Us ⟨max 0 (c.water.lo - W.hi),c.water.hi - W.lo⟩ m.drinks _ (by unfold bdS;simp only;omega) (by unfold bdS;omega)) ?_;dsimp only [Zb,Ze,go_sem];repeat (first | (refine ixa 0 rfl (by decide) ?_;dsimp only [Zb,go_sem]) | (refine Zo (by simp;omega) ?_;dsimp only [Zb,go_sem]) | (refine Zs (by simp;omega) ?_;dsimp only [Zb,go_sem]))
   simp (disch:=omega) only [Zf];refine Zs (by decide) ?_;dsimp only [Zb,go_sem];repeat (first | (refine ixa 1 rfl (by decide) ?_;dsimp only [Zb,go_sem]) | (refine Zo (by simp;omega) ?_;dsimp only [Zb,go_sem]) | (refine Zs (by simp;omega) ?_;dsimp only [Zb,go_sem]))
   simp (disch:=omega) only [Zf];refine call (Us ⟨max 0 (c.fat.lo - F.hi),c.fat.hi - F.lo⟩ m.grass _ (by unfold bdS;simp only;omega) (by unfold bdS;omega)) ?_;dsimp only [Zb,Ze,go_sem];repeat (first | (refine ixa 1 rfl (by decide) ?_;dsimp only [Zb,go_sem]) | (refine Zo (by simp;omega) ?_;dsimp only [Zb,go_sem]) | (refine Zs (by simp;omega) ?_;dsimp only [Zb,go_sem]))
   refine Zo (by decide) ?_;dsimp only [go_sem];have e:(if c.water.lo ≥ W.hi/\c.fat.lo ≥ F.hi then (0:Int) else 1)=1:=if_neg (by omega);by_cases hz:m.hours=0
   . refine Zs (by simpa using hz) ?_;dsimp only [go_sem];simp (disch:=omega) only [Zf];simp only [ZS,hW,hF,if_neg hd0,ZbJ,ZcK,ZG,e,if_pos hz]
   . refine Zo (by simpa using hz) ?_;dsimp only [go_sem];refine call (Zag b.rub 1000000 m.hours m.load 0 _ (by omega) (by omega) (by omega) (by omega) (by omega) k6 (by omega) (by omega)) ?_;dsimp only [Ze,go_sem];simp only [Int.mul_assoc];refine call (Us c.sore ⟨(b.rub.lo * (m.hours * m.load)).tdiv 1000000,upF (b.rub.hi * (m.hours * m.load)) 1000000⟩ _ (by unfold bdS;omega) (by unfold bdS;simp only;omega)) ?_
     dsimp only [Ze,go_sem];simp only [ZS,hW,hF,if_neg hd0,ZbJ,ZcK,ZG,e,if_neg hz]
 . refine ZX 3 ?_;dsimp only [Zb,go_sem];refine Zs (by decide) ?_;dsimp only [Zb,go_sem];repeat (first | (refine ixa 0 rfl (by decide) ?_;dsimp only [Zb,go_sem]) | (refine Zo (by simp;omega) ?_;dsimp only [Zb,go_sem]) | (refine Zs (by simp;omega) ?_;dsimp only [Zb,go_sem]))
   simp (disch:=omega) only [Zf];refine call (Us ⟨max 0 (c.water.lo - W.hi),c.water.hi - W.lo⟩ m.drinks _ (by unfold bdS;simp only;omega) (by unfold bdS;omega)) ?_;dsimp only [Zb,Ze,go_sem];repeat (first | (refine ixa 0 rfl (by decide) ?_;dsimp only [Zb,go_sem]) | (refine Zo (by simp;omega) ?_;dsimp only [Zb,go_sem]) | (refine Zs (by simp;omega) ?_;dsimp only [Zb,go_sem]))
   simp (disch:=omega) only [Zf];refine Zs (by decide) ?_;dsimp only [Zb,go_sem];repeat (first | (refine ixa 1 rfl (by decide) ?_;dsimp only [Zb,go_sem]) | (refine Zo (by simp;omega) ?_;dsimp only [Zb,go_sem]) | (refine Zs (by simp;omega) ?_;dsimp only [Zb,go_sem]))
   simp (disch:=omega) only [Zf];refine call (Us ⟨max 0 (c.fat.lo - F.hi),c.fat.hi - F.lo⟩ m.grass _ (by unfold bdS;simp only;omega) (by unfold bdS;omega)) ?_;dsimp only [Zb,Ze,go_sem];repeat (first | (refine ixa 1 rfl (by decide) ?_;dsimp only [Zb,go_sem]) | (refine Zo (by simp;omega) ?_;dsimp only [Zb,go_sem]) | (refine Zs (by simp;omega) ?_;dsimp only [Zb,go_sem]))
   refine Zo (by decide) ?_;dsimp only [go_sem];have e:(if c.water.lo ≥ W.hi/\c.fat.lo ≥ F.hi then (0:Int) else 1)=1:=if_neg (by omega);by_cases hz:m.hours=0
   . refine Zs (by simpa using hz) ?_;dsimp only [go_sem];simp (disch:=omega) only [Zf];simp only [ZS,hW,hF,if_neg hd0,ZbJ,ZcK,ZG,e,if_pos hz]
   . refine Zo (by simpa using hz) ?_;dsimp only [go_sem];refine call (Zag b.rub 1000000 m.hours m.load 0 _ (by omega) (by omega) (by omega) (by omega) (by omega) k6 (by omega) (by omega)) ?_;dsimp only [Ze,go_sem];simp only [Int.mul_assoc];refine call (Us c.sore ⟨(b.rub.lo * (m.hours * m.load)).tdiv 1000000,upF (b.rub.hi * (m.hours * m.load)) 1000000⟩ _ (by unfold bdS;omega) (by unfold bdS;simp only;omega)) ?_
     dsimp only [Ze,go_sem];simp only [ZS,hW,hF,if_neg hd0,ZbJ,ZcK,ZG,e,if_neg hz]
 . refine ZX 3 ?_;dsimp only [Zb,go_sem];refine Zs (by decide) ?_;dsimp only [Zb,go_sem];repeat (first | (refine ixa 0 rfl (by decide) ?_;dsimp only [Zb,go_sem]) | (refine Zo (by simp;omega) ?_;dsimp only [Zb,go_sem]) | (refine Zs (by simp;omega) ?_;dsimp only [Zb,go_sem]))
   simp (disch:=omega) only [Zf];refine call (Us ⟨max 0 (c.water.lo - W.hi),c.water.hi - W.lo⟩ m.drinks _ (by unfold bdS;simp only;omega) (by unfold bdS;omega)) ?_;dsimp only [Zb,Ze,go_sem];repeat (first | (refine ixa 0 rfl (by decide) ?_;dsimp only [Zb,go_sem]) | (refine Zo (by simp;omega) ?_;dsimp only [Zb,go_sem]) | (refine Zs (by simp;omega) ?_;dsimp only [Zb,go_sem]))
   simp (disch:=omega) only [Zf];refine Zs (by decide) ?_;dsimp only [Zb,go_sem];repeat (first | (refine ixa 1 rfl (by decide) ?_;dsimp only [Zb,go_sem]) | (refine Zo (by simp;omega) ?_;dsimp only [Zb,go_sem]) | (refine Zs (by simp;omega) ?_;dsimp only [Zb,go_sem]))
   simp (disch:=omega) only [Zf];refine call (Us ⟨max 0 (c.fat.lo - F.hi),c.fat.hi - F.lo⟩ m.grass _ (by unfold bdS;simp only;omega) (by unfold bdS;omega)) ?_;dsimp only [Zb,Ze,go_sem];repeat (first | (refine ixa 1 rfl (by decide) ?_;dsimp only [Zb,go_sem]) | (refine Zo (by simp;omega) ?_;dsimp only [Zb,go_sem]) | (refine Zs (by simp;omega) ?_;dsimp only [Zb,go_sem]))
   refine Zo (by decide) ?_;dsimp only [go_sem];have e:(if c.water.lo ≥ W.hi/\c.fat.lo ≥ F.hi then (0:Int) else 1)=1:=if_neg (by omega);by_cases hz:m.hours=0
   . refine Zs (by simpa using hz) ?_;dsimp only [go_sem];simp (disch:=omega) only [Zf];simp only [ZS,hW,hF,if_neg hd0,ZbJ,ZcK,ZG,e,if_pos hz]
   . refine Zo (by simpa using hz) ?_;dsimp only [go_sem];refine call (Zag b.rub 1000000 m.hours m.load 0 _ (by omega) (by omega) (by omega) (by omega) (by omega) k6 (by omega) (by omega)) ?_;dsimp only [Ze,go_sem];simp only [Int.mul_assoc];refine call (Us c.sore ⟨(b.rub.lo * (m.hours * m.load)).tdiv 1000000,upF (b.rub.hi * (m.hours * m.load)) 1000000⟩ _ (by unfold bdS;omega) (by unfold bdS;simp only;omega)) ?_
     dsimp only [Ze,go_sem];simp only [ZS,hW,hF,if_neg hd0,ZbJ,ZcK,ZG,e,if_neg hz]
 . refine ZX 3 ?_;dsimp only [Zb,go_sem];refine Zs (by decide) ?_;dsimp only [Zb,go_sem];repeat (first | (refine ixa 0 rfl (by decide) ?_;dsimp only [Zb,go_sem]) | (refine Zo (by simp;omega) ?_;dsimp only [Zb,go_sem]) | (refine Zs (by simp;omega) ?_;dsimp only [Zb,go_sem]))
   simp (disch:=omega) only [Zf];refine call (Us ⟨max 0 (c.water.lo - W.hi),c.water.hi - W.lo⟩ m.drinks _ (by unfold bdS;simp only;omega) (by unfold bdS;omega)) ?_;dsimp only [Zb,Ze,go_sem];repeat (first | (refine ixa 0 rfl (by decide) ?_;dsimp only [Zb,go_sem]) | (refine Zo (by simp;omega) ?_;dsimp only [Zb,go_sem]) | (refine Zs (by simp;omega) ?_;dsimp only [Zb,go_sem]))
   simp (disch:=omega) only [Zf];refine Zs (by decide) ?_;dsimp only [Zb,go_sem];repeat (first | (refine ixa 1 rfl (by decide) ?_;dsimp only [Zb,go_sem]) | (refine Zo (by simp;omega) ?_;dsimp only [Zb,go_sem]) | (refine Zs (by simp;omega) ?_;dsimp only [Zb,go_sem]))
   simp (disch:=omega) only [Zf];refine call (Us ⟨max 0 (c.fat.lo - F.hi),c.fat.hi - F.lo⟩ m.grass _ (by unfold bdS;simp only;omega) (by unfold bdS;omega)) ?_;dsimp only [Zb,Ze,go_sem];repeat (first | (refine ixa 1 rfl (by decide) ?_;dsimp only [Zb,go_sem]) | (refine Zo (by simp;omega) ?_;dsimp only [Zb,go_sem]) | (refine Zs (by simp;omega) ?_;dsimp only [Zb,go_sem]))
   refine Zo (by decide) ?_;dsimp only [go_sem];have e:(if c.water.lo ≥ W.hi/\c.fat.lo ≥ F.hi then (0:Int) else 1)=0:=if_pos (by omega);by_cases hz:m.hours=0
   . refine Zs (by simpa using hz) ?_;dsimp only [go_sem];simp (disch:=omega) only [Zf];simp only [ZS,hW,hF,if_neg hd0,ZbJ,ZcK,ZG,e,if_pos hz]
   . refine Zo (by simpa using hz) ?_;dsimp only [go_sem];refine call (Zag b.rub 1000000 m.hours m.load 0 _ (by omega) (by omega) (by omega) (by omega) (by omega) k6 (by omega) (by omega)) ?_;dsimp only [Ze,go_sem];simp only [Int.mul_assoc];refine call (Us c.sore ⟨(b.rub.lo * (m.hours * m.load)).tdiv 1000000,upF (b.rub.hi * (m.hours * m.load)) 1000000⟩ _ (by unfold bdS;omega) (by unfold bdS;simp only;omega)) ?_
     dsimp only [Ze,go_sem];simp only [ZS,hW,hF,if_neg hd0,ZbJ,ZcK,ZG,e,if_neg hz]
end Go.Proofs.YtongccnhomncnaaGreatDoor.Cm
namespace Go.Azalai
theorem Zad {x y d:Int} (hd:1<=d) (h0:0<=x) (h:x<=y):x.tdiv d<=upF y d:=by
 unfold upF;rw [Int.tdiv_eq_ediv_of_nonneg h0,Int.tdiv_eq_ediv_of_nonneg (by omega)];exact Int.ediv_le_ediv (by omega) (by omega)
theorem Zsa {b:Breed} {k:Bool} {m:March} (hb:ZK b=true) (hm:Ya m=true):(VB b k m).lo<=(VB b k m).hi:=by
 have h:=Go.Proofs.YtongccnhomncnaaGreatDoor.Cm.breed_bd hb;have h2:=Go.Proofs.YtongccnhomncnaaGreatDoor.Cm.march_bd hm;have hw:=Go.Proofs.YtongccnhomncnaaGreatDoor.Cm.work_bd hm;have q1:(b.toil.lo * YG m).tdiv 100000<=upF (b.toil.hi * YG m) 100000:=Zad (by omega) (Int.mul_nonneg (by omega) hw.1) (Int.mul_le_mul_of_nonneg_right (by omega) hw.1);have q2:b.heat.lo * max 0 (m.heat.lo - 20)<=b.heat.hi * max 0 (m.heat.hi - 20):=Int.mul_le_mul (by omega) (by omega) (by omega) (by omega)
 simp only [VB];cases k<;>simp<;>omega
theorem Zol {b:Breed} {m:March} (hb:ZK b=true) (hm:Ya m=true):(V5 b m).lo<=(V5 b m).hi:=by
 have h:=Go.Proofs.YtongccnhomncnaaGreatDoor.Cm.breed_bd hb;have hw:=Go.Proofs.YtongccnhomncnaaGreatDoor.Cm.work_bd hm;exact Zad (by omega) (Int.mul_nonneg (by omega) hw.1) (Int.mul_le_mul_of_nonneg_right (by omega) hw.1)
theorem after_ok {b:Breed} {c:Camel} {m:March} (hb:ZK b=true) (hc:ZE b c=true) (hm:Ya m=true) (hd:(ZS b c m).2≠2):ZE b (ZS b c m).1=true:=by
 have h1:=Go.Proofs.YtongccnhomncnaaGreatDoor.Cm.breed_bd hb;have h2:=Go.Proofs.YtongccnhomncnaaGreatDoor.Cm.camel_bd hb hc;have h3:=Go.Proofs.YtongccnhomncnaaGreatDoor.Cm.march_bd hm;have w1:=Zd1 (k:=c.milks) hb hm;have w2:=ZdR hb hm;have hlo:(VB b c.milks m).lo<=(VB b c.milks m).hi:=Zsa hb hm;have hlf:(V5 b m).lo<=(V5 b m).hi:=Zol hb hm;have hr:(b.rub.lo * (m.hours * m.load)).tdiv 1000000<=upF (b.rub.hi * (m.hours * m.load)) 1000000 :=
  Zad (by omega) (Int.mul_nonneg (by omega) (Int.mul_nonneg (by omega) (by omega))) (Int.mul_le_mul_of_nonneg_right (by omega) (Int.mul_nonneg (by omega) (by omega)))
 have hr0:0<=(b.rub.lo * (m.hours * m.load)).tdiv 1000000 :=
  Int.tdiv_nonneg (Int.mul_nonneg (by omega) (Int.mul_nonneg (by omega) (by omega))) (by omega)
 unfold ZS at hd ⊢;simp only at hd ⊢;split at hd
 . exact absurd rfl hd
 . rename_i h;rw [if_neg h];simp only [ZE,ZW,ZbJ,ZcK,Bool.and_eq_true,decide_eq_true_eq];by_cases hz:m.hours=0
   . simp only [if_pos hz,Bool.and_eq_true,decide_eq_true_eq];refine ⟨⟨decide_eq_true ⟨by omega,by omega,by omega⟩,decide_eq_true ⟨by omega,by omega,by omega⟩⟩,by omega,by omega,by omega⟩
   . simp only [if_neg hz,Bool.and_eq_true,decide_eq_true_eq];refine ⟨⟨decide_eq_true ⟨by omega,by omega,by omega⟩,decide_eq_true ⟨by omega,by omega,by omega⟩⟩,by omega,by omega,by omega⟩
end Go.Azalai
namespace Go.Proofs.YtongccnhomncnaaGreatDoor.Cm
open Go Go.Sx Go.Azalai
end Go.Proofs.YtongccnhomncnaaGreatDoor.Cm
namespace Go.Azalai
end Go.Azalai
namespace Go.Proofs.YtongccnhomncnaaGreatDoor.Cm
open Go Go.Sx Go.Azalai
theorem ZdC (b:Breed) (c:Camel) (m:March) (hb:ZK b=true) (hc:ZE b c=true) (hm:Ya m=true) (hd:(ZS b c m).2=2) :
 Cp 261 [.agg (ZG b c),.agg (marchL m)] (.tup [.agg (ZG ⟨0,0,⟨0,0⟩,⟨0,0⟩,⟨0,0⟩,⟨0,0⟩,⟨0,0⟩,⟨0,0⟩,0,⟨0,0⟩⟩ Xq),.v (.int .u8 2)]):=by
 have h1:=breed_bd hb;have h2:=camel_bd hb hc;have h3:=march_bd hm;have w1:=Zd1 (k:=c.milks) hb hm;have w2:=ZdR hb hm;refine t261.1 (by simp [ZG,marchL]) (by simp [ZG,Xq]) ?_;dsimp only [c261,r261,ZG,marchL,go_sem];refine call (ZnU b c.milks m hb hm) ?_;dsimp only [go_sem];generalize hW:VB b c.milks m=W at w1;generalize hF:V5 b m=F at w2;have hd':c.water.hi < W.lo\/c.fat.hi < F.lo:=by
  by_cases h:c.water.hi < W.lo\/c.fat.hi < F.lo
  . exact h
  . simp only [ZS,hW,hF,if_neg h] at hd;split at hd<;>cases hd
 by_cases hw:c.water.hi < W.lo
 . refine ZX 3 ?_;dsimp only [Zb,go_sem];refine Zs (by decide) ?_;dsimp only [Zb,go_sem];repeat (first | (refine ixa 0 rfl (by decide) ?_;dsimp only [Zb,go_sem]) | (refine Zs (by simp;omega) ?_;dsimp only [Zb,Xq,go_sem]))
 . have hf:c.fat.hi < F.lo:=by omega
   by_cases hp:c.water.lo < W.hi
   . refine ZX 3 ?_;dsimp only [Zb,go_sem];refine Zs (by decide) ?_;dsimp only [Zb,go_sem];repeat (first | (refine ixa 0 rfl (by decide) ?_;dsimp only [Zb,go_sem]) | (refine Zo (by simp;omega) ?_;dsimp only [Zb,go_sem]) | (refine Zs (by simp;omega) ?_;dsimp only [Zb,go_sem]))
     simp (disch:=omega) only [Zf];refine call (Us ⟨max 0 (c.water.lo - W.hi),c.water.hi - W.lo⟩ m.drinks _ (by unfold bdS;simp only;omega) (by unfold bdS;omega)) ?_;dsimp only [Zb,Ze,go_sem];repeat (first | (refine ixa 0 rfl (by decide) ?_;dsimp only [Zb,go_sem]) | (refine Zo (by simp;omega) ?_;dsimp only [Zb,go_sem]) | (refine Zs (by simp;omega) ?_;dsimp only [Zb,go_sem]))
     simp (disch:=omega) only [Zf];refine Zs (by decide) ?_;dsimp only [Zb,go_sem];repeat (first | (refine ixa 1 rfl (by decide) ?_;dsimp only [Zb,go_sem]) | (refine Zs (by simp;omega) ?_;dsimp only [Zb,Xq,go_sem]))
   . refine ZX 3 ?_;dsimp only [Zb,go_sem];refine Zs (by decide) ?_;dsimp only [Zb,go_sem];repeat (first | (refine ixa 0 rfl (by decide) ?_;dsimp only [Zb,go_sem]) | (refine Zo (by simp;omega) ?_;dsimp only [Zb,go_sem]) | (refine Zs (by simp;omega) ?_;dsimp only [Zb,go_sem]))
     simp (disch:=omega) only [Zf];refine call (Us ⟨max 0 (c.water.lo - W.hi),c.water.hi - W.lo⟩ m.drinks _ (by unfold bdS;simp only;omega) (by unfold bdS;omega)) ?_;dsimp only [Zb,Ze,go_sem];repeat (first | (refine ixa 0 rfl (by decide) ?_;dsimp only [Zb,go_sem]) | (refine Zo (by simp;omega) ?_;dsimp only [Zb,go_sem]) | (refine Zs (by simp;omega) ?_;dsimp only [Zb,go_sem]))
     simp (disch:=omega) only [Zf];refine Zs (by decide) ?_;dsimp only [Zb,go_sem];repeat (first | (refine ixa 1 rfl (by decide) ?_;dsimp only [Zb,go_sem]) | (refine Zs (by simp;omega) ?_;dsimp only [Zb,Xq,go_sem]))
end Go.Proofs.YtongccnhomncnaaGreatDoor.Cm
namespace Go.Azalai
def XQ (b:Breed) (c:Camel) (m:March):Camel × Int × Int :=
 if Uz b c≠0 then (Xq,0,Uz b c) else if Ya m=false then (Xq,0,12) else if (ZS b c m).2=2 then (Xq,0,13) else ((ZS b c m).1,(ZS b c m).2,0)
def ZfU (b:Breed) (c:Camel) (out:List Camel) (worst:Int):List March->List Camel × Int × Int × Int
 | []=>(out,worst,0,0)
 | m :: r=>if (ZS b c m).2=2 then ([],2,out.length,13) else ZfU b (ZS b c m).1 (out ++ [(ZS b c m).1]) (max worst (ZS b c m).2) r
def UD (b:Breed) (c:Camel) (l:List March):List Camel × Int × Int × Int:=if Zji b c l≠0 then ([],0,0,Zji b c l) else ZfU b c [] 0 l
end Go.Azalai
namespace Go.Proofs.YtongccnhomncnaaGreatDoor.Cm
open Go Go.Sx Go.Azalai
def Zms (e:Int) (l:List Camel):SV:=if e=0 then .sl false 7 (l.map camelL) else .v (.slice none 0 0)
def U8 (n:Int):SV:=.v (.int .u8 n)
theorem after1_ok (b:Breed) (c:Camel) (m:March):Cp 266 [.agg (breedL b),.agg (camelL c),.agg (marchL m)] (.tup [.agg (camelL (XQ b c m).1),U8 (XQ b c m).2.1,I (XQ b c m).2.2]):=by
 refine t266.1 (by simp [breedL,camelL,marchL]) (by simp [camelL,U8]) ?_;dsimp only [c266,r266,breedL,camelL,marchL,go_sem];refine call (checkCamel_ok b c) ?_;dsimp only [go_sem];by_cases h0:Uz b c=0
 case neg =>
  refine Zs (by simpa using h0) ?_;dsimp only [go_sem];simp [XQ,h0,Xq,U8,camelL]
 refine Zo (by simpa using h0) ?_;dsimp only [go_sem];obtain ⟨hb,hc⟩:=errC_0.1 h0;refine call (ZlA m true) ?_;dsimp only [go_sem];by_cases hm:Ya m=true
 case neg =>
  refine Zs (by simp [hm]) ?_;dsimp only [go_sem];simp [XQ,h0,hm,Xq,U8,camelL]
 refine Zo (by simp [hm]) ?_;dsimp only [go_sem];by_cases hd:(ZS b c m).2=2
 . refine call (ZdC b c m hb hc hm hd) ?_;dsimp only [ZG,Xq,go_sem];refine Zs (by decide) ?_;dsimp only [go_sem];simp [XQ,h0,hm,hd,Xq,U8,camelL]
 refine call (Zlk b c m hb hc hm hd) ?_;dsimp only [ZG,go_sem];refine Zo (by simpa using hd) ?_;dsimp only [go_sem];simp [XQ,h0,hm,hd,U8,camelL]
theorem ZuG {b:Breed} {c:Camel} {l:List March} (h0:Zji b c l=0):ZK b=true/\ZE b c=true/\l.length<=60/\l.all Ya=true:=by
 unfold Zji at h0;by_cases e1:Uz b c=0
 . obtain ⟨q1,q2⟩:=errC_0.1 e1;by_cases e2:l.length > 60
   . simp [e1,e2] at h0
   . by_cases e3:l.all Ya=true
     . exact ⟨q1,q2,by omega,e3⟩
     . simp only [e1,e2] at h0;simp at e3 h0;grind
 . simp [e1] at h0
end Go.Proofs.YtongccnhomncnaaGreatDoor.Cm
namespace Go.Azalai
structure Pack where
 kind:Int
 mass:Span
 hard:Span
 crumbs:Span
 leak:Span
 hurt:Int
 days:Int
deriving DecidableEq
structure Tied where
 left:List Int
 right:List Int
 top:List Int
deriving DecidableEq
def Zct (p:Pack):Bool :=
 if p.kind=1 then ZW 1 100000 p.hard && ZW 0 1000 p.crumbs && decide (p.leak=Z0)
 else if p.kind=2 then decide (p.hard=Z0) && decide (p.crumbs=Z0) && decide (p.leak=Z0)
 else decide (p.kind=3) && decide (p.hard=Z0) && decide (p.crumbs=Z0) && ZW 0 1000000 p.leak
def YB (p:Pack):Bool:=ZW 0 1000000 p.mass && inR 0 6000000 p.hurt && inR 0 100000 p.days && Zct p
def Xj (p:Pack):Span × Span × Int :=
 if p.kind=3 then (⟨max (p.mass.lo - p.leak.hi * p.days) 0,max (p.mass.hi - p.leak.lo * p.days) 0⟩,⟨min p.mass.lo (p.leak.lo * p.days),min p.mass.hi (p.leak.hi * p.days)⟩,0)
 else if p.kind=2\/p.hurt < p.hard.lo then (p.mass,Z0,0)
 else if p.hurt < p.hard.hi then (⟨(p.mass.lo * (1000 - p.crumbs.hi)).tdiv 1000,p.mass.hi⟩,⟨0,upF (p.mass.hi * p.crumbs.hi) 1000⟩,1)
 else (⟨(p.mass.lo * (1000 - p.crumbs.hi)).tdiv 1000,upF (p.mass.hi * (1000 - p.crumbs.lo)) 1000⟩,⟨(p.mass.lo * p.crumbs.lo).tdiv 1000,upF (p.mass.hi * p.crumbs.hi) 1000⟩,2)
def Y9 (n:Int):Int->List Int->Bool
 | _,[]=>true
 | last,x :: l=>inR (last+1) (n - 1) x && Y9 n x l
def Zap (t:Tied):List Int:=t.left ++ (t.right ++ t.top)
def ZeC (n:Int) (t:Tied):Bool :=
 Y9 n (-1) t.left && Y9 n (-1) t.right && Y9 n (-1) t.top && decide ((Zap t).length<=10) && decide (Zap t).Nodup
def Zgt (a b:Span):Span:=⟨a.lo+b.lo,a.hi+b.hi⟩
def zeroP:Pack:=⟨2,Z0,Z0,Z0,Z0,0,0⟩
def Um (l:List Pack) (i:Int):Span:=(Xj (l.getD i.toNat zeroP)).1
def Zfn (acc:Span):List Span->Span
 | []=>acc
 | s :: r=>Zfn (Zgt acc s) r
def Ys (l:List Pack) (q:List Int):Span:=Zfn Z0 (q.map (Um l))
def ZAE (a b:Span) (bound:Int):Int :=
 if -bound<=a.lo - b.hi/\a.hi - b.lo<=bound then 2 else if a.lo - b.hi > bound\/a.hi - b.lo < -bound then 0 else 1
def ZiK (l:List Pack) (t:Tied) (bound:Int):Int:=ZAE (Ys l t.left) (Ys l t.right) bound
def ZcW (can:Span) (l:List Pack) (t:Tied) (bound:Int):Int :=
 if (Ys l (Zap t)).lo > can.hi then 0 else if ZiK l t bound=2/\(Ys l (Zap t)).hi > can.lo then 1 else ZiK l t bound
theorem ZjZ {p:Pack} (h:YB p=true):0<=(Xj p).1.lo/\(Xj p).1.lo<=(Xj p).1.hi/\(Xj p).1.hi<=1000000:=by
 simp only [YB,ZW,inR,Bool.and_eq_true,decide_eq_true_eq] at h;obtain ⟨⟨⟨h1,h2⟩,h3⟩,h4⟩:=h;unfold Zct at h4;unfold Xj;split at h4
 . rename_i hk;rw [if_neg (by omega)];simp only [ZW,Bool.and_eq_true,decide_eq_true_eq] at h4;obtain ⟨⟨g1,g2⟩,g3⟩:=h4;have m1:0<=p.mass.lo * (1000 - p.crumbs.hi)/\p.mass.lo * (1000 - p.crumbs.hi)<=p.mass.lo * 1000:=⟨Int.mul_nonneg (by omega) (by omega),Int.mul_le_mul_of_nonneg_left (by omega) (by omega)⟩
   have m2:p.mass.lo * (1000 - p.crumbs.hi)<=p.mass.hi * (1000 - p.crumbs.lo):=Int.mul_le_mul (by omega) (by omega) (by omega) (by omega);have m3:0<=p.mass.hi * (1000 - p.crumbs.lo)/\p.mass.hi * (1000 - p.crumbs.lo)<=p.mass.hi * 1000:=⟨Int.mul_nonneg (by omega) (by omega),Int.mul_le_mul_of_nonneg_left (by omega) (by omega)⟩
   have e1:(p.mass.lo * (1000 - p.crumbs.hi)).tdiv 1000=p.mass.lo * (1000 - p.crumbs.hi) / 1000:=Int.tdiv_eq_ediv_of_nonneg m1.1;have e2:upF (p.mass.hi * (1000 - p.crumbs.lo)) 1000=(p.mass.hi * (1000 - p.crumbs.lo)+1000 - 1) / 1000:=Int.tdiv_eq_ediv_of_nonneg (by omega);rw [e1,e2];split
   . simp only;omega
   . split<;>(simp only;omega)
 . split at h4
   . rename_i hk hk2;rw [if_neg (by omega),if_pos (.inl hk2)];simp only;omega
   . rename_i hk hk2;simp only [ZW,Bool.and_eq_true,decide_eq_true_eq] at h4;obtain ⟨⟨⟨g0,g1⟩,g2⟩,g3⟩:=h4;rw [if_pos g0];have m1:0<=p.leak.lo * p.days:=Int.mul_nonneg (by omega) (by omega);have m2:p.leak.lo * p.days<=p.leak.hi * p.days:=Int.mul_le_mul_of_nonneg_right (by omega) (by omega);simp only;omega
theorem Zgx {l:List Pack} (h:l.all YB=true) (i:Int):0<=(Um l i).lo/\(Um l i).lo<=(Um l i).hi/\(Um l i).hi<=1000000:=by
 unfold Um;rw [List.getD_eq_getElem?_getD];by_cases hi:i.toNat < l.length
 . rw [List.getElem?_eq_getElem hi];exact ZjZ (List.all_eq_true.1 h _ (List.getElem_mem hi))
 . rw [List.getElem?_eq_none (by omega)];exact ZjZ (by decide)
theorem Znh {g:Int->Span} {M:Int} (hg:∀ i,0<=(g i).lo/\(g i).lo<=(g i).hi/\(g i).hi<=M):∀ (q:List Int) (acc:Span),0<=acc.lo->acc.lo<=acc.hi ->
 0<=(Zfn acc (q.map g)).lo/\(Zfn acc (q.map g)).lo<=(Zfn acc (q.map g)).hi/\(Zfn acc (q.map g)).hi<=acc.hi+q.length * M
 | [],acc,h0,h1=>by simp [Zfn,h0,h1]
 | i :: q,acc,h0,h1=>by
  have:=hg i;simp only [List.map_cons,Zfn];have ih:=Znh hg q (Zgt acc (g i)) (by simp only [Zgt];omega) (by simp only [Zgt];omega);refine ⟨ih.1,ih.2.1,Int.le_trans ih.2.2 ?_⟩;simp only [Zgt,List.length_cons]
  push_cast
  rw [Int.add_mul];omega
theorem ZgT {l:List Pack} (h:l.all YB=true) (q:List Int):0<=(Ys l q).lo/\(Ys l q).lo<=(Ys l q).hi/\(Ys l q).hi<=q.length * 1000000:=by
 have:=Znh (Zgx h) q Z0 (by decide) (by decide);simpa [Ys,Z0] using this
end Go.Azalai
namespace Go.Proofs.YtongccnhomncnaaGreatDoor.Ld
open Go Go.Sx Go.Azalai
abbrev U8 (n:Int):SV:=.v (.int .u8 n)
def Zx (p:Pack):Ls:=[U8 p.kind,I p.mass.lo,I p.mass.hi,I p.hard.lo,I p.hard.hi,I p.crumbs.lo,I p.crumbs.hi,I p.leak.lo,I p.leak.hi,I p.hurt,I p.days]
def Z2 (t:Tied):Ls:=[.sl false 1 (t.left.map Zk),.sl false 1 (t.right.map Zk),.sl false 1 (t.top.map Zk)]
end Go.Proofs.YtongccnhomncnaaGreatDoor.Ld
namespace Go.Sx
open Go Go.RowKit
section
variable {K V:Type} [DecidableEq K] {k k':K} {v v0:V} {c:Nat} {L:List (Nat × K × V)}
end
section
variable {P:Program} {K' V:Type} [DecidableEq K'] {key:K'->Value} {sv:K'->SV} {val:V->SV} {L:List (Nat × K' × V)} {km c:Nat} {kt et t ty:TypeId} {mx ix vx sx:Operand} {σ : St} {r:KT} {K:RK} {d:Option Nat} {k:K'}
end
section
variable {P:Program} {ty T T':TypeId} {ix jx:Operand} {σ : St} {r:KT} {K:RK} {d:Option Nat} {s:SV}
def ZeF (P:Program) (T:TypeId):Bool :=
 match P.underlying T with
 | some (.interface _)=>false
 | some _=>true
 | none=>false
theorem Zn0 (hT:ZeF P T=true) (hi:VL σ ix=s) (hg:∀ j b u,s≠.gd j b u) (h:YE d (.ifc T s) none σ r K):RAW P d (.makeInterface T ix) ty σ r K:=by
 intro o C E a w next Q e1 e2 e3 hS hn hq;have hiv:=Xv hS hi hg;have hx:(execOp a.eval o).run P w = .ok (.value (.iface T (a.eval ix))) w:=by
  obtain ⟨dst',op',ty',pos,after,guard⟩:=o;simp only at e2;subst e2;unfold ZeF at hT;cases hu:P.underlying T with
  | none=>rw [hu] at hT;cases hT
  | some u =>
   rw [hu] at hT;cases u<;>first | exact absurd hT Bool.false_ne_true | simp [execOp,Sem.run_bind,Instr.makeInterface,run_underlying hu,Result.andThen_ok,Sem.run_pure]
 refine ZC hx (by simp) ?_;show next (a.put o.dst _) _;rw [e1];refine Xy h hS ?_ hn;simp only [R];exact ⟨_,rfl,hiv⟩
theorem Zn9 (hi:VL σ ix = .ifc T s) (h:K (.pan (.ifc T s)) σ):RAW P d (.panic ix) ty σ r K:=by
 intro o C E a w next Q e1 e2 e3 hS hn hq;have hiv:=Xv hS hi (λ_ _ _=>by simp);simp only [R] at hiv;obtain ⟨x,hx,hR⟩:=hiv;have hy:(execOp a.eval o).run P w = .halt (.panic (.iface T x)) w:=by
  obtain ⟨dst',op',ty',pos,after,guard⟩:=o;simp only at e2;subst e2;simp [execOp,Sem.run_bind,hx,Instr.panic,goPanic,Result.andThen]
 exact ZjF hy (by rw [e2];simp) (hq _ _ _ _ _ h hS (by simp only [R];exact ⟨x,rfl,hR⟩))
theorem ZbN (hT:ZeF P T=true) (hi:VL σ ix = .ifc T s) (h:YE d (.tup [s,.v (.bool true)]) none σ r K):RAW P d (.typeAssert ix T' T true) ty σ r K:=by
 intro o C E a w next Q e1 e2 e3 hS hn hq;have hiv:=Xv hS hi (λ_ _ _=>by simp);simp only [R] at hiv;obtain ⟨x,hx,hR⟩:=hiv;have hy:(execOp a.eval o).run P w = .ok (.value (.tuple #[x,.bool true])) w:=by
  obtain ⟨dst',op',ty',pos,after,guard⟩:=o;simp only at e2;subst e2;unfold ZeF at hT;cases hu:P.underlying T with
  | none=>rw [hu] at hT;cases hT
  | some u =>
   rw [hu] at hT;cases u<;>first | exact absurd hT Bool.false_ne_true | simp [execOp,Sem.run_bind,hx,Instr.typeAssert,run_underlying hu,Result.andThen_ok,Sem.run_pure]
 refine ZC hy (by simp) ?_;show next (a.put o.dst _) _;rw [e1];refine Xy h hS ?_ hn;simp only [R,RL];exact ⟨_,rfl,_,_,rfl,hR,_,_,rfl,rfl,rfl⟩
end
def NK:Nat->Prop:=λ_=>False
theorem ZjQ {w:World} {E E':Env} {n n' ok:Nat->Prop}:∀ (l:List (Nat × Value × SV)) (ys:List MapEntry),(∀ e ∈ l,KF e.2.2)->RM w E n ok l ys->RM w E' n' ok l ys
 | [],ys,_,h=>by simp only [RM] at h ⊢;exact h
 | e :: l,ys,hk,h=>by
  simp only [RM] at h ⊢;obtain ⟨y,r,rfl,h1,h2⟩:=h;exact ⟨y,r,rfl,Zje _ _ (hk e (by simp)) h1,ZjQ l r (λe he=>hk e (by simp [he])) h2⟩
def mqV (es:List (Nat × Value × SV)):VP where
 f w ok y:=∃ b ys c,y = .map (some b)/\ok b/\w.heap[b]? = some (.map ys c)/\RM w E0 NK ok es ys.toList
 one:=by rintro w ok y ⟨b,ys,c,rfl,_⟩;rfl
 mono:=by
  rintro w w' ok ok' y hs ⟨b,ys,c,rfl,h1,h2,h3⟩;obtain ⟨k1,k2⟩:=hs b h1 (.inr ⟨_,_,h2⟩);exact ⟨b,ys,c,rfl,k1,k2.trans h2,Uk hs (λk hk=>hk.elim) (λk hk=>hk) _ _ h3⟩
theorem ZmU {P:Program} {f:FuncId} {args:Ls} {res:SV} {Zz:Ot->Prop} (h:CtM P f [] 0 args Zz) (ka:KFL args) (kr:KF res)
 (hp:∀ o,Zz o->o.pn=false/\∀ (C:Cx) E w y,(∀ k b,¬ C.pass k b)->HSim C E o.hp (ltn o.n) w->R w E (ltn o.n) (okS C E o.hp) o.res y->R w E0 NK (λb=>C.okp b\/C.w0.heap.size<=b) res y):Ct P f args res:=by
 refine ⟨h.bd,ka,kr,λw ok vs hGS hR=>?_⟩
 let C:Cx:=⟨w,ok,λ_ _=>False,[],none,E0,0,hGS,λ_ _ _ _ h=>h⟩
 have hS:HSim C E0 [] (ltn 0) w:=⟨λ_ _=>rfl,λ_=>trivial,λ_ _ _ h=>h.elim,λ_ _ h=>h.elim,⟨rfl,rfl,rfl,Nat.le_refl _,λ_ _ _=>rfl⟩,λk hk=>absurd hk (Nat.not_lt_zero k)⟩
 have hR':RL w E0 (ltn 0) (okS C E0 []) args vs:=ZL (E:=E0) (n:=λ_=>False) (λb hb _=>⟨⟨.inl hb,λk ho=>ho⟩,rfl⟩) (λ_ _=>Ele.rfl) (λk hk=>hk.elim) _ _ hR;refine (h.run C E0 w vs rfl rfl rfl rfl rfl (λk b h=>h.elim) Zcd hS hR').mono λe w' ⟨o,E',y,h1,h2,h3,h4⟩=>?_;obtain ⟨q1,q2⟩:=hp o h1;refine ⟨y,by rw [h4,q1];rfl,q2 C E' w' y (λ_ _ h=>h) h2 h3,⟨h2.kp.os,h2.kp.tape,h2.kp.output,h2.kp.size,λb hb=>h2.kp.block b hb (λk hk=>hk)⟩⟩
theorem mq_of {C:Cx} {E:Env} {hp:Lh} {n:Nat->Prop} {w:World} {k c:Nat} {es:List (Nat × Value × SV)} {y:Value} (hpass:∀ k b,¬ C.pass k b) (hs:HSim C E hp n w) (hk:lkh k hp = .map es c) (hkf:∀ e ∈ es,KF e.2.2)
 (hR:R w E n (okS C E hp) (.mp k) y):R w E0 NK (λb=>C.okp b\/C.w0.heap.size<=b) (.q (mqV es)) y:=by
 simp only [R] at hR ⊢;have hb:=hs.bk k;rw [hk] at hb;obtain ⟨ys,h1,h2⟩:=hb;have hlo:C.w0.heap.size<=E.β k:=by
  rcases hs.lo k (E.β k) (by rw [hk];rfl) with h | h
  . exact h
  . exact absurd h (hpass _ _)
 refine ⟨E.β k,ys,c,hR.2,.inr hlo,h1,ZjQ _ _ hkf (Uk (n':=n) (E':=E) (λb hb _=>⟨hb.1,rfl⟩) (λ_ _=>Ele.rfl) (λ_ h=>h) _ _ h2)⟩
section
variable {K V:Type} [DecidableEq K] {P:Program} {key:K->Value} {sv:K->SV} {val:V->SV} {L:List (Nat × K × V)} {km c:Nat} {kt et t:TypeId} {σ : St} {k:K} {i j:Nat} {ok:Bool} {zs:SV} {z:Value} {v:V}
theorem Ztq {g:Option (Nat × Bool)} {fr:Lf} {s:SV} (h:∀ j b u,s≠.gd j b u):Xl g fr s=s:=by
 cases s<;>first | rfl | exact absurd rfl (h _ _ _)
theorem Zid {w:World} {E:Env} {n ok':Nat->Prop} {b:Nat} {ys:Array MapEntry} (g1:w.heap[b]? = some (.map ys c)) (g2:RM w E n ok' (mpS key val L) ys.toList) (ht:P.underlying t=some (.map kt et)) (hK:KeyT P kt key sv)
 (hz:YN P et=some z) :
 (Xk k L=none/\(Instr.lookup t (.map (some b)) (key k) ok).run P w = .ok (if ok then .tuple #[z,.bool false] else z) w) \/
 ∃ v y,Xk k L=some v/\(Instr.lookup t (.map (some b)) (key k) ok).run P w = .ok (if ok then .tuple #[y,.bool true] else y) w/\R w E n ok' (val v) y:=by
 have hfn:=λw=>hK.fnd k _ _ w (Zaz g2);rcases Zau (w:=w) (E:=E) (n:=n) (ok:=ok') k L ys.toList 0 g2 with ⟨a1,a2,-,-⟩ | ⟨j,v,e,b1,b2,b3,b4,b5,-⟩
 . left;refine ⟨a1,?_⟩;simp only [Instr.lookup,Sem.run_bind,run_underlying ht,Result.andThen_ok,Yn g1 rfl,Sem.run_pure,hK.chk,hfn,a2,WN hz]
 . right;refine ⟨v,e.val,b1,?_,b5⟩;simp only [Instr.lookup,Sem.run_bind,run_underlying ht,Result.andThen_ok,Yn g1 rfl,Sem.run_pure,hK.chk,hfn,b2]
def lkS (ok:Bool) (val:V->SV) (zs:SV):Option V->SV
 | some v=>bif ok then .tup [val v,.v (.bool true)] else val v
 | none=>bif ok then .tup [zs,.v (.bool false)] else zs
theorem rv_of {w:World} {E:Env} {n ok':Nat->Prop} {b:Nat} {ys:Array MapEntry} {o:Oper} {a:Act} {next:Act->World->Prop} {Q:Exit->Act->World->Prop} {rr:Option Nat} (ho:o.op = .lookup t (.tmp i) (.tmp j) ok)
 (g1:w.heap[b]? = some (.map ys c)) (g2:RM w E n ok' (mpS key val L) ys.toList) (ht:P.underlying t=some (.map kt et)) (hK:KeyT P kt key sv) (hz:YN P et=some z) (hzR:∀ w E n ok,R w E n ok zs z)
 (hm:a.tmps.getD i undef = .map (some b)) (hi:a.tmps.getD j undef=key k) (hn:∀ y,R w E n ok' (lkS ok val zs (Xk k L)) y->next (a.put o.dst y) w):o.wpq rr P a w next Q:=by
 obtain ⟨dst',op',ty',pos,after,guard⟩:=o;simp only at ho;subst ho;rcases Zid (ok:=ok) (k:=k) g1 g2 ht hK hz with ⟨q1,q2⟩ | ⟨v,y,q1,q2,q3⟩
 . refine ZC (x:=.value (if ok then .tuple #[z,.bool false] else z)) (w':=w) ?_ (by simp) ?_
   . show (execOp a.eval _).run P w=_;simp only [execOp,Act.eval,hm,hi,Sem.run_bind,q2,Result.andThen_ok,Sem.run_pure]
   . refine hn _ ?_;rw [q1];cases ok
     . exact hzR _ _ _ _
     . simp only [lkS,cond_true,if_true,R,RL];exact ⟨_,rfl,_,_,rfl,hzR _ _ _ _,_,_,rfl,rfl,rfl⟩
 . refine ZC (x:=.value (if ok then .tuple #[y,.bool true] else y)) (w':=w) ?_ (by simp) ?_
   . show (execOp a.eval _).run P w=_;simp only [execOp,Act.eval,hm,hi,Sem.run_bind,q2,Result.andThen_ok,Sem.run_pure]
   . refine hn _ ?_;rw [q1];cases ok
     . exact q3
     . simp only [lkS,cond_true,if_true,R,RL];exact ⟨_,rfl,_,_,rfl,q3,_,_,rfl,rfl,rfl⟩
theorem ZnX (hm:lk i σ.fr = .q (mqV (mpS key val L))) (hkf:∀ e ∈ mpS key val L,KF e.2.2) (hi:lk j σ.fr=sv k) (ht:P.underlying t=some (.map kt et)) (hK:KeyT P kt key sv) (hz:YN P et=some z) (hzR:∀ w E n ok,R w E n ok zs z) :
 RBE P (.lookup t (.tmp i) (.tmp j) ok) [.t i,.t j] σ (lkS ok val zs (Xk k L)):=by
 intro o ho C E hpX nX a w next Q hx hS hR hn;have h1:=hR (.t i) (by simp);have h2:=hR (.t j) (by simp);simp only [rdG,rd,hm,Xl,evX] at h1;simp only [rdG,rd,hi,evX] at h2;rw [Ztq (Zgw hK k)] at h2;have h2:=(hK.svR k _).1 h2;simp only [R] at h1;obtain ⟨b,ys,c,e1,e2,e3,e4⟩:=h1;exact rv_of (E:=E) (n:=nX) (ok':=okS C E hpX) ho e3 (ZjQ _ _ hkf e4) ht hK hz hzR e1 h2 λy hy=>hn w y hS (λb hb _=>⟨hb,rfl⟩) hy
end
end Go.Sx
namespace Go.Proofs.YtongccnhomncnaaGreatDoor.Ld
open Go Go.Sx Go.Azalai
theorem ZvW (lo hi x:Int):Cp 138 [I x,.ps [I lo] 0,.ps [I hi] 0] (B (!inR lo hi x)):=by
 refine t138.1 (by simp) (by simp) ?_;dsimp only [c138,r138,go_sem];repeat (refine gb ?_;dsimp only [go_sem])
 (simp only [inR,Option.some.injEq,SV.v.injEq,Value.bool.injEq]<;>grind)
theorem Zmn (lo hi:Int) (l:List Int) (hl:l.length < 4611686018427387904) (c:Bool):Cp 81 [I lo,I hi,.sl c 1 (l.map Zk)] (B (l.all (inR lo hi))):=by
 refine t81.1 (by simp [Za,Zk]) (by simp) ?_;dsimp only [c81,r81,go_sem];refine WM (by simp [FLT]) (res:=B (l.any λx=>!inR lo hi x)) ?_ ?_
 . dsimp only [go_sem];exact ZqJ 138 [.ps [I lo] 0,.ps [I hi] 0] (by simp) (λx=>!inR lo hi x) l (λx _=>ZvW lo hi x) hl
 . dsimp only [go_sem];simp [List.all_eq_not_any_not]
theorem inL1 (lo hi a:Int) (c:Bool):Cp 81 [I lo,I hi,.sl c 1 [[I a]]] (B (inR lo hi a)):=by
 have:=Zmn lo hi [a] (by simp) c;simpa [Zk] using this
theorem inL2 (lo hi a b:Int) (c:Bool):Cp 81 [I lo,I hi,.sl c 1 [[I a],[I b]]] (B (inR lo hi a && inR lo hi b)):=by
 have:=Zmn lo hi [a,b] (by simp) c;simpa [Zk] using this
theorem ZaA (lo hi:Int) (s:Span):Cp 131 [.agg (Ze s),I lo,I hi] (B (ZW lo hi s)):=by
 refine t131.1 (by simp [Ze]) (by simp) ?_;dsimp only [c131,r131,Ze,go_sem];repeat (first | (refine gb ?_;dsimp only [go_sem]) | (refine call (inL2 _ _ _ _ _) ?_;dsimp only [go_sem]))
 (simp only [ZW,inR,Option.some.injEq,SV.v.injEq,Value.bool.injEq]<;>grind)
theorem ZdZ (m n:Int) (h0:0<=m * n) (h1:m * n<=1000000000):Cp 268 [I m,I n] (.tup [I ((m * n).tdiv 1000),I (upF (m * n) 1000)]):=by
 refine t268.1 (by simp) (by simp) ?_;dsimp only [c268,r268,go_sem];rw [Zf (n:=m * n) (by omega) (by omega)];refine Zjh (by decide) ?_;dsimp only [go_sem];refine Zjh (by decide) ?_;dsimp only [go_sem];have e1:(m * n).tdiv 1000=m * n / 1000:=Int.tdiv_eq_ediv_of_nonneg h0;have e2:(m * n+1000 - 1).tdiv 1000=(m * n+1000 - 1) / 1000:=Int.tdiv_eq_ediv_of_nonneg (by omega);simp (disch:=omega) only [Zf];rw [upF]
def Zam (p:Pack):SV:=.tup [.agg (Ze (Xj p).1),.agg (Ze (Xj p).2.1),U8 (Xj p).2.2]
structure PackB (p:Pack):Prop where
 m0:0<=p.mass.lo
 m1:p.mass.lo<=p.mass.hi
 m2:p.mass.hi<=1000000
 u0:0<=p.hurt
 d0:0<=p.days
 d1:p.days<=100000
theorem ZCL {p:Pack} (h:YB p=true):PackB p:=by
 simp only [YB,ZW,inR,Bool.and_eq_true,decide_eq_true_eq] at h;exact ⟨by omega,by omega,by omega,by omega,by omega,by omega⟩
theorem Zyx (p:Pack) (hk:p.kind=2):Cp 207 [.agg (Zx p)] (Zam p):=by
 refine t207.1 (by simp [Zx]) (by simp [Zam,Ze]) ?_;dsimp only [c207,r207,Zx,go_sem];have:Xj p=(p.mass,Z0,0):=by unfold Xj;rw [if_neg (by omega),if_pos (.inl hk)]
 rw [Zam,this];rfl
theorem ZvF (p:Pack) (h:YB p=true) (hk:p.kind=1):Cp 205 [.agg (Zx p)] (Zam p):=by
 have hb:=ZCL h;simp only [YB,Zct,if_pos hk,ZW,Bool.and_eq_true,decide_eq_true_eq] at h;obtain ⟨_,⟨g1,g2⟩,g3⟩:=h;obtain ⟨m0,m1,m2,u0,d0,d1⟩:=hb;have q1:0<=p.mass.lo * (1000 - p.crumbs.hi)/\p.mass.lo * (1000 - p.crumbs.hi)<=1000000 * 1000:=⟨Int.mul_nonneg (by omega) (by omega),Int.mul_le_mul (by omega) (by omega) (by omega) (by omega)⟩
 have q2:0<=p.mass.hi * p.crumbs.hi/\p.mass.hi * p.crumbs.hi<=1000000 * 1000:=⟨Int.mul_nonneg (by omega) (by omega),Int.mul_le_mul (by omega) (by omega) (by omega) (by omega)⟩
 have q3:0<=p.mass.hi * (1000 - p.crumbs.lo)/\p.mass.hi * (1000 - p.crumbs.lo)<=1000000 * 1000:=⟨Int.mul_nonneg (by omega) (by omega),Int.mul_le_mul (by omega) (by omega) (by omega) (by omega)⟩
 have q4:0<=p.mass.lo * p.crumbs.lo/\p.mass.lo * p.crumbs.lo<=1000000 * 1000:=⟨Int.mul_nonneg (by omega) (by omega),Int.mul_le_mul (by omega) (by omega) (by omega) (by omega)⟩
 refine t205.1 (by simp [Zx]) (by simp [Zam,Ze]) ?_;dsimp only [c205,r205,Zx,go_sem];by_cases h1:p.hurt < p.hard.lo
 . refine Zs (by simpa using h1) ?_;dsimp only [go_sem];have:Xj p=(p.mass,Z0,0):=by unfold Xj;rw [if_neg (by omega),if_pos (.inr h1)]
   rw [Zam,this];rfl
 refine Zo (by simpa using h1) ?_;dsimp only [go_sem];rw [Zf (n:=1000 - p.crumbs.hi) (by omega) (by omega)];refine call (ZdZ _ _ q1.1 (by omega)) ?_;dsimp only [go_sem];refine call (ZdZ _ _ q2.1 (by omega)) ?_;dsimp only [go_sem];by_cases h2:p.hurt < p.hard.hi
 . refine Zs (by simpa using h2) ?_;dsimp only [go_sem];have:Xj p=(⟨(p.mass.lo * (1000 - p.crumbs.hi)).tdiv 1000,p.mass.hi⟩,⟨0,upF (p.mass.hi * p.crumbs.hi) 1000⟩,1):=by unfold Xj;rw [if_neg (by omega),if_neg (by omega),if_pos h2]
   rw [Zam,this];rfl
 refine Zo (by simpa using h2) ?_;dsimp only [go_sem];rw [Zf (n:=1000 - p.crumbs.lo) (by omega) (by omega)];refine call (ZdZ _ _ q3.1 (by omega)) ?_;dsimp only [go_sem];refine call (ZdZ _ _ q4.1 (by omega)) ?_;dsimp only [go_sem];have:Xj p=(⟨(p.mass.lo * (1000 - p.crumbs.hi)).tdiv 1000,upF (p.mass.hi * (1000 - p.crumbs.lo)) 1000⟩,⟨(p.mass.lo * p.crumbs.lo).tdiv 1000,upF (p.mass.hi * p.crumbs.hi) 1000⟩,2):=by unfold Xj;rw [if_neg (by omega),if_neg (by omega),if_neg h2]
 rw [Zam,this];rfl
theorem Zzs (p:Pack) (h:YB p=true) (hk:p.kind=3):Cp 209 [.agg (Zx p)] (Zam p):=by
 have hb:=ZCL h;simp only [YB,Zct,if_neg (show ¬ p.kind=1 by omega),if_neg (show ¬ p.kind=2 by omega),ZW,Bool.and_eq_true,decide_eq_true_eq] at h;obtain ⟨_,⟨⟨g0,g1⟩,g2⟩,g3⟩:=h;obtain ⟨m0,m1,m2,u0,d0,d1⟩:=hb;have q1:0<=p.leak.lo * p.days/\p.leak.lo * p.days<=1000000 * 100000:=⟨Int.mul_nonneg (by omega) (by omega),Int.mul_le_mul (by omega) (by omega) (by omega) (by omega)⟩
 have q2:0<=p.leak.hi * p.days/\p.leak.hi * p.days<=1000000 * 100000:=⟨Int.mul_nonneg (by omega) (by omega),Int.mul_le_mul (by omega) (by omega) (by omega) (by omega)⟩
 refine t209.1 (by simp [Zx]) (by simp [Zam,Ze]) ?_;dsimp only [c209,r209,Zx,go_sem];simp (disch:=omega) only [Zf];have:Xj p=(⟨max (p.mass.lo - p.leak.hi * p.days) 0,max (p.mass.hi - p.leak.lo * p.days) 0⟩,⟨min p.mass.lo (p.leak.lo * p.days),min p.mass.hi (p.leak.hi * p.days)⟩,0):=by unfold Xj;rw [if_pos hk]
 rw [Zam,this];rfl
theorem ZtE (p:Pack):Cp 204 [.agg (Zx p)] (B (ZW 1 100000 p.hard && ZW 0 1000 p.crumbs && decide (p.leak=Z0))):=by
 refine t204.1 (by simp [Zx]) (by simp) ?_;dsimp only [c204,r204,Zx,go_sem];repeat (first | (refine gb ?_;dsimp only [go_sem]) | (refine call (ZaA _ _ ⟨_,_⟩) ?_;dsimp only [Ze,go_sem]))
 rw [show (decide (p.leak=Z0))=(decide (p.leak.lo=0) && decide (p.leak.hi=0)) from by rw [Bool.eq_iff_iff];obtain ⟨_,_,_,_,⟨a,b⟩,_,_⟩:=p;simp [Z0]]
 (simp only [Option.some.injEq,SV.v.injEq,Value.bool.injEq]<;>grind)
theorem ZtW (p:Pack):Cp 206 [.agg (Zx p)] (B (decide (p.hard=Z0) && decide (p.crumbs=Z0) && decide (p.leak=Z0))):=by
 refine t206.1 (by simp [Zx]) (by simp) ?_;dsimp only [c206,r206,Zx,go_sem];repeat (refine gb ?_;dsimp only [go_sem])
 have e:∀ s:Span,decide (s=Z0)=(decide (s.lo=0) && decide (s.hi=0)):=λs=>by rw [Bool.eq_iff_iff];obtain ⟨a,b⟩:=s;simp [Z0]
 rw [e,e,e]
 (simp only [Option.some.injEq,SV.v.injEq,Value.bool.injEq]<;>grind)
theorem ZrD (p:Pack):Cp 208 [.agg (Zx p)] (B (decide (p.hard=Z0) && decide (p.crumbs=Z0) && ZW 0 1000000 p.leak)):=by
 refine t208.1 (by simp [Zx]) (by simp) ?_;dsimp only [c208,r208,Zx,go_sem];repeat (first | (refine gb ?_;dsimp only [go_sem]) | (refine call (ZaA _ _ ⟨_,_⟩) ?_;dsimp only [Ze,go_sem]))
 have e:∀ s:Span,decide (s=Z0)=(decide (s.lo=0) && decide (s.hi=0)):=λs=>by rw [Bool.eq_iff_iff];obtain ⟨a,b⟩:=s;simp [Z0]
 rw [e,e]
 (simp only [Option.some.injEq,SV.v.injEq,Value.bool.injEq]<;>grind)
theorem ZBQ:Tryz.prog.underlying 252=some (.map 5 250):=by kernel_rfl
theorem u5:Tryz.prog.underlying 5=some (.int .u8):=by kernel_rfl
theorem ZCl:KeyT Tryz.prog 5 (λn:Int=>.int .u8 n) (λn=>.v (.int .u8 n)):=Zne u5
theorem ZjA:YN Tryz.prog 250=some (.agg #[.nilFunc,.nilFunc]):=by kernel_rfl
abbrev kB:Int->Value:=λn=>.int .u8 n
abbrev Sd2:=FuncId × FuncId
def Zb6 (v:Sd2):SV:=.agg [.cl v.1 [],.cl v.2 []]
def Yz:List (Nat × Int × Sd2):=[(0,1,(204,205)),(1,2,(206,207)),(2,3,(208,209))]
abbrev ZBy:SV:=.q (mqV (mpS kB Zb6 Yz))
theorem UH:∀ e ∈ mpS kB Zb6 Yz,KF e.2.2:=by
 intro e he;obtain ⟨x,_,rfl⟩:=List.mem_map.1 he;simp [Zb6,KF,KFL]
theorem ks0:V7 0 (1:Int) (204,205) (Yz.take 0)=Yz.take 1/\ZaS 0 (1:Int) (Yz.take 0)=1:=⟨rfl,rfl⟩
theorem ks1:V7 1 (2:Int) (206,207) (Yz.take 1)=Yz.take 2/\ZaS 1 (2:Int) (Yz.take 1)=2:=⟨rfl,rfl⟩
theorem ks2:V7 2 (3:Int) (208,209) (Yz.take 2)=Yz.take 3/\ZaS 2 (3:Int) (Yz.take 2)=3:=⟨rfl,rfl⟩
theorem ZkQ:Cq 130 [] 0 [] (λo=>o=⟨false,.mp 0,[(0,.map (mpS kB Zb6 Yz) 3)],1⟩):=by
 refine m130 (by simp [hpb]) (λo ho=>by subst ho;exact ⟨by simp [KX],by simp only [KXP,KXH,and_true];exact UH⟩) ?_;dsimp only [c130,r130,go_sem];refine Vp rfl rfl rfl ?_;dsimp only [go_sem];refine Wu (key:=kB) (val:=Zb6) (sv:=λn=>.v (kB n)) (L:=Yz.take 0) (k:=1) (v:=(204,205)) (ins:=true) rfl rfl ZBQ ZCl rfl rfl (λ_ _ _ e=>by cases e) ?_;rw [ks0.1,ks0.2];dsimp only [go_sem];refine Wu (key:=kB) (val:=Zb6) (sv:=λn=>.v (kB n)) (L:=Yz.take 1) (k:=2) (v:=(206,207)) (ins:=true) rfl rfl ZBQ ZCl rfl rfl (λ_ _ _ e=>by cases e) ?_
 rw [ks1.1,ks1.2];dsimp only [go_sem];refine Wu (key:=kB) (val:=Zb6) (sv:=λn=>.v (kB n)) (L:=Yz.take 2) (k:=3) (v:=(208,209)) (ins:=true) rfl rfl ZBQ ZCl rfl rfl (λ_ _ _ e=>by cases e) ?_;rw [ks2.1,ks2.2];dsimp only [go_sem];refine ⟨_,rfl,?_⟩;rw [show Yz.take 3=Yz from rfl];refine Zw ?_ ?_ ?_ rfl
 . dsimp only [id,go_sem];exact ⟨by omega,rfl⟩
 . dsimp only [id,go_sem];exact ⟨⟨rfl,UH⟩,trivial⟩
 . dsimp only [id,go_sem];exact ⟨by omega,trivial⟩
theorem Zg0:Cp 130 [] ZBy:=by
 refine ZmU ZkQ trivial trivial ?_;rintro o rfl;exact ⟨rfl,λC E w y h1 h2 h3=>mq_of h1 h2 rfl UH h3⟩
theorem Zmq {p:Pack} {v:Sd2} (h:Xk p.kind Yz=some v):Cp v.1 [.agg (Zx p)] (B (Zct p))/\(YB p=true->Cp v.2 [.agg (Zx p)] (Zam p)):=by
 simp only [Xk,Yz] at h;split at h
 . rename_i q;cases h;have:=ZtE p;rw [Zct,if_pos q.symm];exact ⟨this,λg=>ZvF p g q.symm⟩
 split at h
 . rename_i q;cases h;have:=ZtW p;rw [Zct,if_neg (by omega),if_pos q.symm];exact ⟨this,λg=>Zyx p q.symm⟩
 split at h
 . rename_i q;cases h;have:=ZrD p;rw [Zct,if_neg (by omega),if_neg (by omega),decide_eq_true q.symm,Bool.true_and];exact ⟨this,λg=>Zzs p g q.symm⟩
 . cases h
theorem Zlt {p:Pack} (h:Xk p.kind Yz=none):Zct p=false:=by
 rw [Y5] at h;have h1:¬ p.kind=1:=λe=>h _ (by simp [Yz];exact .inl rfl) e.symm;have h2:¬ p.kind=2:=λe=>h _ (by simp [Yz];exact .inr (.inl rfl)) e.symm;have h3:¬ p.kind=3:=λe=>h _ (by simp [Yz];exact .inr (.inr rfl)) e.symm;simp [Zct,h1,h2,h3]
abbrev zk:SV:=.agg [.v .nilFunc,.v .nilFunc]
theorem zk_R:∀ w E n ok,R w E n ok zk (.agg #[.nilFunc,.nilFunc]):=λw E n ok=>by
 simp only [R,RL];exact ⟨_,rfl,_,_,rfl,rfl,_,_,rfl,rfl,rfl⟩
theorem Zef (p:Pack):Cp 76 [.agg (Zx p)] (B (YB p)):=by
 refine t76.1 (by simp [Zx]) (by simp) ?_;dsimp only [c76,r76,Zx,go_sem];refine call Zg0 ?_;dsimp only [go_sem];have hrv:=λσ h1 h2=>ZnX (P:=Tryz.prog) (t:=252) (σ:=σ) (i:=6) (j:=8) (ok:=true) (key:=kB) (val:=Zb6) (sv:=λn=>.v (kB n)) (L:=Yz) (k:=p.kind) (zs:=zk) h1 UH h2 ZBQ ZCl ZjA zk_R;cases hg:Xk p.kind Yz with
 | none =>
  refine ⟨_,hrv _ rfl rfl,?_⟩;rw [hg];dsimp only [lkS,go_sem];repeat (refine Xu (by decide) ?_;dsimp only [go_sem])
  have:=Zlt hg;simp [YB,this]
 | some v =>
  obtain ⟨k1,-⟩:=Zmq (p:=p) hg;refine ⟨_,hrv _ rfl rfl,?_⟩;rw [hg];dsimp only [lkS,Zb6,go_sem];repeat (first | (refine gb ?_;dsimp only [go_sem]) | (refine call (ZaA _ _ p.mass) ?_;dsimp only [Ze,go_sem]) | (refine call (inL1 _ _ _ _) ?_;dsimp only [go_sem]) | (refine call k1 ?_;dsimp only [go_sem]))
  (simp only [YB,Option.some.injEq,SV.v.injEq,Value.bool.injEq]<;>grind)
theorem ZqT (p:Pack) (h:YB p=true):Cp 82 [.agg (Zx p)] (.tup [.agg (Ze (Xj p).1),.agg (Ze (Xj p).2.1),U8 (Xj p).2.2,I 0]):=by
 refine t82.1 (by simp [Zx]) (by simp [Ze]) ?_;dsimp only [c82,r82,Zx,go_sem];refine call (Zef p) ?_;rw [h];dsimp only [go_sem];refine Zo rfl ?_;dsimp only [go_sem];refine call Zg0 ?_;dsimp only [go_sem];have hrv:=λσ h1 h2=>ZnX (P:=Tryz.prog) (t:=252) (σ:=σ) (i:=12) (j:=14) (ok:=false) (key:=kB) (val:=Zb6) (sv:=λn=>.v (kB n)) (L:=Yz) (k:=p.kind) (zs:=zk) h1 UH h2 ZBQ ZCl ZjA zk_R;cases hg:Xk p.kind Yz with
 | none =>
  have:=Zlt hg;simp [YB,this] at h
 | some v =>
  obtain ⟨-,k1⟩:=Zmq (p:=p) hg;refine ⟨_,hrv _ rfl rfl,?_⟩;rw [hg];dsimp only [lkS,Zb6,go_sem];refine call (k1 h) ?_;dsimp only [Zam,Ze,go_sem]
end Go.Proofs.YtongccnhomncnaaGreatDoor.Ld
namespace Go.Sx
open Go Go.RowKit
section
variable {P:Program} {σ : St} {r:KT} {K:RK} {T t ty:TypeId} {m:Nat}
theorem UO {ax:Operand} {d:Option Nat} (hx:VL σ ax = .v (.slice none 0 0)) (ht:P.underlying t=some (.slice T)) (h:YE d (.v (.int .i64 0)) none σ r K) :
 RAW P d (.call ⟨.builtin .cap,#[ax],#[t]⟩) ty σ r K:=by
 intro o C E a w next Q e1 e2 e3 hS hn hq;have hxv:=Xv hS hx (λ_ _ _=>by simp);simp only [R] at hxv;have hrun:(Builtin.cap_ #[t] ty #[a.eval ax]).run P w = .ok (.int .i64 0) w:=by
  rw [hxv];simp [Builtin.cap_,Sem.run_bind,run_underlying ht,goInt]
 have hx:(execOp a.eval o).run P w = .ok (.value (.int .i64 0)) w:=by
  obtain ⟨dst',op',ty',pos,after,guard⟩:=o;simp only at e2 e3;subst e2;subst e3;simp [execOp,resolve,invoke,builtin,hrun]
 refine ZC hx (by simp) ?_;show next (a.put o.dst _) _;rw [e1];exact Xy h hS (by simp only [R]) hn
theorem US {ax:Operand} {d:Option Nat} (hx:VL σ ax = .v (.slice none 0 0)) (ht:P.underlying t=some (.slice T)) (h:YE d (.v (.int .i64 0)) none σ r K) :
 RAW P d (.call ⟨.builtin .len,#[ax],#[t]⟩) ty σ r K:=by
 intro o C E a w next Q e1 e2 e3 hS hn hq;have hxv:=Xv hS hx (λ_ _ _=>by simp);simp only [R] at hxv;have hrun:(Builtin.len_ #[t] ty #[a.eval ax]).run P w = .ok (.int .i64 0) w:=by
  rw [hxv];simp [Builtin.len_,Sem.run_bind,run_underlying ht,goInt]
 have hx:(execOp a.eval o).run P w = .ok (.value (.int .i64 0)) w:=by
  obtain ⟨dst',op',ty',pos,after,guard⟩:=o;simp only at e2 e3;subst e2;subst e3;simp [execOp,resolve,invoke,builtin,hrun]
 refine ZC hx (by simp) ?_;show next (a.put o.dst _) _;rw [e1];exact Xy h hS (by simp only [R]) hn
theorem Zg2 {w:World} {ad:Option Addr} {len cap:Nat} (ht:P.underlying t=some (.slice T)) (hm:XT P T=some m) :
 (Instr.sliceAt t (.slice ad len cap) none (some (.int .i64 0)) none).run P w = .ok (.slice (if cap=0 then ad else ad.map (·.add (0 * m))) 0 cap) w:=by
 rw [XF _ _ _ _ ht];simp [Instr.slice,Instr.sliceBounds,Instr.sliceBound,Sem.run_bind,run_underlying ht,Yb hm,asInt,asIntOf]
theorem Zl7 {ax ay:Operand} {d:Option Nat} (hx:VL σ ax = .v (.slice none 0 0)) (hy:VL σ ay = .v (.int .i64 0)) (ht:P.underlying t=some (.slice T)) (hm:XT P T=some m) (h:YE d (.v (.slice none 0 0)) none σ r K) :
 RAW P d (.slice t ax none (some ay) none) ty σ r K:=by
 intro o C E a w next Q e1 e2 e3 hS hn hq;have hxv:=Xv hS hx (λ_ _ _=>by simp);have hyv:=Xv hS hy (λ_ _ _=>by simp);simp only [R] at hxv hyv;have hx:(execOp a.eval o).run P w = .ok (.value (.slice none 0 0)) w:=by
  obtain ⟨dst',op',ty',pos,after,guard⟩:=o;simp only at e2 e3;subst e2;simp [execOp,Sem.run_bind,hxv,hyv,Zg2 ht hm]
 refine ZC hx (by simp) ?_;show next (a.put o.dst _) _;rw [e1];exact Xy h hS (by simp only [R]) hn
theorem Zjy {w:World} {E:Env} {k ok:Nat->Prop} {z:Value}:∀ n:Nat,RL w E k ok (List.replicate n [SV.v z]).flatten (List.replicate n z)
 | 0=>by simp [RL]
 | n+1=>by simp only [List.replicate_succ,List.flatten_cons,List.singleton_append,RL];exact ⟨_,_,rfl,by simp only [R],Zjy n⟩
theorem Zqh {ax ay:Operand} {u n:Nat} {tn:TypeId} {i:TypeInfo} {z:Value} (hx:VL σ ax = .v (.slice none 0 0)) (hy:VL σ ay = .v (.int .i64 n)) (h1:Xw u σ.gs=false) (h2:Nat.blt u σ.N=true)
 (ht:P.underlying t=some (.slice T)) (htn:P.underlying tn=some (.int .i64)) (hi:P.info? T=some i) (hz:i.zero=some z) (hs:i.size=1) (hz1:z.oneCell'=true) (h0:0 < n) (hb:n * i.bytes<=140737488355328) (hn6:n<=4611686018427387904)
 (h:r ⟨(u,.mr σ.n 0) :: σ.fr,(σ.n,.row 0 1 (List.replicate n [.v z]) T) :: σ.hp,σ.n+1,σ.N,σ.gs⟩ K) :
 RAW P (some u) (.call ⟨.builtin .append,#[ax,ay],#[t,tn]⟩) ty σ r K:=by
 intro o C E a w next Q e1 e2 e3 hS hn hq;have hxv:=Xv hS hx (λ_ _ _=>by simp);have hyv:=Xv hS hy (λ_ _ _=>by simp);simp only [R] at hxv hyv;have hz':z.cells = #[z]:=Zcy hz1;have hnx:Builtin.nextslicecap (0+n) 0=n:=by simp [Builtin.nextslicecap,h0]
 have hrun:=Lib.run_append_grow_zeros (P:=P) w t tn ty T i z .i64 .i64 ht htn hi hz none 0 0 [] (run_firstCells_none w.drew i.size 0 0 0) n h0 (by omega) (by omega) (by omega) (by omega) (by rw [hnx];omega);generalize hcap:grownCap w (0+n) 0 T=cap at hrun;have hcl:n<=cap:=by
  have:=grownCap_ge w (0+n) 0 T;omega
 let cs:Array Value:=(([]:LZ).toArray ++ Builtin.zeroCells z.cells n ++ Builtin.zeroCells z.cells (cap - (0+n)))
 have hzc:∀ k,Builtin.zeroCells z.cells k=Array.replicate k z:=by
  intro k;apply Array.toList_inj.1;rw [hz'];simp [Builtin.zeroCells]
  exact List.eq_replicate_iff.2 ⟨by simp,λb hb=>by
   obtain ⟨i,_,rfl⟩:=List.mem_map.1 hb
   simp [Nat.mod_one]⟩
 have hcs:cs=Array.replicate cap z:=by
  simp only [cs,hzc];apply Array.toList_inj.1;simp;omega
 have hbel:Below w.heap.size w (w.drew.alloc (.cells cs T)):=((Below.refl _ _).drew).alloc (Nat.le_refl _) _;obtain ⟨E',k1,k2,k3,k4,k5⟩:=XA (q:=σ.n) (m:=1) (xs:=List.replicate n [.v z]) (T:=T) (v:=.slice (some ⟨w.heap.size,0,none⟩) n cap) hS.hs (by simp [ltn]) hbel
  (.inr ⟨cap,cs,by simp,heap_alloc_new _ _,by rw [hcs];simp,⟨by simp;omega,by omega⟩,by simp;omega,λq hq=>by rw [List.eq_of_mem_replicate hq];rfl,by
   rw [hcs];simp only [List.length_replicate,Nat.mul_one,Array.toList_replicate,List.take_replicate,Nat.min_eq_left hcl]
   exact Zjy n⟩)
 have hV:(λk=>ltn σ.n k\/k = σ.n)=ltn (σ.n+1):=by funext k;simp only [ltn,eq_iff_iff];omega
 rw [hV] at k4;have hx:(execOp a.eval o).run P w = .ok (.value (.slice (some ⟨w.heap.size,0,none⟩) n cap)) (w.drew.alloc (.cells cs T)):=by
  obtain ⟨dst',op',ty',pos,after,guard⟩:=o;simp only at e2 e3;subst e2;subst e3;rw [<- hxv,<- hyv] at hrun;simp [execOp,resolve,invoke,builtin,hrun,cs]
 refine ZC hx (by simp) ?_;show next (a.put o.dst _) _;rw [e1];refine hn _ E' _ _ h (Xs hS k5 k1 (by omega) k4 (λhh=>?_) (by simpa [Nat.blt_eq] using h2) (λ_ _ _ e=>by cases e) ?_)
 . rw [ZU.2 hh] at h1;cases h1
 . simp only [R];exact ⟨by simp [ltn],by omega,by rw [k2];exact ⟨rfl,rfl⟩⟩
theorem Zla {ax ay:Operand} {u k v:Nat} {xs:Rr} (hx:VL σ ax = .mr k v) (hk:lkh k σ.hp = .row v m xs T) (hy:VL σ ay = .v (.int .i64 0)) (ht:P.underlying t=some (.slice T)) (hm:XT P T=some m)
 (h1:Xw u σ.gs=false) (h2:Nat.blt u σ.N=true) (h:r ⟨(u,.mr k (v+1)) :: σ.fr,(k,.row (v+1) m [] T) :: σ.hp,σ.n,σ.N,σ.gs⟩ K) :
 RAW P (some u) (.slice t ax none (some ay) none) ty σ r K:=by
 intro o C E a w next Q e1 e2 e3 hS hn hq;have hxv:=Xv hS hx (λ_ _ _=>by simp);have hyv:=Xv hS hy (λ_ _ _=>by simp);simp only [R] at hxv hyv;obtain ⟨hnk,hvi,hxv,_⟩:=hxv;have hb:=hS.hs.bk k;rw [hk] at hb;simp only [Yr] at hb;obtain ⟨his,hb⟩:=hb
 have key:∃ y,(execOp a.eval o).run P w = .ok (.value y) w/\y.oneCell'=true/\((([]:Rr)=[]/\∃ a,y = .slice a 0 0)\/∃ b cap cs,y = .slice (some ⟨b,0,none⟩) ([]:Rr).length cap/\(occ E k (lkh k σ.hp) b\/w.heap.size<=b)/\w.heap[b]? = some (.cells cs T (0,0))/\cs.size=cap * m/\(([]:Rr).length<=cap/\cap≠0)/\([]:Rr).length<=9223372036854775807 /\
  (∀ r ∈ ([]:Rr),r.length=m)/\RL w E (ltn σ.n) (okS C E σ.hp) ([]:Rr).flatten (cs.toList.take (([]:Rr).length * m))):=by
  have hex:∀ {ad len cap},a.eval ax = .slice ad len cap->(execOp a.eval o).run P w = .ok (.value (.slice (if cap=0 then ad else ad.map (·.add (0 * m))) 0 cap)) w:=by
   intro ad len cap he;obtain ⟨dst',op',ty',pos,after,guard⟩:=o;simp only at e2 e3;subst e2;simp [execOp,Sem.run_bind,he,hyv,Zg2 ht hm]
  rcases hb with ⟨g0,a0,g1⟩ | ⟨b,cap,cs,g1,g2,g3,g4,g5,g6,g7⟩
  . rw [hxv] at hex;exact ⟨_,hex g1,rfl,.inl ⟨rfl,_,rfl⟩⟩
  . rw [hxv] at hex;have:=hex g1;rw [if_neg g4.2] at this;refine ⟨_,this,rfl,.inr ⟨b,cap,cs,by simp [Addr.add],.inl (by rw [hk];exact ⟨_,_,g1,g4.2⟩),g2,g3,⟨Nat.zero_le _,g4.2⟩,by simp,λr hr=>by simp at hr,by simp [RL]⟩⟩
 obtain ⟨y,hrun,hone,hv⟩:=key;obtain ⟨E',g1',g2',g3',g4',g5',g6'⟩:=Zhg (w':=w) (xs':=[]) (y:=y) hS.hs hk rfl rfl rfl (Nat.le_refl _) (λ_ _ _=>rfl) hv;refine ZC hrun (by simp) ?_;show next (a.put o.dst _) w;rw [e1]
 exact hn _ E' _ _ h (Xs (σ:=σ) (hp':=(k,.row (v+1) m [] T) :: σ.hp) hS g6' g1' (Nat.le_refl _) g5' (λhh=>by rw [ZU.2 hh] at h1;cases h1) (by simpa [Nat.blt_eq] using h2) (λ_ _ _ e=>by cases e)
  (by simp only [R];exact ⟨g4',by omega,g2'.symm,hone⟩))
end
end Go.Sx
namespace Go.Proofs.YtongccnhomncnaaGreatDoor.Ld
open Go Go.Sx Go.Azalai
theorem ZCm (h:Nat) (caps:Ls) (hk:KFL caps) (g:Pack->Bool) (l:List Pack) (hg:∀ x ∈ l,Cp h (.agg (Zx x) :: caps) (B (g x))) (hl:l.length < 4611686018427387904) {c:Bool} :
 Cp 203 [.sl c 11 (l.map Zx),.cl h caps] (I (Xd g l 0)):=by
 refine t203.1 ⟨by simp [KF,Za,KFL,Zx],hk,trivial⟩ (by simp [KF]) ?_;dsimp only [c203,r203,go_sem];refine Ym (λk:Nat=>[(8,I k)]) (λ_=>[]) (λk=>k<=l.length/\Xd g (l.drop k) k=Xd g l 0) (λk=>l.length - k) 0 ⟨Nat.zero_le _,rfl⟩ ?_ ?_
 . (refine Zj ?_ ?_ ?_ rfl rfl<;>dsimp only [Zx,hk,id,go_sem]<;>simp [Zx,hk,Za])
 . intro k ⟨hk',hi⟩;dsimp only [go_sem];refine br ?_ ?_
   . intro hlt;have hlt:k < l.length:=by simpa using hlt
     dsimp only [go_sem];refine Zn k hlt rfl ?_;dsimp only [Zx,go_sem];refine call (hg l[k] (List.getElem_mem _)) ?_;dsimp only [go_sem];refine br ?_ ?_
     . intro hgx;dsimp only [go_sem];rw [<- hi,List.drop_eq_getElem_cons hlt];simp [Xd,hgx]
     . intro hgx;dsimp only [go_sem];refine ⟨k+1,⟨by omega,?_⟩,by omega,?_⟩
       . rw [<- hi,List.drop_eq_getElem_cons hlt];simp [Xd,hgx]
       . rw [Zf (by omega) (by omega)];(refine Zj ?_ ?_ ?_ rfl rfl<;>dsimp only [Zx,hk,id,go_sem]<;>simp [Zx,hk,Za])
   . intro hlt;have hlt:k=l.length:=by simp at hlt;omega
     dsimp only [go_sem];rw [<- hi,hlt];simp [Xd]
theorem ZCe (h:Nat) (caps:Ls) (hk:KFL caps) (g:Pack->Bool) (l:List Pack) (hg:∀ x ∈ l,Cp h (.agg (Zx x) :: caps) (B (g x))) (hl:l.length < 4611686018427387904) {c:Bool} :
 Cp 128 [.sl c 11 (l.map Zx),.cl h caps] (B (l.any g)):=by
 refine t128.1 ⟨by simp [KF,Za,KFL,Zx],hk,trivial⟩ (by simp [KF]) ?_;dsimp only [c128,r128,go_sem];refine call (ZCm h caps hk g l hg hl) ?_;dsimp only [go_sem];rw [XG]
theorem Zia (p:Pack):Cp 129 [.agg (Zx p),.ps [.cl 76 []] 0] (B (!YB p)):=by
 refine t129.1 (by simp [Zx]) (by simp) ?_;dsimp only [c129,r129,Zx,go_sem];refine call (Zef p) ?_;dsimp only [go_sem]
theorem ZlO (l:List Pack) (hl:l.length < 4611686018427387904) (c:Bool):Cp 75 [.sl c 11 (l.map Zx),.cl 76 []] (B (l.all YB)):=by
 refine t75.1 (by simp [Za,Zx]) (by simp) ?_;dsimp only [c75,r75,go_sem];refine WM (by simp [FLT]) (res:=B (l.any λx=>!YB x)) ?_ ?_
 . dsimp only [go_sem];exact ZCe 129 [.ps [.cl 76 []] 0] (by simp) (λx=>!YB x) l (λx _=>Zia x) hl
 . dsimp only [go_sem];simp [List.all_eq_not_any_not]
theorem Zko {l:List Span} {k:Nat} {acc:Span} (hb:∀ s ∈ l,0<=s.lo/\s.lo<=s.hi/\s.hi<=1000000) (hl:l.length<=1000) (hk:k < l.length) (h0:0<=acc.lo) (h1:acc.lo<=acc.hi) (h2:acc.hi<=k * 1000000) :
 -9223372036854775808<=acc.lo+l[k].lo/\acc.lo+l[k].lo<=9223372036854775807/\-9223372036854775808<=acc.hi+l[k].hi/\acc.hi+l[k].hi<=9223372036854775807/\0<=(Zgt acc l[k]).lo/\(Zgt acc l[k]).lo<=(Zgt acc l[k]).hi/\(Zgt acc l[k]).hi<=((k+1:Nat):Int) * 1000000:=by
 have:=hb l[k] (List.getElem_mem hk);simp only [Zgt];omega
theorem ZDL (l:List Span) (hb:∀ s ∈ l,0<=s.lo/\s.lo<=s.hi/\s.hi<=1000000) (hl:l.length<=1000) (c:Bool):Cp 83 [.sl c 2 (l.map Ze)] (.agg (Ze (Zfn Z0 l))):=by
 refine t83.1 (by simp [Za,Ze]) (by simp [Ze]) ?_;dsimp only [c83,r83,go_sem];simp only [List.length_map];refine Ym (λq:Nat × Span=>[(7,I q.1)]) (λq=>[(0,.cells (Ze q.2) 27)]) (λq=>q.1<=l.length/\(0<=q.2.lo/\q.2.lo<=q.2.hi/\q.2.hi<=q.1 * 1000000)/\Zfn q.2 (l.drop q.1)=Zfn Z0 l) (λq=>l.length - q.1) (0,Z0) ⟨Nat.zero_le _,by decide,rfl⟩ ?_ ?_
 . (refine Zj ?_ ?_ ?_ rfl rfl<;>dsimp only [Ze,Z0,id,go_sem]<;>simp [Ze,Z0,Za])
 rintro ⟨k,acc⟩ ⟨hk,ha,hi⟩;simp only at hk ha hi;dsimp only [Ze,go_sem];by_cases hlt:k < l.length
 . refine Zs (by simpa using hlt) ?_;dsimp only [go_sem];refine Zn k hlt rfl ?_;dsimp only [Ze,go_sem];obtain ⟨w1,w2,w3,w4,w5,w6,w7⟩:=Zko hb hl hlt ha.1 ha.2.1 ha.2.2;rw [Zf (n:=acc.lo+l[k].lo) (by omega) (by omega),Zf (n:=acc.hi+l[k].hi) (by omega) (by omega),Zf (n:=(k:Int)+1) (by omega) (by omega)];rw [List.drop_eq_getElem_cons hlt,Zfn] at hi;refine ⟨(k+1,Zgt acc l[k]),⟨hlt,⟨w5,w6,w7⟩,hi⟩,by simp only;omega,?_⟩
   (refine Zj ?_ ?_ ?_ rfl rfl<;>dsimp only [Ze,Zgt,id,go_sem]<;>simp [Ze,Zgt,Za])
 refine Zo (by simp;omega) ?_;dsimp only [go_sem];have:k=l.length:=by omega
 subst this;rw [List.drop_length,Zfn] at hi;rw [<- hi]
def XI (l:List Pack) (t:Tied):Ls:=[.sl false 1 (t.left.map Zk),.sl false 1 (t.right.map Zk),.sl false 1 (t.top.map Zk),.sl false 2 (l.map λp=>Ze (Xj p).1)]
theorem ZoF {l:List Pack} {k:Nat} (h:k < l.length):Um l (k:Int)=(Xj l[k]).1:=by
 simp [Um,List.getD_eq_getElem?_getD,List.getElem?_eq_getElem h]
theorem Zu0 {α : Type} {f:α->Ls} (h:∀ x,KFL (f x)) (n:Nat) (l:List α):KFR (List.take n (List.map f l)):=by
 rw [<- List.map_take,Za];exact λx _=>h x
theorem ZA1 (n:Nat) (l:List Pack):KFR (List.take n (List.map (λp=>[I (Xj p).1.lo,I (Xj p).1.hi]) l)):=Zu0 (λ_=>by simp) n l
theorem ZBL (n:Nat) (l:List Pack) (q:List Int):KFR (List.take n (List.map (λi=>[I (Um l i).lo,I (Um l i).hi]) q)):=Zu0 (λ_=>by simp) n q
theorem WU (l:List Pack) (t:Tied) (q:List Int) (hp:l.all YB=true) (hl:l.length<=1000) (hq:∀ i ∈ q,0<=i/\i < l.length) (hql:q.length<=1000) (c:Bool) :
 Cp 33 [.agg (XI l t),.sl c 1 (q.map Zk)] (.agg (Ze (Ys l q))):=by
 refine t33.1 (by simp [XI,Za,Ze,Zk]) (by simp [Ze]) ?_;dsimp only [c33,r33,XI,go_sem];simp only [List.length_map];refine ZdB (Yc 5 2 27 rfl rfl) (λs:Nat × Nat=>[(10,I s.1),(5,.mr 2 s.2)]) (λs=>[(2,.row s.2 2 ((q.take s.1).map λi=>Ze (Um l i)) 27)]) (λs=>s.1<=q.length) (λs=>q.length - s.1) (0,0) (Nat.zero_le _) ?_ ?_
 . (refine Zj ?_ ?_ ?_ rfl rfl<;>dsimp only [Ze,Zk,id,go_sem]<;>simp [Ze,Zk,Za])
 rintro ⟨k,v⟩ hk;simp only at hk;dsimp only [go_sem];by_cases hlt:k < q.length
 . refine Zs (by simpa using hlt) ?_;dsimp only [go_sem];refine Zn k hlt rfl ?_;dsimp only [Zk,go_sem];obtain ⟨h1,h2⟩:=hq q[k] (List.getElem_mem hlt);obtain ⟨j,hj⟩:=Int.eq_ofNat_of_zero_le h1;have hjl:j < l.length:=by omega
   rw [hj];refine Zn j hjl rfl ?_;dsimp only [Ze,go_sem];simp only [nbr];dsimp only [go_sem];refine ⟨(by intro c hc;simp only [List.mem_singleton] at hc;subst hc;rfl),by simp;omega,?_⟩;dsimp only [go_sem];rw [Zf (n:=(k:Int)+1) (by omega) (by omega)];refine ⟨(k+1,v+1),hlt,by simp only;omega,?_⟩;simp only;rw [List.take_succ_eq_append_getElem hlt,List.map_append];simp only [List.map_cons,List.map_nil,hj,ZoF hjl]
   (refine Zj ?_ ?_ ?_ rfl rfl<;>dsimp only [Ze,Zk,ZBL,id,go_sem]<;>simp [Ze,Zk,ZBL,Za])
 refine Zo (by simp;omega) ?_;dsimp only [go_sem];have:k=q.length:=by omega
 subst this;rw [List.take_length];refine WM (by simp [FLT,ZzZ,Ze]) (res:=.agg (Ze (Ys l q))) ?_ ?_
 . dsimp only [go_sem];simp only [nbr];dsimp only [go_sem];have:=ZDL (q.map (Um l)) (λs hs=>by obtain ⟨i,_,rfl⟩:=List.mem_map.1 hs;exact Zgx hp i) (by simpa using hql) false;rw [List.map_map] at this;exact this
 . dsimp only [Ze,go_sem]
theorem ZdD (l:List Pack) (hp:l.all YB=true) (hl:l.length<=1000) (c:Bool):Cp 32 [.sl c 11 (l.map Zx)] (.sl false 2 (l.map λp=>Ze (Xj p).1)):=by
 refine t32.1 (by simp [Za,Zx]) (by simp [Za,Ze]) ?_;dsimp only [c32,r32,go_sem];simp only [List.length_map];refine ZdB (Yc 3 2 27 rfl rfl) (λs:Nat × Nat=>[(12,I s.1),(3,.mr 0 s.2)]) (λs=>[(0,.row s.2 2 ((l.take s.1).map λp=>Ze (Xj p).1) 27)]) (λs=>s.1<=l.length) (λs=>l.length - s.1) (0,0) (Nat.zero_le _) ?_ ?_
 . (refine Zj ?_ ?_ ?_ rfl rfl<;>dsimp only [Ze,Zx,id,go_sem]<;>simp [Ze,Zx,Za])
 rintro ⟨k,v⟩ hk;simp only at hk;dsimp only [go_sem];by_cases hlt:k < l.length
 . refine Zs (by simpa using hlt) ?_;dsimp only [go_sem];refine Zn k hlt rfl ?_;dsimp only [Zx,go_sem];refine call (ZqT l[k] (List.all_eq_true.1 hp _ (List.getElem_mem hlt))) ?_;dsimp only [Ze,go_sem];simp only [nbr];dsimp only [go_sem];refine ⟨(by intro c hc;simp only [List.mem_singleton] at hc;subst hc;rfl),by simp;omega,?_⟩;dsimp only [go_sem];rw [Zf (n:=(k:Int)+1) (by omega) (by omega)];refine ⟨(k+1,v+1),hlt,by simp only;omega,?_⟩
   simp only;rw [List.take_succ_eq_append_getElem hlt,List.map_append];simp only [List.map_cons,List.map_nil];(refine Zj ?_ ?_ ?_ rfl rfl<;>dsimp only [Ze,Zx,ZA1,id,go_sem]<;>simp [Ze,Zx,ZA1,Za])
 refine Zo (by simp;omega) ?_;dsimp only [go_sem];have:k=l.length:=by omega
 subst this;rw [List.take_length];simp only [nbr];dsimp only [go_sem]
theorem Zc6 (l:List Pack) (t:Tied) (bound:Int) (hp:l.all YB=true) (hl:l.length<=1000) (h1:∀ i ∈ t.left,0<=i/\i < l.length) (h2:∀ i ∈ t.right,0<=i/\i < l.length) (hq1:t.left.length<=1000) (hq2:t.right.length<=1000) (hb:0<=bound/\bound<=1000000000) :
 Cp 35 [.agg (XI l t),I bound] (U8 (ZiK l t bound)):=by
 have b1:=ZgT hp t.left;have b2:=ZgT hp t.right;refine t35.1 (by simp [XI,Za,Ze,Zk]) (by simp) ?_;dsimp only [c35,r35,XI,go_sem];refine call (WU l t t.left hp hl h1 hq1 false) ?_;dsimp only [go_sem];refine call (WU l t t.right hp hl h2 hq2 false) ?_;dsimp only [Ze,go_sem];have hbal:ZiK l t bound=ZAE (Ys l t.left) (Ys l t.right) bound:=rfl;rw [hbal];generalize Ys l t.left=a at b1 ⊢;generalize Ys l t.right=b at b2 ⊢
 rw [Zf (n:=a.lo - b.hi) (by omega) (by omega),Zf (n:=a.hi - b.lo) (by omega) (by omega)];rw [Zf (n:=0 - bound) (by omega) (by omega),Int.zero_sub];refine call (inL2 (-bound) bound (a.lo - b.hi) (a.hi - b.lo) _) ?_;dsimp only [go_sem];by_cases e1:-bound<=a.lo - b.hi/\a.hi - b.lo<=bound
 . by_cases e2:inR (-bound) bound (a.lo - b.hi)=true/\inR (-bound) bound (a.hi - b.lo)=true
   . refine Zs (by simp [e2.1,e2.2]) ?_;dsimp only [go_sem];rw [ZAE,if_pos e1]
   . exfalso;apply e2;simp only [inR,decide_eq_true_eq];omega
 refine Zo (by
  rw [Bool.eq_false_iff];intro h;simp only [Bool.and_eq_true,inR,decide_eq_true_eq] at h
  exact e1 ⟨h.1.1,h.2.2⟩) ?_
 dsimp only [go_sem];repeat (refine gb ?_;dsimp only [go_sem])
 try rw [Zf (n:=0 - bound) (by omega) (by omega),Int.zero_sub]
 by_cases e2:a.lo - b.hi > bound\/a.hi - b.lo < -bound
 . refine Zs (by simpa using e2) ?_;dsimp only [go_sem];rw [ZAE,if_neg e1,if_pos e2]
 refine Zo (by
  rw [Bool.eq_false_iff];intro h
  exact e2 (by simpa using h)) ?_
 dsimp only [go_sem];rw [ZAE,if_neg e1,if_neg e2]
theorem u29:Tryz.prog.underlying 35=some (.slice 3):=by kernel_rfl
theorem u3:Tryz.prog.underlying 3=some (.int .i64):=by kernel_rfl
theorem sz3:XT Tryz.prog 3=some 1:=by kernel_rfl
theorem info3:∃ i z,Tryz.prog.info? 3=some i/\i.zero=some z/\i.size=1/\z.oneCell'=true/\i.bytes=8:=by
 refine ⟨_,.int .i64 0,rfl,?_,?_,rfl,?_⟩<;>kernel_rfl
theorem Zg6:Cq 139 [] 0 [.v (.slice none 0 0),I 0] (λo=>o=⟨false,.v (.slice none 0 0),[],0⟩):=by
 refine m139 (by simp [hpb]) (λo ho=>by subst ho;simp [KX,KXP]) ?_;dsimp only [ZEo,ZEc,go_sem];refine Zo rfl ?_;dsimp only [go_sem];refine UO rfl u29 ?_;dsimp only [go_sem];refine US rfl u29 ?_;dsimp only [go_sem];refine Zo (by decide) ?_;dsimp only [go_sem];refine ⟨_,rfl,?_⟩;(refine Zw ?_ ?_ ?_ rfl<;>dsimp only [id,go_sem]<;>simp [Za])
theorem Zg5 (n:Nat) (h0:0 < n) (h1:n<=100000):Cq 139 [] 0 [.v (.slice none 0 0),I n] (λo=>o=⟨false,.mr 0 1,[(0,.row 1 1 [] 3)],1⟩):=by
 obtain ⟨i,z,q1,q2,q3,q4,q5⟩:=info3;refine m139 (by simp [hpb]) (λo ho=>by subst ho;simp [KX,KXP,KXH,KFR]) ?_;dsimp only [ZEo,ZEc,go_sem];refine Zo (by simp) ?_;dsimp only [go_sem];refine UO rfl u29 ?_;dsimp only [go_sem];refine US rfl u29 ?_;dsimp only [go_sem];rw [Zf (n:=0 - 0) (by omega) (by omega)];rw [Zf (n:=(n:Int) - (0 - 0)) (by omega) (by omega)];rw [show (n:Int) - (0 - 0)=n from by omega]
 refine Zs (by simp;omega) ?_;dsimp only [go_sem];refine UO rfl u29 ?_;dsimp only [go_sem];refine Zl7 rfl rfl u29 sz3 ?_;dsimp only [go_sem];refine Zqh rfl rfl rfl rfl u29 u3 q1 q2 q3 q4 h0 (by rw [q5];omega) (by omega) ?_;dsimp only [go_sem];refine US rfl u29 ?_;dsimp only [go_sem];refine Zla rfl rfl rfl u29 sz3 rfl rfl ?_;dsimp only [go_sem];refine ⟨_,rfl,?_⟩;(refine Zw ?_ ?_ ?_ rfl<;>dsimp only [id,go_sem]<;>simp [Za])
theorem ZkW (a b c:List Int) (ha:a.length<=1000) (hb:b.length<=1000) (hc:c.length<=1000) (k:Bool) :
 Cp 84 [.sl k 1 [[.sl false 1 (a.map Zk)],[.sl false 1 (b.map Zk)],[.sl false 1 (c.map Zk)]]] (.sl false 1 ((a ++ (b ++ c)).map Zk)):=by
 refine t84.1 (by simp [Za,KFR,Zk]) (by simp [Za,Zd,Zk]) ?_;dsimp only [c84,r84,go_sem];refine ZX 4 ?_;dsimp only [Zb,go_sem];refine Zs rfl ?_;dsimp only [go_sem];refine ixs 0 _ rfl rfl ?_;dsimp only [go_sem];simp only [List.length_map];rw [Zf (n:=0+(a.length:Int)) (by omega) (by omega)];refine Zo (by simp) ?_;dsimp only [Zb,go_sem];refine Zs rfl ?_;dsimp only [go_sem];refine ixs 1 _ rfl rfl ?_;dsimp only [go_sem]
 simp only [List.length_map];rw [Zf (n:=0+(a.length:Int)+(b.length:Int)) (by omega) (by omega)];refine Zo (by simp;omega) ?_;dsimp only [Zb,go_sem];refine Zs rfl ?_;dsimp only [go_sem];refine ixs 2 _ rfl rfl ?_;dsimp only [go_sem];simp only [List.length_map];rw [Zf (n:=0+(a.length:Int)+(b.length:Int)+(c.length:Int)) (by omega) (by omega)];refine Zo (by simp;omega) ?_;dsimp only [Zb,go_sem];refine Zo rfl ?_
 dsimp only [go_sem];have hn:(0+(a.length:Int)+(b.length:Int)+(c.length:Int))=((a.length+b.length+c.length:Nat):Int):=by omega
 rw [hn];have one:∀ q:List Int,∀ r ∈ q.map Zk,Yu r=true:=λq r hr=>by obtain ⟨x,_,rfl⟩:=List.mem_map.1 hr;rfl
 by_cases h0:a.length+b.length+c.length=0
 . rw [h0];refine ZA [] Zg6 rfl rfl rfl ?_ ?_ ?_
   . (repeat first | dsimp only [go_sem] | simp only [nbr])
     try simp [mtL,mtB,mtS]
   . trivial
   rintro _ rfl
   (repeat first | dsimp only [go_sem] | simp only [nbr])
   refine gh (Yc 6 1 3 rfl rfl) ?_;dsimp only [go_sem];refine ZX 4 ?_;dsimp only [Zb,go_sem];refine Zs rfl ?_;dsimp only [go_sem];refine ixs 0 _ rfl rfl ?_;dsimp only [go_sem];refine ⟨one a,by simp;omega,?_⟩;dsimp only [Zb,go_sem];refine Zs rfl ?_;dsimp only [go_sem];refine ixs 1 _ rfl rfl ?_;dsimp only [go_sem];refine ⟨one b,by simp;omega,?_⟩;dsimp only [Zb,go_sem];refine Zs rfl ?_;dsimp only [go_sem]
   refine ixs 2 _ rfl rfl ?_;dsimp only [go_sem];refine ⟨one c,by simp;omega,?_⟩;dsimp only [Zb,go_sem];refine Zo rfl ?_;dsimp only [go_sem];simp
 . refine ZA [] (Zg5 (a.length+b.length+c.length) (by omega) (by omega)) rfl rfl rfl ?_ ?_ ?_
   . (repeat first | dsimp only [go_sem] | simp only [nbr])
     try simp [mtL,mtB,mtS]
   . trivial
   rintro _ rfl
   (repeat first | dsimp only [go_sem] | simp only [nbr])
   refine gh Zp ?_;dsimp only [go_sem];refine ZX 4 ?_;dsimp only [Zb,go_sem];refine Zs rfl ?_;dsimp only [go_sem];refine ixs 0 _ rfl rfl ?_;dsimp only [go_sem];refine ⟨one a,by simp;omega,?_⟩;dsimp only [Zb,go_sem];refine Zs rfl ?_;dsimp only [go_sem];refine ixs 1 _ rfl rfl ?_;dsimp only [go_sem];refine ⟨one b,by simp;omega,?_⟩;dsimp only [Zb,go_sem];refine Zs rfl ?_;dsimp only [go_sem];refine ixs 2 _ rfl rfl ?_
   dsimp only [go_sem];refine ⟨one c,by simp;omega,?_⟩;dsimp only [Zb,go_sem];refine Zo rfl ?_;dsimp only [go_sem];simp
end Go.Proofs.YtongccnhomncnaaGreatDoor.Ld
namespace Go.Proofs.YtongccnhomncnaaGreatDoor
open Go Go.Sx
def ZyK:SC:=(sr1 [o1 3 (Jz 1 0 193),Jw 4 Jf] (sr1 [m1 5 0,o1 6 (.mkf 210 [.t 3]),o1 7 (.callm 107 [.t 5,.t 6]),o1 8 (Jh 7),m1 4 8] .ret))
def Zyq:List RV:=[.tmp 4]
theorem nw132:Tryz.f132.ntmps=9:=by kernel_rfl
theorem bw132:Z4 Tryz.prog 132=true:=by kernel_rfl
theorem ZtA:YR Tryz.prog ZyK ((Tryz.f132.body).getD .skip)=true:=by kernel_rfl
theorem ZoN:Y2 Tryz.prog Zyq Tryz.f132.results.toList=true:=by kernel_rfl
theorem mw132 {n0:Nat} {hp0:Lh} {args:Ls} {Zz:Ot->Prop} (hh:hpb n0 hp0) (hx:∀ o,Zz o->KX o.res/\KXP o.hp) (h:sx Tryz.prog Y0 n0 ZyK ⟨YT 0 args,hp0,n0,9,[]⟩ (X0 Zyq λo=>∃ o',Zz o'/\WI n0 o o')) (hA:Nat.ble args.length 9=true:=by rfl):Cq 132 hp0 n0 args Zz:=ZB Tryz.func132 rfl bw132 ZtA ZoN nw132 (Nat.le_of_ble_eq_true hA) hh hx h
def Zxr:SC:=(sr1 [Jw 4 Jf] (sr1 [m1 5 0,m1 6 1,o1 7 (.callm 180 [.t 5,.t 6]),o1 8 (Jc .geq 7 0),m1 4 8] .ret))
def ZAq:List RV:=[.tmp 4]
theorem nw107:Tryz.f107.ntmps=9:=by kernel_rfl
theorem bw107:Z4 Tryz.prog 107=true:=by kernel_rfl
theorem Zpp:YR Tryz.prog Zxr ((Tryz.f107.body).getD .skip)=true:=by kernel_rfl
theorem ZsJ:Y2 Tryz.prog ZAq Tryz.f107.results.toList=true:=by kernel_rfl
theorem mw107 {n0:Nat} {hp0:Lh} {args:Ls} {Zz:Ot->Prop} (hh:hpb n0 hp0) (hx:∀ o,Zz o->KX o.res/\KXP o.hp) (h:sx Tryz.prog Y0 n0 Zxr ⟨YT 0 args,hp0,n0,9,[]⟩ (X0 ZAq λo=>∃ o',Zz o'/\WI n0 o o')) (hA:Nat.ble args.length 9=true:=by rfl):Cq 107 hp0 n0 args Zz:=ZB Tryz.func107 rfl bw107 Zpp ZsJ nw107 (Nat.le_of_ble_eq_true hA) hh hx h
def ZxH:SC:=(sr1 [Jk 4 0] (.seq (sr1 [m1 6 0,o1 7 (Jl 6),Jk 8 0] (.block 0 (.loop (sr1 [o1 9 (Jb .lss 8 7)] (.seq (Ji 9 .skip (.exit 0)) (.seq (.block 1 (sr1 [m1 10 8,m1 5 10] (sr1 [m1 11 1,m1 12 0,m1 13 5,o1 14 (Jx 12 13 1),o1 15 (lf 14 1),o1 16
 (.calvm (.t 11) [.t 15])] (Ji 16 (sr1 [m1 17 5,m1 4 17] .ret) .skip)))) (.reg [o1 18 (Jc .add 8 1),m1 8 18]))))))) (sr1 [o1 4 (.mv (cn (-1)))] .ret)))
def ZvT:List RV:=[.tmp 4]
theorem nw180:Tryz.f180.ntmps=19:=by kernel_rfl
theorem bw180:Z4 Tryz.prog 180=true:=by kernel_rfl
theorem Zrr:YR Tryz.prog ZxH ((Tryz.f180.body).getD .skip)=true:=by kernel_rfl
theorem Zon:Y2 Tryz.prog ZvT Tryz.f180.results.toList=true:=by kernel_rfl
theorem mw180 {n0:Nat} {hp0:Lh} {args:Ls} {Zz:Ot->Prop} (hh:hpb n0 hp0) (hx:∀ o,Zz o->KX o.res/\KXP o.hp) (h:sx Tryz.prog Y0 n0 ZxH ⟨YT 0 args,hp0,n0,19,[]⟩ (X0 ZvT λo=>∃ o',Zz o'/\WI n0 o o')) (hA:Nat.ble args.length 19=true:=by rfl):Cq 180 hp0 n0 args Zz:=ZB Tryz.func180 rfl bw180 Zrr Zon nw180 (Nat.le_of_ble_eq_true hA) hh hx h
def ZAl:SC:=(sr1 [Jw 3 Jf] (sr1 [o1 4 (lf 1 1),m1 5 0,o1 6 (.calvm (.t 4) [.t 5]),o1 7 (Jh 6),m1 3 7] .ret))
def Zzm:List RV:=[.tmp 3]
theorem nw210:Tryz.f210.ntmps=8:=by kernel_rfl
theorem bw210:Z4 Tryz.prog 210=true:=by kernel_rfl
theorem ZtN:YR Tryz.prog ZAl ((Tryz.f210.body).getD .skip)=true:=by kernel_rfl
theorem Zry:Y2 Tryz.prog Zzm Tryz.f210.results.toList=true:=by kernel_rfl
theorem mw210 {n0:Nat} {hp0:Lh} {args:Ls} {Zz:Ot->Prop} (hh:hpb n0 hp0) (hx:∀ o,Zz o->KX o.res/\KXP o.hp) (h:sx Tryz.prog Y0 n0 ZAl ⟨YT 0 args,hp0,n0,8,[]⟩ (X0 Zzm λo=>∃ o',Zz o'/\WI n0 o o')) (hA:Nat.ble args.length 8=true:=by rfl):Cq 210 hp0 n0 args Zz:=ZB Tryz.func210 rfl bw210 ZtN Zry nw210 (Nat.le_of_ble_eq_true hA) hh hx h
def Zze:SC:=(sr1 [Jw 4 Jf] (sr1 [o1 6 (lf 1 1),o1 7 (Jc .add 6 1),o1 8 (lf 2 1),o1 9 (Jc .sub 8 1),m1 10 0,o1 11 (.bsl 1 3 [.t 10]),o1 12 (J3 81 7 9 11),m1 5 12] (sr1 [m1 13 0,Js 1 13 1] (sr1 [m1 14 5,m1 4 14] .ret))))
def Zxk:List RV:=[.tmp 4]
theorem nw133:Tryz.f133.ntmps=15:=by kernel_rfl
theorem bw133:Z4 Tryz.prog 133=true:=by kernel_rfl
theorem ZqY:YR Tryz.prog Zze ((Tryz.f133.body).getD .skip)=true:=by kernel_rfl
theorem Zr5:Y2 Tryz.prog Zxk Tryz.f133.results.toList=true:=by kernel_rfl
theorem mw133 {n0:Nat} {hp0:Lh} {args:Ls} {Zz:Ot->Prop} (hh:hpb n0 hp0) (hx:∀ o,Zz o->KX o.res/\KXP o.hp) (h:sx Tryz.prog Y0 n0 Zze ⟨YT 0 args,hp0,n0,15,[]⟩ (X0 Zxk λo=>∃ o',Zz o'/\WI n0 o o')) (hA:Nat.ble args.length 15=true:=by rfl):Cq 133 hp0 n0 args Zz:=ZB Tryz.func133 rfl bw133 ZqY Zr5 nw133 (Nat.le_of_ble_eq_true hA) hh hx h
def c78:SC:=(sr1 [o1 3 (Jz 1 0 3),Jw 4 Jf] (sr1 [o1 5 (.alloc [.int .i64 0] 3),⟨none,.st (.t 5) (cn (-1)) 1,none,[]⟩] (sr1 [m1 6 0,o1 7 (.mkf 133 [.t 5,.t 3]),o1 8 (.callm 132 [.t 6,.t 7]),m1 4 8] .ret)))
def r78:List RV:=[.tmp 4]
theorem t78:Qt1 Tryz.prog 78 c78 r78 9:=ZF Tryz.func78
end Go.Proofs.YtongccnhomncnaaGreatDoor
namespace Go.Azalai
def ZeA:Int->List Int->Int
 | a,[]=>a
 | _,x :: l=>ZeA x l
theorem UB {n:Int}:∀ {l:List Int} {last:Int},-1<=last->Y9 n last l=true->∀ i ∈ l,0<=i/\i < n
 | [],_,_,_=>by simp
 | x :: l,last,h0,h=>by
  simp only [Y9,inR,Bool.and_eq_true,decide_eq_true_eq] at h;intro i hi;rcases List.mem_cons.1 hi with rfl | hi
  . omega
  . exact UB (by omega) h.2 i hi
end Go.Azalai
namespace Go.Proofs.YtongccnhomncnaaGreatDoor.Ld
open Go Go.Sx Go.Azalai
theorem Zky (t:Tied) (ha:t.left.length<=1000) (hb:t.right.length<=1000) (hc:t.top.length<=1000):Cp 34 [.agg (Z2 t)] (.sl false 1 ((Zap t).map Zk)):=by
 refine t34.1 (by simp [Z2,Za,Zk]) (by simp [Za,Zd,Zk]) ?_;dsimp only [c34,r34,Z2,go_sem];refine call (ZkW t.left t.right t.top ha hb hc _) ?_;dsimp only [go_sem];rfl
theorem ZoX (t:Tied):Cp 77 [.agg (Z2 t)] (.agg (Z2 t)):=by
 refine t77.1 (by simp [Z2,Za,Zk]) (by simp [Z2,Za,Zk]) ?_;dsimp only [c77,r77,Z2,go_sem]
theorem Xo (k:Int):Cq 30 [] 0 [B true,I k] (λo=>o=⟨false,.tup [],[],0⟩):=by
 refine m30 (by simp [hpb]) (λo ho=>by subst ho;simp [KX,KXL,KXP]) ?_;dsimp only [c30,r30,go_sem];refine Zo rfl ?_;dsimp only [go_sem];refine ⟨_,rfl,?_⟩;(refine Zw ?_ ?_ ?_ rfl<;>dsimp only [id,go_sem]<;>simp [Za])
theorem Zdi (b:Int) (h:0<=b/\b<=1000000000):Cq 31 [] 0 [I b] (λo=>o=⟨false,.tup [],[],0⟩):=by
 refine m31 (by simp [hpb]) (λo ho=>by subst ho;simp [KX,KXL,KXP]) ?_;dsimp only [c31,r31,go_sem];refine call (inL1 0 1000000000 b _) ?_;dsimp only [go_sem];rw [show inR 0 1000000000 b=true from by simp only [inR,decide_eq_true_eq];omega];refine ZA [] (Xo 2) rfl rfl rfl ?_ ?_ ?_
 . (repeat first | dsimp only [go_sem] | simp only [nbr])
   try simp [mtL,mtB,mtS]
 . trivial
 rintro _ rfl
 (repeat first | dsimp only [go_sem] | simp only [nbr])
 refine ⟨_,rfl,?_⟩;(refine Zw ?_ ?_ ?_ rfl<;>dsimp only [id,go_sem]<;>simp [Za])
def rH (last n:Int):Lh:=[(0,.cells [I last] 3),(1,.cells [I n] 3)]
def eH (last n:Int):Lh:=[(0,.cells [I last] 3),(1,.cells [I n] 3),(2,.cells [.cl 133 [.p 0 0,.p 1 0]] 193)]
theorem Zrm (last n x:Int) (h1:-1<=last/\last<=100000) (h2:0<=n/\n<=100000):Cq 133 (rH last n) 2 [I x,.p 0 0,.p 1 0] (λo=>o=⟨false,B (inR (last+1) (n - 1) x),rH x n,2⟩):=by
 refine mw133 (by simp [hpb,rH]) (λo ho=>by subst ho;simp [rH,KX,KXL,KXP,KXH,KFL,KF]) ?_;dsimp only [Zze,Zxk,rH,go_sem];rw [Zf (n:=last+1) (by omega) (by omega),Zf (n:=n - 1) (by omega) (by omega)];refine call (inL1 (last+1) (n - 1) x _) ?_;dsimp only [go_sem];refine ⟨_,rfl,?_⟩;(refine Zw ?_ ?_ ?_ rfl<;>dsimp only [rH,id,go_sem]<;>simp [rH,Za])
theorem ZqP (last n x:Int) (h1:-1<=last/\last<=100000) (h2:0<=n/\n<=100000):Cq 210 (eH last n) 3 [I x,.p 2 0] (λo=>o=⟨false,B (!inR (last+1) (n - 1) x),eH x n,3⟩):=by
 refine mw210 (by simp [hpb,eH]) (λo ho=>by subst ho;simp [eH,KX,KXL,KXP,KXH,KFL,KF]) ?_;dsimp only [ZAl,Zzm,eH,go_sem];refine ZA [0,1] (Zrm last n x h1 h2) rfl rfl rfl ?_ ?_ ?_
 . (repeat first | dsimp only [rH,go_sem] | simp only [nbr])
   try simp [mtL,mtB,mtS]
 . (repeat first | dsimp only [rH,go_sem] | simp only [nbr])
   try simp [mtL,mtB,mtS]
 rintro _ rfl
 (repeat first | dsimp only [rH,go_sem] | simp only [nbr])
 refine ⟨_,rfl,?_⟩;(refine Zw ?_ ?_ ?_ rfl<;>dsimp only [eH,id,go_sem]<;>simp [eH,Za])
theorem ZqS (n:Int) (l:List Int) (last:Int) (h1:-1<=last/\last<=100000) (h2:0<=n/\n<=100000) (hr:Y9 n last l=true) (hl:l.length<=1000) (c:Bool) :
 Cq 180 (eH last n) 3 [.sl c 1 (l.map Zk),.cl 210 [.p 2 0]] (λo=>o=⟨false,I (-1),eH (ZeA last l) n,3⟩):=by
 refine mw180 (by simp [hpb,eH]) (λo ho=>by subst ho;simp [eH,KX,KXL,KXP,KXH,KFL,KF]) ?_;dsimp only [ZxH,ZvT,eH,go_sem];simp only [List.length_map];refine Ym (λq:Nat × Int=>[(8,I q.1)]) (λq=>[(0,.cells [I q.2] 3)]) (λq=>q.1<=l.length/\(-1<=q.2/\q.2<=100000)/\Y9 n q.2 (l.drop q.1)=true/\ZeA q.2 (l.drop q.1)=ZeA last l) (λq=>l.length - q.1) (0,last) ⟨Nat.zero_le _,h1,hr,rfl⟩ ?_ ?_
 . (refine Zj ?_ ?_ ?_ rfl rfl<;>dsimp only [Zk,id,go_sem]<;>simp [Zk,Za])
 rintro ⟨k,cur⟩ ⟨hk,hc,hi,hj⟩;simp only at hk hc hi hj;dsimp only [go_sem];by_cases hlt:k < l.length
 . refine Zs (by simpa using hlt) ?_;dsimp only [go_sem];refine Zn k hlt rfl ?_;dsimp only [Zk,go_sem];rw [List.drop_eq_getElem_cons hlt] at hi hj;simp only [Y9,Bool.and_eq_true] at hi;simp only [ZeA] at hj;have hx:inR (cur+1) (n - 1) l[k]=true:=hi.1;refine ZA [0,1,2] (ZqP cur n l[k] hc h2) rfl rfl rfl ?_ ?_ ?_
   . (repeat first | dsimp only [eH,go_sem] | simp only [nbr])
     try simp [mtL,mtB,mtS]
   . (repeat first | dsimp only [eH,go_sem] | simp only [nbr])
     try simp [mtL,mtB,mtS]
   rintro _ rfl
   (repeat first | dsimp only [eH,go_sem] | simp only [nbr])
   rw [hx];refine Zo rfl ?_;dsimp only [go_sem];rw [Zf (n:=(k:Int)+1) (by omega) (by omega)];refine ⟨(k+1,l[k]),⟨hlt,by simp only [inR,decide_eq_true_eq] at hx;simp only;omega,hi.2,hj⟩,by simp only;omega,?_⟩;(refine Zj ?_ ?_ ?_ rfl rfl<;>dsimp only [Zk,id,go_sem]<;>simp [Zk,Za])
 refine Zo (by simp;omega) ?_;dsimp only [go_sem];have:k=l.length:=by omega
 subst this;rw [List.drop_length,ZeA] at hj;rw [<- hj];refine ⟨_,rfl,?_⟩;(refine Zw ?_ ?_ ?_ rfl<;>dsimp only [eH,id,go_sem]<;>simp [eH,Za])
theorem ZoT (n:Int) (l:List Int) (last:Int) (h1:-1<=last/\last<=100000) (h2:0<=n/\n<=100000) (hr:Y9 n last l=true) (hl:l.length<=1000) (c:Bool) :
 Cq 107 (eH last n) 3 [.sl c 1 (l.map Zk),.cl 210 [.p 2 0]] (λo=>o=⟨false,B false,eH (ZeA last l) n,3⟩):=by
 refine mw107 (by simp [hpb,eH]) (λo ho=>by subst ho;simp [eH,KX,KXL,KXP,KXH,KFL,KF]) ?_;dsimp only [Zxr,ZAq,eH,go_sem];refine ZA [0,1,2] (ZqS n l last h1 h2 hr hl c) rfl rfl rfl ?_ ?_ ?_
 . (repeat first | dsimp only [eH,go_sem] | simp only [nbr])
   try simp [mtL,mtB,mtS,Zc,Za,Zk,KFL,KF]
 . (repeat first | dsimp only [eH,go_sem] | simp only [nbr])
   try simp [mtL,mtB,mtS]
 rintro _ rfl
 (repeat first | dsimp only [eH,go_sem] | simp only [nbr])
 refine ⟨_,rfl,?_⟩;(refine Zw ?_ ?_ ?_ rfl<;>dsimp only [eH,id,go_sem]<;>simp [eH,Za])
theorem ZoD (n:Int) (l:List Int) (last:Int) (h1:-1<=last/\last<=100000) (h2:0<=n/\n<=100000) (hr:Y9 n last l=true) (hl:l.length<=1000) (c:Bool) :
 Cq 132 (rH last n) 2 [.sl c 1 (l.map Zk),.cl 133 [.p 0 0,.p 1 0]] (λo=>o=⟨false,B true,rH (ZeA last l) n,2⟩):=by
 refine mw132 (by simp [hpb,rH]) (λo ho=>by subst ho;simp [rH,KX,KXL,KXP,KXH,KFL,KF]) ?_;dsimp only [ZyK,Zyq,rH,go_sem];refine ZA [0,1,2] (ZoT n l last h1 h2 hr hl c) rfl rfl rfl ?_ ?_ ?_
 . (repeat first | dsimp only [eH,go_sem] | simp only [nbr])
   try simp [mtL,mtB,mtS,Zc,Za,Zk,KFL,KF]
 . (repeat first | dsimp only [eH,go_sem] | simp only [nbr])
   try simp [mtL,mtB,mtS]
 rintro _ rfl
 (repeat first | dsimp only [eH,go_sem] | simp only [nbr])
 refine ⟨_,rfl,?_⟩;(refine Zw ?_ ?_ ?_ rfl<;>dsimp only [rH,id,go_sem]<;>simp [rH,Za])
theorem ZbA (n:Int) (l:List Int) (h2:0<=n/\n<=100000) (hr:Y9 n (-1) l=true) (hl:l.length<=1000) (c:Bool):Cp 78 [.sl c 1 (l.map Zk),I n] (B true):=by
 refine t78.1 (by simp [Za,Zk]) (by simp) ?_;dsimp only [c78,r78,go_sem];refine ZA [1,0] (ZoD n l (-1) (by omega) h2 hr hl c) rfl rfl rfl ?_ ?_ ?_
 . (repeat first | dsimp only [rH,go_sem] | simp only [nbr])
   try simp [mtL,mtB,mtS,Zc,Za,Zk,KFL,KF]
 . (repeat first | dsimp only [rH,go_sem] | simp only [nbr])
   try simp [mtL,mtB,mtS]
 rintro _ rfl
 (repeat first | dsimp only [rH,go_sem] | simp only [nbr])
end Go.Proofs.YtongccnhomncnaaGreatDoor.Ld
namespace Go.Azalai
def ZaX:Nat->List Int->List (Nat × Int × Bool)
 | _,[]=>[]
 | c,x :: l=>(c,x,true) :: ZaX (c+1) l
def V6 (l:List Int):List (Nat × Int × Bool):=ZaX 0 l
theorem Zdc {x:Int}:∀ {l:List Int} {c:Nat},ZaX c (l ++ [x])=ZaX c l ++ [(c+l.length,x,true)]
 | [],_=>rfl
 | y :: l,c=>by simp only [List.cons_append,ZaX,Zdc,List.length_cons];rw [show c+1+l.length=c+(l.length+1) from by omega]
theorem Zfi:∀ {l:List Int} {c:Nat} {e:Nat × Int × Bool},e ∈ ZaX c l->e.2.1 ∈ l
 | [],_,_,h=>by simp [ZaX] at h
 | y :: l,c,e,h=>by
  simp only [ZaX,List.mem_cons] at h;rcases h with rfl | h
  . simp
  . exact List.mem_cons_of_mem _ (Zfi h)
theorem ZeL:∀ {l:List Int} {c:Nat},(ZaX c l).length=l.length
 | [],_=>rfl
 | y :: l,c=>by simp only [ZaX,List.length_cons,ZeL]
end Go.Azalai
namespace Go.Proofs.YtongccnhomncnaaGreatDoor.Ld
open Go Go.Sx Go.Azalai
abbrev kI:Int->Value:=λn=>.int .i64 n
abbrev bV:Bool->SV:=λb=>B b
theorem ZeB:KeyT Tryz.prog 3 kI (λn=>.v (kI n)):=Zne u3
theorem ZEt:Tryz.prog.underlying 168=some (.map 3 4):=by kernel_rfl
theorem Zd0 {x:Int} {l:List Int} (h:x ∉ l):V7 l.length x true (V6 l)=V6 (l ++ [x])/\ZaS l.length x (V6 l)=l.length+1:=by
 have hn:Xk x (V6 l)=none:=by
  rw [Y5];intro e he hx;exact h (hx ▸ Zfi he)
 refine ⟨?_,by simp [ZaS,hn]⟩;rw [UA hn,V6,V6,Zdc,Nat.zero_add]
theorem ZbH {done q:List Int} {k:Nat} (h:k < q.length) (hn:(done ++ q).Nodup):q[k] ∉ done ++ q.take k:=by
 have e:done ++ q=(done ++ q.take k) ++ (q[k] :: q.drop (k+1)):=by
  rw [List.append_assoc,<- List.drop_eq_getElem_cons h,List.take_append_drop]
 rw [e] at hn;intro hm;exact (List.nodup_append.1 hn).2.2 _ hm _ (List.mem_cons_self ..) rfl
theorem WH (l:List Pack) (t:Tied) (hl:l.length<=30) (hp:l.all YB=true) (ht:ZeC l.length t=true) (c d:Bool):Cq 28 [] 0 [.sl c 11 (l.map Zx),.sl d 3 [Z2 t]] (λo=>o=⟨false,.tup [],[],0⟩):=by
 simp only [ZeC,Bool.and_eq_true,decide_eq_true_eq] at ht;obtain ⟨⟨⟨⟨hr1,hr2⟩,hr3⟩,hlen⟩,hnd⟩:=ht;have hlen':t.left.length+(t.right.length+t.top.length)<=10:=by simpa [Zap] using hlen
 have hnd1:([] ++ t.left).Nodup:=(List.nodup_append.1 hnd).1;have hnd3:((t.left ++ t.right) ++ t.top).Nodup:=by rw [List.append_assoc];exact hnd
 have hnd2:(t.left ++ t.right).Nodup:=(List.nodup_append.1 hnd3).1;refine m28 (by simp [hpb]) (λo ho=>by subst ho;simp [KX,KXL,KXP]) ?_;dsimp only [c28,r28,go_sem];simp only [List.length_map];have g30:decide ((l.length:Int)<=30)=true:=by simp;omega
 rw [g30];refine ZI rfl ?_;dsimp only [go_sem];refine ZI rfl ?_;dsimp only [go_sem];refine call (ZlO l (by omega) c) ?_;rw [hp];dsimp only [go_sem];refine ZA [] (Xo 50) rfl rfl rfl ?_ ?_ ?_
 . (repeat first | dsimp only [go_sem] | simp only [nbr])
   try simp [mtL,mtB,mtS]
 . trivial
 rintro _ rfl
 (repeat first | dsimp only [go_sem] | simp only [nbr])
 refine Vp rfl rfl rfl ?_;dsimp only [go_sem];refine ZX 2 ?_;dsimp only [Zb,go_sem];refine Zs rfl ?_;dsimp only [go_sem];refine ixs 0 _ rfl rfl ?_;dsimp only [Z2,go_sem];refine call (ZoX t) ?_;dsimp only [Z2,go_sem];refine ZX 4 ?_;dsimp only [Zb,go_sem];refine Zs rfl ?_;dsimp only [go_sem];refine ixa 0 rfl (by decide) ?_;dsimp only [go_sem];simp only [List.length_map];refine call (ZbA l.length t.left (by omega) hr1 (by omega) false) ?_
 dsimp only [go_sem];refine ZA [] (Xo 51) rfl rfl rfl ?_ ?_ ?_
 . (repeat first | dsimp only [go_sem] | simp only [nbr])
   try simp [mtL,mtB,mtS]
 . trivial
 rintro _ rfl
 (repeat first | dsimp only [go_sem] | simp only [nbr])
 refine Ym (λk:Nat=>[(39,I k),(40,.any)]) (λk=>[(0,.map (mpS kI bV (V6 (t.left.take k))) (k))]) (λk=>k<=t.left.length) (λk=>t.left.length - k) 0 (Nat.zero_le _) ?_ ?_
 . (refine Zj ?_ ?_ ?_ rfl rfl<;>dsimp only [Zk,Zx,mpS,V6,ZaX,id,go_sem]<;>simp [Zk,Zx,mpS,V6,ZaX,Za])
 intro k hk;dsimp only [go_sem];by_cases hlt:k < t.left.length
 . refine Zs (by simpa using hlt) ?_;dsimp only [go_sem];refine Zn k hlt rfl ?_;dsimp only [Zk,go_sem];have hs:=Zd0 (l:=t.left.take k) (x:=t.left[k]) (by have:=ZbH hlt hnd1;simpa using this);refine Wu (key:=kI) (val:=bV) (sv:=λn=>.v (kI n)) (L:=V6 (t.left.take k)) (k:=t.left[k]) (v:=true) (ins:=false) rfl rfl ZEt ZeB rfl rfl (λ_ _ _ e=>by cases e) ?_;have hE:(t.left.take k).length=k:=by simp;omega
   rw [hE] at hs;rw [hs.1,hs.2];dsimp only [go_sem];rw [Zf (n:=(k:Int)+1) (by omega) (by omega)];refine ⟨k+1,hlt,by omega,?_⟩;rw [List.take_succ_eq_append_getElem hlt];try rw [<- List.append_assoc]
   (refine Zj ?_ ?_ ?_ rfl rfl<;>dsimp only [Zk,Zx,ZD,Zt,Nat.add_assoc,id,go_sem]<;>simp [Zk,Zx,ZD,Zt,Nat.add_assoc,Za])
 refine Zo (by simp;omega) ?_;dsimp only [go_sem];have hke:k=t.left.length:=by omega
 subst hke;simp only [List.take_length,List.length_map];rw [Zf (n:=0+(t.left.length:Int)) (by omega) (by omega)];dsimp only [Zb,go_sem];refine Zs rfl ?_;dsimp only [go_sem];refine ixa 1 rfl (by decide) ?_;dsimp only [go_sem];simp only [List.length_map];refine call (ZbA l.length t.right (by omega) hr2 (by omega) false) ?_;dsimp only [go_sem];refine ZA [] (Xo 51) rfl rfl rfl ?_ ?_ ?_
 . (repeat first | dsimp only [go_sem] | simp only [nbr])
   try simp [mtL,mtB,mtS]
 . trivial
 rintro _ rfl
 (repeat first | dsimp only [go_sem] | simp only [nbr])
 refine Ym (λk:Nat=>[(39,I k),(40,.any)]) (λk=>[(0,.map (mpS kI bV (V6 (t.left ++ t.right.take k))) (t.left.length+k))]) (λk=>k<=t.right.length) (λk=>t.right.length - k) 0 (Nat.zero_le _) ?_ ?_
 . (refine Zj ?_ ?_ ?_ rfl rfl<;>dsimp only [Zk,Zx,ZD,Zt,id,go_sem]<;>simp [Zk,Zx,ZD,Zt,Za])
 intro k hk;dsimp only [go_sem];by_cases hlt:k < t.right.length
 . refine Zs (by simpa using hlt) ?_;dsimp only [go_sem];refine Zn k hlt rfl ?_;dsimp only [Zk,go_sem];have hs:=Zd0 (l:=t.left ++ t.right.take k) (x:=t.right[k]) (by have:=ZbH hlt hnd2;simpa using this);refine Wu (key:=kI) (val:=bV) (sv:=λn=>.v (kI n)) (L:=V6 (t.left ++ t.right.take k)) (k:=t.right[k]) (v:=true) (ins:=false) rfl rfl ZEt ZeB rfl rfl (λ_ _ _ e=>by cases e) ?_;have hE:(t.left ++ t.right.take k).length=t.left.length+k:=by simp;omega
   rw [hE] at hs;rw [hs.1,hs.2];dsimp only [go_sem];rw [Zf (n:=(k:Int)+1) (by omega) (by omega)];refine ⟨k+1,hlt,by omega,?_⟩;rw [List.take_succ_eq_append_getElem hlt];try rw [<- List.append_assoc]
   (refine Zj ?_ ?_ ?_ rfl rfl<;>dsimp only [Zk,Zx,ZD,Zt,Nat.add_assoc,id,go_sem]<;>simp [Zk,Zx,ZD,Zt,Nat.add_assoc,Za])
 refine Zo (by simp;omega) ?_;dsimp only [go_sem];have hke:k=t.right.length:=by omega
 subst hke;simp only [List.take_length,List.length_map];rw [Zf (n:=0+(t.left.length:Int)+(t.right.length:Int)) (by omega) (by omega)];dsimp only [Zb,go_sem];refine Zs rfl ?_;dsimp only [go_sem];refine ixa 2 rfl (by decide) ?_;dsimp only [go_sem];simp only [List.length_map];refine call (ZbA l.length t.top (by omega) hr3 (by omega) false) ?_;dsimp only [go_sem];refine ZA [] (Xo 51) rfl rfl rfl ?_ ?_ ?_
 . (repeat first | dsimp only [go_sem] | simp only [nbr])
   try simp [mtL,mtB,mtS]
 . trivial
 rintro _ rfl
 (repeat first | dsimp only [go_sem] | simp only [nbr])
 refine Ym (λk:Nat=>[(39,I k),(40,.any)]) (λk=>[(0,.map (mpS kI bV (V6 ((t.left ++ t.right) ++ t.top.take k))) (t.left.length+t.right.length+k))]) (λk=>k<=t.top.length) (λk=>t.top.length - k) 0 (Nat.zero_le _) ?_ ?_
 . (refine Zj ?_ ?_ ?_ rfl rfl<;>dsimp only [Zk,Zx,ZD,Zt,id,go_sem]<;>simp [Zk,Zx,ZD,Zt,Za])
 intro k hk;dsimp only [go_sem];by_cases hlt:k < t.top.length
 . refine Zs (by simpa using hlt) ?_;dsimp only [go_sem];refine Zn k hlt rfl ?_;dsimp only [Zk,go_sem];have hs:=Zd0 (l:=(t.left ++ t.right) ++ t.top.take k) (x:=t.top[k]) (by have:=ZbH hlt hnd3;simpa using this);refine Wu (key:=kI) (val:=bV) (sv:=λn=>.v (kI n)) (L:=V6 ((t.left ++ t.right) ++ t.top.take k)) (k:=t.top[k]) (v:=true) (ins:=false) rfl rfl ZEt ZeB rfl rfl (λ_ _ _ e=>by cases e) ?_
   have hE:((t.left ++ t.right) ++ t.top.take k).length=t.left.length+t.right.length+k:=by simp;omega
   rw [hE] at hs;rw [hs.1,hs.2];dsimp only [go_sem];rw [Zf (n:=(k:Int)+1) (by omega) (by omega)];refine ⟨k+1,hlt,by omega,?_⟩;rw [List.take_succ_eq_append_getElem hlt];try rw [<- List.append_assoc]
   (refine Zj ?_ ?_ ?_ rfl rfl<;>dsimp only [Zk,Zx,ZD,Zt,Nat.add_assoc,id,go_sem]<;>simp [Zk,Zx,ZD,Zt,Nat.add_assoc,Za])
 refine Zo (by simp;omega) ?_;dsimp only [go_sem];have hke:k=t.top.length:=by omega
 subst hke;simp only [List.take_length,List.length_map];rw [Zf (n:=0+(t.left.length:Int)+(t.right.length:Int)+(t.top.length:Int)) (by omega) (by omega)];dsimp only [Zb,go_sem];refine Zo rfl ?_;dsimp only [go_sem];refine call (Zky t (by omega) (by omega) (by omega)) ?_;dsimp only [go_sem];simp only [List.length_map];rw [show decide (((Zap t).length:Int)<=10)=true from by simp;omega];refine ZA [] (Xo 51) rfl rfl rfl ?_ ?_ ?_
 . (repeat first | dsimp only [go_sem] | simp only [nbr])
   try simp [mtL,mtB,mtS]
 . trivial
 rintro _ rfl
 (repeat first | dsimp only [go_sem] | simp only [nbr])
 dsimp only [Zb,go_sem];refine Zo rfl ?_;dsimp only [go_sem];refine ZI rfl ?_;dsimp only [go_sem];refine ZI rfl ?_;dsimp only [go_sem];refine Zhx rfl rfl ZEt rfl ?_;dsimp only [go_sem];refine ZI rfl ?_;dsimp only [go_sem];refine ZI rfl ?_;dsimp only [go_sem];have hcnt:((mpS kI bV (V6 (t.left ++ t.right ++ t.top))).length:Int)=0+(t.left.length:Int)+(t.right.length:Int)+(t.top.length:Int):=by
  simp only [mpS,List.length_map,V6,ZeL,List.length_append];omega
 rw [hcnt];rw [show (decide (((1:Nat):Int)<=8) && (0+(t.left.length:Int)+(t.right.length:Int)+(t.top.length:Int) == 0+(t.left.length:Int)+(t.right.length:Int)+(t.top.length:Int)))=true from by simp];refine ZA [] (Xo 51) rfl rfl rfl ?_ ?_ ?_
 . (repeat first | dsimp only [go_sem] | simp only [nbr])
   try simp [mtL,mtB,mtS]
 . trivial
 rintro _ rfl
 (repeat first | dsimp only [go_sem] | simp only [nbr])
 refine ⟨_,rfl,?_⟩;(refine Zw ?_ ?_ ?_ rfl<;>dsimp only [id,go_sem]<;>simp [Za])
end Go.Proofs.YtongccnhomncnaaGreatDoor.Ld
namespace Go.Proofs.YtongccnhomncnaaGreatDoor
open Go Go.Sx
def c26:FB:=(.seq (.reg [
 o1 2 (.alloc [.int .i64 0] 40)])
 (.rcv [
 o1 3 (.mkf 74 [.t 2])] (.t 3)
 (.tail (.seq (.reg [
 m1 4 0,
 o1 5 (.calvm (.t 4) [])])
 (.seq (.reg [
 ⟨none,.st (.t 2) (.c (.int .i64 0)) 1,none,[]⟩])
 .ret)))))
def r26:List RV:=[.cell 2 1 false]
theorem n26:Tryz.f26.ntmps=6:=by kernel_rfl
theorem b26:Z4 Tryz.prog 26=true:=by kernel_rfl
theorem ZCr:U9 Tryz.prog c26 ((Tryz.f26.body).getD .skip)=true:=by kernel_rfl
theorem ZCM:Y2 Tryz.prog r26 Tryz.f26.results.toList=true:=by kernel_rfl
theorem m26 {n0:Nat} {hp0:Lh} {args:Ls} {Zz:Ot->Prop} (hh:hpb n0 hp0) (hx:∀ o,Zz o->KX o.res/\KXP o.hp) (h:fx Tryz.prog n0 c26 ⟨YT 0 args,hp0,n0,6,[]⟩ (X0 r26 λo=>∃ o',Zz o'/\WI n0 o o')) (hA:Nat.ble args.length 6=true:=by rfl):Cq 26 hp0 n0 args Zz:=U7 Tryz.func26 rfl b26 ZCr ZCM n26 (Nat.le_of_ble_eq_true hA) hh hx h
def l74:List Ins:=[
 m1 1 4]
def k74:SC:=(sr1 [m1 5 1,o1 6 (.raw (Go.Op.binOp Go.BinOp.neq 20 (Go.Operand.tmp 5) (Go.Operand.const Go.Value.nilIface) 20) 4)] (Ji 6 (sr1 [m1 8 1,o1 9 (.raw (Go.Op.typeAssert (Go.Operand.tmp 8) 20 40 Bool.true) 164),m1 7 9,o1 10 (Je 7 0),o1 11 (Je 7
 1),m1 2 10,m1 3 11] (.seq (sr1 [m1 12 3,o1 13 (Jh 12)] (Ji 13 (.reg [m1 14 1,⟨none,.raw (Go.Op.panic (Go.Operand.tmp 14)) 0,none,[]⟩]) .skip)) (.reg [m1 15 2,Js 0 15 1]))) .skip))
theorem q74:RcF Tryz.prog 74 4 l74 k74 16:=⟨⟨Tryz.f74,_,_,_,_,Tryz.func74,rfl,rfl,by kernel_rfl,by kernel_rfl,by kernel_rfl,by kernel_rfl,by decide,rfl⟩,by kernel_rfl⟩
end Go.Proofs.YtongccnhomncnaaGreatDoor
namespace Go.Sx
open Go Go.RowKit
section
variable {P:Program} {ty T T':TypeId} {ix jx:Operand} {σ : St} {r:KT} {K:RK} {d:Option Nat} {s:SV}
theorem Zgz {pt:TypeId} (hu:P.underlying T'=some (.interface (P.methodsAt T'))) (hi:VL σ ix = .ifc T s) (h:YE d (.v (.bool true)) none σ r K):RAW P d (.binOp .neq T' ix (.const .nilIface) pt) ty σ r K:=by
 intro o C E a w next Q e1 e2 e3 hS hn hq;have hiv:=Xv hS hi (λ_ _ _=>by simp);simp only [R] at hiv;obtain ⟨x,hx,hR⟩:=hiv;have hb:=run_neq_held_nil (P:=P) w T' T x hu;have hy:(execOp a.eval o).run P w = .ok (.value (.bool true)) w:=by
  obtain ⟨dst',op',ty',pos,after,guard⟩:=o;simp only at e2;subst e2;have h0:a.eval (.const .nilIface) = .nilIface:=rfl;have hg:(eqGuard .neq T' ix (.const .nilIface) (.iface T x) .nilIface).run P w = .ok () w:=by
   simp [eqGuard,Sem.run_pure]
  simp only [execOp,Sem.run_bind,hx,h0,hg,hb,Result.andThen_ok,Sem.run_pure]
 refine ZC hy (by simp) ?_;show next (a.put o.dst _) _;rw [e1];exact Xy h hS (by simp only [R]) hn
theorem UP {pt:TypeId} (hu:P.underlying T'=some (.interface (P.methodsAt T'))) (hi:VL σ ix = .v .nilIface) (h:YE d (.v (.bool false)) none σ r K):RAW P d (.binOp .neq T' ix (.const .nilIface) pt) ty σ r K:=by
 intro o C E a w next Q e1 e2 e3 hS hn hq;have hx:=Xv hS hi (λ_ _ _=>by simp);simp only [R] at hx;have hb:=run_neq_nil_nil (P:=P) w T' hu;have hy:(execOp a.eval o).run P w = .ok (.value (.bool false)) w:=by
  obtain ⟨dst',op',ty',pos,after,guard⟩:=o;simp only at e2;subst e2;have h0:a.eval (.const .nilIface) = .nilIface:=rfl;have hg:(eqGuard .neq T' ix (.const .nilIface) .nilIface .nilIface).run P w = .ok () w:=by
   simp [eqGuard,Sem.run_pure]
  simp only [execOp,Sem.run_bind,hx,h0,hg,hb,Result.andThen_ok,Sem.run_pure]
 refine ZC hy (by simp) ?_;show next (a.put o.dst _) _;rw [e1];exact Xy h hS (by simp only [R]) hn
end
end Go.Sx
namespace Go.Azalai
structure CarB (l:List Pack) (t:Tied):Prop where
 hl:l.length<=30
 hp:l.all YB=true
 ht:ZeC l.length t=true
theorem CarB.facts {l:List Pack} {t:Tied} (h:CarB l t):(∀ i ∈ Zap t,0<=i/\i < (l.length:Int))/\(Zap t).length<=10:=by
 have ht:=h.ht;simp only [ZeC,Bool.and_eq_true,decide_eq_true_eq] at ht;obtain ⟨⟨⟨⟨hr1,hr2⟩,hr3⟩,hlen⟩,hnd⟩:=ht;refine ⟨λi hi=>?_,hlen⟩;simp only [Zap,List.mem_append] at hi;rcases hi with hi | hi | hi
 . exact UB (by omega) hr1 i hi
 . exact UB (by omega) hr2 i hi
 . exact UB (by omega) hr3 i hi
theorem CarB.left {l:List Pack} {t:Tied} (h:CarB l t):∀ i ∈ t.left,0<=i/\i < (l.length:Int):=λi hi=>h.facts.1 i (by simp [Zap,hi])
theorem CarB.right {l:List Pack} {t:Tied} (h:CarB l t):∀ i ∈ t.right,0<=i/\i < (l.length:Int):=λi hi=>h.facts.1 i (by simp [Zap,hi])
theorem CarB.len {l:List Pack} {t:Tied} (h:CarB l t):t.left.length<=10/\t.right.length<=10/\t.top.length<=10:=by
 have:=h.facts.2;simp [Zap] at this;omega
end Go.Azalai
namespace Go.Proofs.YtongccnhomncnaaGreatDoor.Ld
open Go Go.Sx Go.Azalai
theorem u20:Tryz.prog.underlying 20=some (.interface (Tryz.prog.methodsAt 20)):=by kernel_rfl
def Zde (l:List Pack) (t:Tied) (a b w:Span) (c:Bool):Lh:=[(0,.cells [.sl c 11 (l.map Zx)] 43),(1,.cells (Z2 t) 45),(2,.cells (Ze a) 27),(3,.cells (Ze b) 27),(4,.cells (Ze w) 27)]
theorem ZAt (l:List Pack) (t:Tied) (c:Bool) (h:CarB l t):Cq 36 (Zde l t Z0 Z0 Z0 c) 5 [.p 0 0,.p 1 0,.p 2 0,.p 3 0,.p 4 0] (λo=>o=⟨false,.tup [],Zde l t (Ys l t.left) (Ys l t.right) (Ys l (Zap t)) c,5⟩):=by
 have hlen:=h.len;have hl:=h.hl;have hall:=h.facts;refine m36 (by simp [hpb,Zde]) (λo ho=>by subst ho;simp [Zde,KX,KXL,KXP,KXH,KFL,KF,Za,Zx,Z2,Zk,Ze]) ?_;dsimp only [c36,r36,Zde,Z2,Ze,Z0,go_sem];refine ZA [] (WH l t h.hl h.hp h.ht c true) rfl rfl rfl ?_ ?_ ?_
 . (repeat first | dsimp only [Z2,go_sem] | simp only [nbr])
   try simp [mtL,mtB,mtS,Zc,Za,Zx,Zk,KFL,KF,KFR]
 . trivial
 rintro _ rfl
 (repeat first | dsimp only [go_sem] | simp only [nbr])
 refine call (ZdD l h.hp (by omega) c) ?_;dsimp only [go_sem];refine call (WU l t t.left h.hp (by omega) h.left (by omega) false) ?_;dsimp only [Ze,go_sem];refine call (WU l t t.right h.hp (by omega) h.right (by omega) false) ?_;dsimp only [Ze,go_sem];refine call (Zky t (by omega) (by omega) (by omega)) ?_;dsimp only [go_sem];refine call (WU l t (Zap t) h.hp (by omega) hall.1 (by omega) false) ?_;dsimp only [Ze,go_sem]
 refine ⟨_,rfl,?_⟩;(refine Zw ?_ ?_ ?_ rfl<;>dsimp only [Zde,Zx,Z2,Zk,Ze,id,go_sem]<;>simp [Zde,Zx,Z2,Zk,Ze,Za])
theorem Zzu (l:List Pack) (t:Tied) (c:Bool) (h:CarB l t):Cq 26 (Zde l t Z0 Z0 Z0 c) 5 [.cl 36 [.p 0 0,.p 1 0,.p 2 0,.p 3 0,.p 4 0]] (λo=>o=⟨false,I 0,Zde l t (Ys l t.left) (Ys l t.right) (Ys l (Zap t)) c,5⟩):=by
 refine m26 (by simp [hpb,Zde]) (λo ho=>by subst ho;simp [Zde,KX,KXL,KXP,KXH,KFL,KF,Za,Zx,Z2,Ze,Zk,Cm.breedL,Cm.camelL]) ?_;dsimp only [c26,r26,Zde,go_sem];refine ZA [0,1,2,3,4] (ZAt l t c h) rfl rfl rfl ?_ ?_ ?_
 . (repeat first | dsimp only [Zde,go_sem] | simp only [nbr])
   try simp [mtL,mtB,mtS]
 . (repeat first | dsimp only [Zde,go_sem] | simp only [nbr])
   try simp [mtL,mtB,mtS,Zc,KFL,KF,Za,Zx,Z2,Ze,Zk,Cm.breedL,Cm.camelL]
 rintro _ rfl
 (repeat first | dsimp only [Zde,go_sem] | simp only [nbr])
 refine ⟨_,_,_,_,q74,?_⟩;dsimp only [l74,k74,go_sem];refine ⟨rfl,?_⟩;refine UP u20 rfl ?_;dsimp only [go_sem];refine Zo rfl ?_;dsimp only [go_sem];refine ⟨_,rfl,?_⟩;(refine Zw ?_ ?_ ?_ rfl<;>dsimp only [Zde,Zx,Z2,Ze,Zk,Cm.breedL,Cm.camelL,id,go_sem]<;>simp [Zde,Zx,Z2,Ze,Zk,Cm.breedL,Cm.camelL,Za])
theorem ZnB (l:List Pack) (t:Tied) (c:Bool) (h:CarB l t):Cp 10 [.sl c 11 (l.map Zx),.agg (Z2 t)] (.tup [.agg (Ze (Ys l t.left)),.agg (Ze (Ys l t.right)),.agg (Ze (Ys l (Zap t))),I 0]):=by
 refine t10.1 (by simp [Za,Zx,Z2,Zk]) (by simp [Ze]) ?_;dsimp only [c10,r10,Z2,go_sem];refine ZA [0,1,2,3,4] (Zzu l t c h) rfl rfl rfl ?_ ?_ ?_
 . (repeat first | dsimp only [Zde,go_sem] | simp only [nbr])
   try simp [mtL,mtB,mtS]
 . (repeat first | dsimp only [Zde,Ze,Z0,go_sem] | simp only [nbr])
   try simp [mtL,mtB,mtS,Zc,KFL,KF,Za,Zx,Z2,Zk]
 rintro _ rfl
 (repeat first | dsimp only [Zde,Z2,Ze,go_sem] | simp only [nbr])
def Zbj (l:List Pack) (t:Tied) (b:Breed) (m:Camel) (bound is:Int) (c:Bool):Lh:=[(0,.cells [.sl c 11 (l.map Zx)] 43),(1,.cells (Z2 t) 45),(2,.cells (Cm.breedL b) 29),(3,.cells (Cm.camelL m) 31),(4,.cells [I bound] 3),(5,.cells [U8 is] 5)]
theorem Zw6 (l:List Pack) (t:Tied) (b:Breed) (m:Camel) (bound:Int) (c:Bool) (h:CarB l t) (he:Uz b m=0) (hb:0<=bound/\bound<=1000000000) :
 Cq 27 (Zbj l t b m bound 0 c) 6 [.p 0 0,.p 1 0,.p 2 0,.p 3 0,.p 4 0,.p 5 0] (λo=>o=⟨false,.tup [],Zbj l t b m bound (ZcW (Zeh b m) l t bound) c,6⟩):=by
 have hlen:=h.len;have hl:=h.hl;have hall:=h.facts;refine m27 (by simp [hpb,Zbj]) (λo ho=>by subst ho;simp [Zbj,KX,KXL,KXP,KXH,KFL,KF,Za,Zx,Z2,Zk,Cm.breedL,Cm.camelL]) ?_;dsimp only [c27,r27,Zbj,Z2,Cm.breedL,Cm.camelL,go_sem];refine ZA [] (WH l t h.hl h.hp h.ht c true) rfl rfl rfl ?_ ?_ ?_
 . (repeat first | dsimp only [Z2,go_sem] | simp only [nbr])
   try simp [mtL,mtB,mtS,Zc,Za,Zx,Zk,KFL,KF,KFR]
 . trivial
 rintro _ rfl
 (repeat first | dsimp only [go_sem] | simp only [nbr])
 refine call (Cm.carries_ok b m) ?_;dsimp only [Cm.sres,Ze,go_sem];rw [if_pos he,he];refine ZA [] (Xo 0) rfl rfl rfl ?_ ?_ ?_
 . (repeat first | dsimp only [go_sem] | simp only [nbr])
   try simp [mtL,mtB,mtS]
 . trivial
 rintro _ rfl
 (repeat first | dsimp only [go_sem] | simp only [nbr])
 refine ZA [] (Zdi bound hb) rfl rfl rfl ?_ ?_ ?_
 . (repeat first | dsimp only [go_sem] | simp only [nbr])
   try simp [mtL,mtB,mtS]
 . trivial
 rintro _ rfl
 (repeat first | dsimp only [go_sem] | simp only [nbr])
 refine call (ZdD l h.hp (by omega) c) ?_;dsimp only [go_sem];refine call (Zky t (by omega) (by omega) (by omega)) ?_;dsimp only [go_sem];refine call (WU l t (Zap t) h.hp (by omega) hall.1 (by omega) false) ?_;dsimp only [Ze,go_sem];refine call (Zc6 l t bound h.hp (by omega) h.left h.right (by omega) (by omega) hb) ?_;dsimp only [go_sem];have hF:ZcW (Zeh b m) l t bound=if (Ys l (Zap t)).lo > (Zeh b m).hi then 0 else if ZiK l t bound=2/\(Ys l (Zap t)).hi > (Zeh b m).lo then 1 else ZiK l t bound:=rfl
 rw [hF];generalize Ys l (Zap t)=w;generalize Zeh b m=can;generalize ZiK l t bound=q;by_cases h1:w.lo > can.hi
 . refine Zs (by simpa using h1) ?_;dsimp only [go_sem];repeat (refine gb ?_;dsimp only [go_sem])
   refine Zo (by simp) ?_;dsimp only [go_sem];rw [if_pos h1];refine ⟨_,rfl,?_⟩;(refine Zw ?_ ?_ ?_ rfl<;>dsimp only [Zbj,Zx,Z2,Zk,Cm.breedL,Cm.camelL,id,go_sem]<;>simp [Zbj,Zx,Z2,Zk,Cm.breedL,Cm.camelL,Za])
 refine Zo (by simpa using h1) ?_;dsimp only [go_sem];rw [if_neg h1];repeat (refine gb ?_;dsimp only [go_sem])
 by_cases h2:q=2/\w.hi > can.lo
 . refine Zs (by simpa using h2) ?_;dsimp only [go_sem];rw [if_pos h2];refine ⟨_,rfl,?_⟩;(refine Zw ?_ ?_ ?_ rfl<;>dsimp only [Zbj,Zx,Z2,Zk,Cm.breedL,Cm.camelL,id,go_sem]<;>simp [Zbj,Zx,Z2,Zk,Cm.breedL,Cm.camelL,Za])
 refine Zo (by rw [Bool.eq_false_iff];intro h;exact h2 (by simpa using h)) ?_;dsimp only [go_sem];rw [if_neg h2];refine ⟨_,rfl,?_⟩;(refine Zw ?_ ?_ ?_ rfl<;>dsimp only [Zbj,Zx,Z2,Zk,Cm.breedL,Cm.camelL,id,go_sem]<;>simp [Zbj,Zx,Z2,Zk,Cm.breedL,Cm.camelL,Za])
theorem Zwj (l:List Pack) (t:Tied) (b:Breed) (m:Camel) (bound:Int) (c:Bool) (h:CarB l t) (he:Uz b m=0) (hb:0<=bound/\bound<=1000000000):Cq 26 (Zbj l t b m bound 0 c) 6 [.cl 27 [.p 0 0,.p 1 0,.p 2 0,.p 3 0,.p 4 0,.p 5 0]] (λo=>o=⟨false,I 0,Zbj l t b m bound (ZcW (Zeh b m) l t bound) c,6⟩):=by
 refine m26 (by simp [hpb,Zbj]) (λo ho=>by subst ho;simp [Zbj,KX,KXL,KXP,KXH,KFL,KF,Za,Zx,Z2,Ze,Zk,Cm.breedL,Cm.camelL]) ?_;dsimp only [c26,r26,Zbj,go_sem];refine ZA [0,1,2,3,4,5] (Zw6 l t b m bound c h he hb) rfl rfl rfl ?_ ?_ ?_
 . (repeat first | dsimp only [Zbj,go_sem] | simp only [nbr])
   try simp [mtL,mtB,mtS]
 . (repeat first | dsimp only [Zbj,go_sem] | simp only [nbr])
   try simp [mtL,mtB,mtS,Zc,KFL,KF,Za,Zx,Z2,Ze,Zk,Cm.breedL,Cm.camelL]
 rintro _ rfl
 (repeat first | dsimp only [Zbj,go_sem] | simp only [nbr])
 refine ⟨_,_,_,_,q74,?_⟩;dsimp only [l74,k74,go_sem];refine ⟨rfl,?_⟩;refine UP u20 rfl ?_;dsimp only [go_sem];refine Zo rfl ?_;dsimp only [go_sem];refine ⟨_,rfl,?_⟩;(refine Zw ?_ ?_ ?_ rfl<;>dsimp only [Zbj,Zx,Z2,Ze,Zk,Cm.breedL,Cm.camelL,id,go_sem]<;>simp [Zbj,Zx,Z2,Ze,Zk,Cm.breedL,Cm.camelL,Za])
theorem Zkd (b:Breed) (m:Camel) (l:List Pack) (t:Tied) (bound:Int) (c:Bool) (h:CarB l t) (he:Uz b m=0) (hb:0<=bound/\bound<=1000000000) :
 Cp 9 [.agg (Cm.breedL b),.agg (Cm.camelL m),.sl c 11 (l.map Zx),.agg (Z2 t),I bound] (.tup [U8 (ZcW (Zeh b m) l t bound),I 0]):=by
 refine t9.1 (by simp [Za,Zx,Z2,Zk,Cm.breedL,Cm.camelL,KFL,KF]) (by simp) ?_;dsimp only [c9,r9,Z2,Cm.breedL,Cm.camelL,go_sem];refine ZA [2,3,0,1,4,5] (Zwj l t b m bound c h he hb) rfl rfl rfl ?_ ?_ ?_
 . (repeat first | dsimp only [Zbj,go_sem] | simp only [nbr])
   try simp [mtL,mtB,mtS]
 . (repeat first | dsimp only [Zbj,Cm.breedL,Cm.camelL,go_sem] | simp only [nbr])
   try simp [mtL,mtB,mtS,Zc,KFL,KF,Za,Zx,Z2,Zk]
 rintro _ rfl
 (repeat first | dsimp only [Zbj,Z2,Cm.breedL,Cm.camelL,go_sem] | simp only [nbr])
end Go.Proofs.YtongccnhomncnaaGreatDoor.Ld
namespace Go.Proofs.YtongccnhomncnaaGreatDoor
open Go Go.Sx
def c221:SC:=(sr1 [Jw 4 Jf] (sr1 [m1 5 0,o1 6 (J1 226 5),m1 7 6,g1 8 7 true (.mv (.t 1)),g1 9 7 true (J1 226 8),g1 10 7 true (Jh 9),o1 11 (.pick (.t 7) (.t 10) Jf),m1 12 11,g1 13 12 false (.mv (.t 0)),g1 14 12 false (.mv (.t 1)),g1 15 12 false (Jb
 .lss 13 14),o1 16 (.pick (.t 12) Jt (.t 15)),m1 4 16] .ret))
def r221:List RV:=[.tmp 4]
theorem t221:Qt1 Tryz.prog 221 c221 r221 17:=ZF Tryz.func221
def c215:SC:=(sr1 [m1 8 1,o1 9 (Jc .add 8 1),m1 6 9] (.block 0 (.loop (.seq (sr1 [m1 10 6,m1 11 2,o1 12 (Jb .lss 10 11)] (Ji 12 .skip (.exit 0))) (.seq (.block 1 (sr1 [m1 15 6,m1 7 15] (.block 2 (.loop (.seq (.seq (.regd (Jr 15) [Jm 16 7,Jm 17 1,Jp 18
 (Jb .gtr 16 17) [0,1],Jp 19 (.mv (.t 18)) [2],Jq 20 19 true (.mv (.t 0)) [3],Jq 21 19 true (.mv (.t 7)) [3],Jq 22 19 true (Jx 20 21 1) [3,4,5],Jq 23 19 true (lf 22 1) [3,6],Jq 24 19 true (.mv (.t 0)) [3],Jq 25 19 true (.mv (.t 7)) [3],Jq 26 19 true
 (Jc .sub 25 1) [3,9],Jq 27 19 true (Jx 24 26 1) [3,8,10],Jq 28 19 true (lf 27 1) [3,11],Jq 29 19 true (J2 221 23 28) [3,7,12],Jp 30 (.pick (.t 19) (.t 29) Jf) [3,13]] 0 0 []) (Ji 30 .skip (.exit 2))) (.seq (.block 3 (.regd
 [0,1,5,6,7,8,9,10,11,12,13,14,2,3,4,15,16,17] [Jm 33 0,Jm 34 7,Jm 38 0,Jm 39 7,Jp 40 (Jc .sub 39 1) [6],Jp 41 (Jx 38 40 1) [5,7],Jp 42 (lf 41 1) [8],Jm 43 0,Jm 44 7,Jp 45 (Jx 43 44 1) [10,11],Jp 46 (lf 45 1) [12],Jp 47 (Jx 33 34 1)
 [0,1,5,6,7,8,9,13],.hide (.t 47),Jm 35 0,Jm 36 7,Jp 37 (Jc .sub 36 1) [3]] 0 1 [Ju 47 42 1 [0,1,5,6,7,8,9,13,14],⟨some 48,Jx 35 37 1,none,(Jr 16)⟩,Ju 48 46 1 (Jr 17)])) (.reg [m1 31 7,o1 32 (Jc .sub 31 1),m1 7 32]))))))) (.reg [m1 13 6,o1 14 (Jc .add
 13 1),m1 6 14]))))))
def r215:List RV:=[]
theorem n215:Tryz.f215.ntmps=49:=by kernel_rfl
theorem b215:Z4 Tryz.prog 215=true:=by kernel_rfl
theorem ZzU:YR Tryz.prog c215 ((Tryz.f215.body).getD .skip)=true:=by kernel_rfl
theorem Zy0:Y2 Tryz.prog r215 Tryz.f215.results.toList=true:=by kernel_rfl
theorem m215 {n0:Nat} {hp0:Lh} {args:Ls} {Zz:Ot->Prop} (hh:hpb n0 hp0) (hx:∀ o,Zz o->KX o.res/\KXP o.hp) (h:sx Tryz.prog Y0 n0 c215 ⟨YT 0 args,hp0,n0,49,[]⟩ (X0 r215 λo=>∃ o',Zz o'/\WI n0 o o')) (hA:Nat.ble args.length 49=true:=by rfl):Cq 215 hp0 n0 args Zz:=ZB Tryz.func215 rfl b215 ZzU Zy0 n215 (Nat.le_of_ble_eq_true hA) hh hx h
def c140:SC:=(sr1 [Jw 8 Jt] (sr1 [Jw 9 Jt] (.block 0 (.loop (.block 1 (sr1 [m1 19 2,m1 20 1,o1 21 (Jb .sub 19 20),m1 10 21] (.seq (sr1 [m1 22 10,o1 23 (Jc .leq 22 12)] (Ji 23 (sr1 [m1 24 0,m1 25 1,m1 26 2,o1 27 (.callm 215 [.t 24,.t 25,.t 26])] .ret)
 .skip)) (.seq (sr1 [m1 28 3,o1 29 (Jc .eql 28 0)] (Ji 29 (sr1 [m1 30 0,m1 31 1,m1 32 2,o1 33 (J3 216 30 31 32)] .ret) .skip)) (.seq (sr1 [m1 34 8,o1 35 (Jh 34)] (Ji 35 (sr1 [m1 36 0,m1 37 1,m1 38 2,o1 39 (J3 217 36 37 38)] (.reg [m1 40 3,o1 41 (Jc
 .sub 40 1),m1 3 41])) .skip)) (sr1 [m1 43 0,m1 44 1,m1 45 2,o1 46 (J3 218 43 44 45),m1 42 46,o1 47 (Je 42 0),o1 48 (Je 42 1),m1 11 47,m1 12 48] (.seq (sr1 [m1 49 12,o1 50 (Jc .eql 49 2)] (Ji 50 (sr1 [m1 51 0,m1 52 1,m1 53 2,o1 54 (J3 219 51 52 53)]
 (sr1 [m1 55 2,o1 56 (Jc .sub 55 1),m1 57 11,m1 58 1,o1 59 (Jb .sub 57 58),o1 60 (Jb .sub 56 59),m1 11 60] (.reg [Jk 12 1]))) .skip)) (.seq (sr1 [m1 61 8,m1 62 61,g1 63 62 true (.mv (.t 9)),o1 64 (.pick (.t 62) (.t 63) Jf),m1 65 64,g1 66 65 true (.mv
 (.t 12)),g1 67 65 true (Jc .eql 66 1),o1 68 (.pick (.t 65) (.t 67) Jf)] (Ji 68 (sr1 [m1 69 0,m1 70 1,m1 71 2,o1 72 (J3 220 69 70 71)] (Ji 72 .ret .skip)) .skip)) (.seq (.seq (.regd (Jr 15) [Jm 73 1,Jp 74 (Jc .gtr 73 0) [0],Jp 75 (.mv (.t 74)) [1],Jq
 76 75 true (.mv (.t 0)) [2],Jq 77 75 true (.mv (.t 1)) [2],Jq 78 75 true (Jc .sub 77 1) [2,4],Jq 79 75 true (Jx 76 78 1) [2,3,5],Jq 80 75 true (lf 79 1) [2,6],Jq 81 75 true (.mv (.t 0)) [2],Jq 82 75 true (.mv (.t 11)) [2],Jq 83 75 true (Jx 81 82 1)
 [2,8,9],Jq 84 75 true (lf 83 1) [2,10],Jq 85 75 true (J2 221 80 84) [2,7,11],Jq 86 75 true (Jh 85) [2,12],Jp 87 (.pick (.t 75) (.t 86) Jf) [2,13]] 0 0 []) (Ji 87 (sr1 [m1 88 0,m1 89 1,m1 90 2,m1 91 11,o1 92 (J4 222 88 89 90 91),m1 13 92] (sr1 [m1 93
 13,m1 1 93] (.exit 1))) .skip)) (sr1 [m1 95 0,m1 96 1,m1 97 2,m1 98 11,o1 99 (J4 223 95 96 97 98),m1 94 99,o1 100 (Je 94 0),o1 101 (Je 94 1),m1 14 100,m1 15 101] (sr1 [m1 102 15,m1 9 102] (sr1 [m1 103 14,m1 104 1,o1 105 (Jb .sub 103 104),m1 106 2,m1
 107 14,o1 108 (Jb .sub 106 107),m1 16 105,m1 17 108] (sr1 [m1 109 10,o1 110 (.div .quo (.t 109) (cn 8)),m1 18 110] (sr1 [m1 111 16,m1 112 17,o1 113 (Jb .lss 111 112)] (Ji 113 (sr1 [m1 114 16,m1 115 18,o1 116 (Jb .geq 114 115),m1 8 116] (sr1 [m1 117
 0,m1 118 1,m1 119 14,m1 120 3,o1 121 (.callm 140 [.t 117,.t 118,.t 119,.t 120])] (.reg [m1 122 14,o1 123 (Jc .add 122 1),m1 1 123]))) (sr1 [m1 124 17,m1 125 18,o1 126 (Jb .geq 124 125),m1 8 126] (sr1 [m1 127 0,m1 128 14,o1 129 (Jc .add 128 1),m1 130
 2,m1 131 3,o1 132 (.callm 140 [.t 127,.t 129,.t 130,.t 131])] (.reg [m1 133 14,m1 2 133]))))))))))))))))))))))
def r140:List RV:=[]
theorem n140:Tryz.f140.ntmps=134:=by kernel_rfl
theorem b140:Z4 Tryz.prog 140=true:=by kernel_rfl
theorem ZvQ:YR Tryz.prog c140 ((Tryz.f140.body).getD .skip)=true:=by kernel_rfl
theorem Zu6:Y2 Tryz.prog r140 Tryz.f140.results.toList=true:=by kernel_rfl
theorem m140 {n0:Nat} {hp0:Lh} {args:Ls} {Zz:Ot->Prop} (hh:hpb n0 hp0) (hx:∀ o,Zz o->KX o.res/\KXP o.hp) (h:sx Tryz.prog Y0 n0 c140 ⟨YT 0 args,hp0,n0,134,[]⟩ (X0 r140 λo=>∃ o',Zz o'/\WI n0 o o')) (hA:Nat.ble args.length 134=true:=by rfl):Cq 140 hp0 n0 args Zz:=ZB Tryz.func140 rfl b140 ZvQ Zu6 n140 (Nat.le_of_ble_eq_true hA) hh hx h
def c85:SC:=(sr1 [m1 3 0,o1 4 (Jl 3),m1 2 4] (.reg [m1 5 0,m1 6 2,m1 7 2,o1 8 (.conv .u64 (.t 7)),o1 9 (J1 141 8),o1 10 (.callm 140 [.t 5,cn 0,.t 6,.t 9])]))
def r85:List RV:=[]
theorem n85:Tryz.f85.ntmps=11:=by kernel_rfl
theorem b85:Z4 Tryz.prog 85=true:=by kernel_rfl
theorem ZCN:YR Tryz.prog c85 ((Tryz.f85.body).getD .skip)=true:=by kernel_rfl
theorem ZCE:Y2 Tryz.prog r85 Tryz.f85.results.toList=true:=by kernel_rfl
theorem m85 {n0:Nat} {hp0:Lh} {args:Ls} {Zz:Ot->Prop} (hh:hpb n0 hp0) (hx:∀ o,Zz o->KX o.res/\KXP o.hp) (h:sx Tryz.prog Y0 n0 c85 ⟨YT 0 args,hp0,n0,11,[]⟩ (X0 r85 λo=>∃ o',Zz o'/\WI n0 o o')) (hA:Nat.ble args.length 11=true:=by rfl):Cq 85 hp0 n0 args Zz:=ZB Tryz.func85 rfl b85 ZCN ZCE n85 (Nat.le_of_ble_eq_true hA) hh hx h
def c146:SC:=(sr1 [Jw 3 Jf] (sr1 [o1 4 (lf 1 1),m1 5 0,o1 6 (J2 147 4 5),m1 3 6] .ret))
def r146:List RV:=[.tmp 3]
theorem t146:Qt1 Tryz.prog 146 c146 r146 7:=ZF Tryz.func146
def c147:SC:=(sr1 [Jw 4 Jf] (sr1 [m1 5 0,m1 6 1,o1 7 (J2 227 5 6),o1 8 (Jc .geq 7 0),m1 4 8] .ret))
def r147:List RV:=[.tmp 4]
theorem t147:Qt1 Tryz.prog 147 c147 r147 9:=ZF Tryz.func147
def c227:SC:=(sr1 [Jk 4 0] (.seq (sr1 [m1 6 0,o1 7 (Jl 6),Jk 8 0] (.block 0 (.loop (sr1 [o1 9 (Jb .lss 8 7)] (.seq (Ji 9 .skip (.exit 0)) (.seq (.block 1 (sr1 [m1 10 8,m1 5 10] (sr1 [m1 11 1,m1 12 0,m1 13 5,o1 14 (Jx 12 13 1),o1 15 (lf 14 1),o1 16 (Jb
 .eql 11 15)] (Ji 16 (sr1 [m1 17 5,m1 4 17] .ret) .skip)))) (.reg [o1 18 (Jc .add 8 1),m1 8 18]))))))) (sr1 [o1 4 (.mv (cn (-1)))] .ret)))
def r227:List RV:=[.tmp 4]
theorem t227:Qt1 Tryz.prog 227 c227 r227 19:=ZF Tryz.func227
def ZEj:SC:=(sr1 [o1 4 (.mv (.c (.slice none 0 0)))] (sr1 [m1 8 0,m1 9 1,o1 10 (J2 180 8 9),m1 5 10] (.seq (sr1 [m1 11 5,o1 12 (.bin .eql (.t 11) (cn (-1)))] (Ji 12 (sr1 [m1 13 0,m1 4 13] .ret) .skip)) (.seq (sr1 [m1 14 5,o1 15 (Jc .add 14 1),m1 6 15]
 (.block 0 (.loop (.seq (sr1 [m1 16 6,m1 17 0,o1 18 (Jl 17),o1 19 (Jb .lss 16 18)] (Ji 19 .skip (.exit 0))) (.seq (.block 1 (sr1 [m1 22 0,m1 23 6,o1 24 (Jx 22 23 1),o1 25 (lf 24 1),m1 7 25] (sr1 [m1 26 1,m1 27 7,o1 28 (.calv (.t 26) [.t 27]),o1 29 (Jh
 28)] (Ji 29 (sr1 [m1 30 0,m1 31 5,m1 32 7,o1 33 (Jx 30 31 1),Js 33 32 1] (.reg [m1 34 5,o1 35 (Jc .add 34 1),m1 5 35])) .skip)))) (.reg [m1 20 6,o1 21 (Jc .add 20 1),m1 6 21])))))) (sr1 [m1 36 0,m1 37 5,o1 38 (.sub 1 (.t 36) (some (.t 37))
 none),⟨none,.raw (Go.Op.call { callee:=(Go.Callee.builtin Go.Builtin.clear),args:=#[(Go.Operand.tmp 38)],argTypes:=#[35] }) 0,none,[]⟩] (sr1 [m1 39 0,m1 40 5,o1 41 (.sub 1 (.t 39) none (some (.t 40))),m1 4 41] .ret))))))
def ZEk:List RV:=[.tmp 4]
theorem n145:Tryz.f145.ntmps=42:=by kernel_rfl
theorem b145:Z4 Tryz.prog 145=true:=by kernel_rfl
theorem Zvs:YR Tryz.prog ZEj ((Tryz.f145.body).getD .skip)=true:=by kernel_rfl
theorem ZwH:Y2 Tryz.prog ZEk Tryz.f145.results.toList=true:=by kernel_rfl
theorem m145 {n0:Nat} {hp0:Lh} {args:Ls} {Zz:Ot->Prop} (hh:hpb n0 hp0) (hx:∀ o,Zz o->KX o.res/\KXP o.hp) (h:sx Tryz.prog Y0 n0 ZEj ⟨YT 0 args,hp0,n0,42,[]⟩ (X0 ZEk λo=>∃ o',Zz o'/\WI n0 o o')) (hA:Nat.ble args.length 42=true:=by rfl):Cq 145 hp0 n0 args Zz:=ZB Tryz.func145 rfl b145 Zvs ZwH n145 (Nat.le_of_ble_eq_true hA) hh hx h
def c144:SC:=(sr1 [o1 5 (.mv (.c (.slice none 0 0)))] (.gh (sr1 [m1 9 0,o1 10 (.callm 96 [.t 9]),o1 11 (.mkf 146 [.t 2]),o1 12 (.callm 145 [.t 10,.t 11]),m1 6 12] (.gh (.seq (sr1 [m1 13 1,o1 14 (Jl 13),Jk 15 0] (.gh (.block 0 (.loop (sr1 [o1 16 (Jb
 .lss 15 14)] (.gh (.seq (Ji 16 .skip (.exit 0)) (.seq (.block 1 (sr1 [o1 17 (Jx 13 15 1),o1 18 (lf 17 1),m1 8 18] (.gh (sr1 [o1 19 (lf 2 1),m1 20 8,o1 21 (J2 147 19 20)] (.gh (Ji 21 (.reg [m1 22 6,m1 23 8,o1 24 (.bsl 1 3 [.t 23]),o1 25 (.app 1 8 3
 (.t 22) (.t 24)),m1 6 25]) .skip)))))) (.reg [o1 26 (Jc .add 15 1),m1 15 26]))))))))) (sr1 [m1 27 6,o1 28 (.callm 85 [.t 27])] (.gh (sr1 [m1 29 6,m1 5 29] (.gh .ret)))))))))
def r144:List RV:=[.tmp 5]
theorem t144:Qt1 Tryz.prog 144 c144 r144 30:=ZF Tryz.func144
def c88:SC:=(sr1 [o1 2 (Jz 0 0 100),o1 3 (Jz 1 0 35),o1 4 (.alloc Zux 100)] (.gh (sr1 [o1 6 (.mkf 144 [.t 3]),m1 5 6] (.gh (.seq (.regd (Jr 24) [Jm 7 5,Jo 8 (ao 2 0),Jp 9 (ao 8 0) [1],Jp 10 (lf 9 1) [2],Jo 11 (ao 2 0),Jp 12 (ao 11 1) [4],Jp 13 (lf 12
 1) [5],Jp 14 (.calv (.t 7) [.t 10,.t 13]) [0,3,6],Jm 15 5,Jo 16 (ao 2 0),Jp 17 (ao 16 1) [9],Jp 18 (lf 17 1) [10],Jo 19 (ao 2 0),Jp 20 (ao 19 0) [12],Jp 21 (lf 20 1) [13],Jp 22 (.calv (.t 15) [.t 18,.t 21]) [7,8,11,14],Jo 23 (ao 2 0),Jp 24 (ao 23 2)
 [16],Jp 25 (lf 24 1) [17],Jp 26 (.build ZAy [(0,1,.t 14),(1,1,.t 22),(2,1,.t 25)]) [7,15,18],Jo 27 (ao 2 3),Jp 28 (lf 27 1) [20],Jp 29 (.build Zux [(0,3,.t 26),(3,1,.t 28)]) [19,21]] 0 1 [Ju 4 29 4 (Jr 23)]) (.gh .ret))))))
def r88:List RV:=[.cell 4 4 true]
theorem t88:Qt1 Tryz.prog 88 c88 r88 30:=ZF Tryz.func88
def c86:SC:=(sr1 [o1 1 (Jz 0 0 35),o1 2 (.mv (.c (.nilFunc)))] (sr1 [o1 3 (.mkf 142 [.t 1]),m1 2 3] .ret))
def r86:List RV:=[.tmp 2]
theorem n86:Tryz.f86.ntmps=4:=by kernel_rfl
theorem b86:Z4 Tryz.prog 86=true:=by kernel_rfl
theorem ZB5:YR Tryz.prog c86 ((Tryz.f86.body).getD .skip)=true:=by kernel_rfl
theorem ZCQ:Y2 Tryz.prog r86 Tryz.f86.results.toList=true:=by kernel_rfl
theorem m86 {n0:Nat} {hp0:Lh} {args:Ls} {Zz:Ot->Prop} (hh:hpb n0 hp0) (hx:∀ o,Zz o->KX o.res/\KXP o.hp) (h:sx Tryz.prog Y0 n0 c86 ⟨YT 0 args,hp0,n0,4,[]⟩ (X0 r86 λo=>∃ o',Zz o'/\WI n0 o o')) (hA:Nat.ble args.length 4=true:=by rfl):Cq 86 hp0 n0 args Zz:=ZB Tryz.func86 rfl b86 ZB5 ZCQ n86 (Nat.le_of_ble_eq_true hA) hh hx h
def c142:SC:=(sr1 [o1 7 (lf 1 1),o1 8 (Jl 7),o1 9 (.raw (Go.Op.binOp Go.BinOp.shl 3 (Go.Operand.const (Go.Value.int Go.IntKind.i64 1)) (Go.Operand.tmp 8) 3) 3),Jk 10 0] (.gh (.block 0 (.loop (sr1 [o1 11 (Jb .lss 10 9)] (.gh (.seq (Ji 11 .skip (.exit
 0)) (.seq (.block 1 (sr1 [m1 12 10,m1 3 12] (.gh (sr1 [o1 4 (.mv (.c (.slice none 0 0)))] (.gh (.seq (sr1 [o1 13 (lf 1 1),o1 14 (Jl 13),Jk 15 0] (.gh (.block 2 (.loop (sr1 [o1 16 (Jb .lss 15 14)] (.gh (.seq (Ji 16 .skip (.exit 2)) (.seq (.block 3
 (sr1 [m1 17 15,o1 18 (Jx 13 15 1),o1 19 (lf 18 1),m1 5 17,m1 6 19] (.gh (sr1 [m1 20 3,m1 21 5,o1 22 (.raw (Go.Op.binOp Go.BinOp.shr 3 (Go.Operand.tmp 20) (Go.Operand.tmp 21) 3) 3),o1 23 (.raw (Go.Op.binOp Go.BinOp.and 3 (Go.Operand.tmp 22)
 (Go.Operand.const (Go.Value.int Go.IntKind.i64 1)) 3) 3),o1 24 (Jc .eql 23 1)] (.gh (Ji 24 (.reg [m1 25 4,m1 26 6,o1 27 (.bsl 1 3 [.t 26]),o1 28 (.appm 1 8 3 (.t 25) (.t 27)),m1 4 28]) .skip)))))) (.reg [o1 29 (Jc .add 15 1),m1 15 29]))))))))) (.gh
 (sr1 [m1 30 0,m1 31 4,o1 32 (.calvm (.t 30) [.t 31]),o1 33 (Jh 32)] (.gh (Ji 33 .ret .skip)))))))))) (.gh (.reg [o1 34 (Jc .add 10 1),m1 10 34]))))))))))
def r142:List RV:=[]
theorem n142:Tryz.f142.ntmps=35:=by kernel_rfl
theorem b142:Z4 Tryz.prog 142=true:=by kernel_rfl
theorem Zw1:YR Tryz.prog c142 ((Tryz.f142.body).getD .skip)=true:=by kernel_rfl
theorem ZwX:Y2 Tryz.prog r142 Tryz.f142.results.toList=true:=by kernel_rfl
theorem y142 {Y:Hd} {n0:Nat} {hp0:Lh} {args:Ls} {Zz:Ot->Prop} (h:sx Tryz.prog Y n0 c142 ⟨YT 0 args,hp0,n0,35,[]⟩ (X0 r142 Zz)) (hA:Nat.ble args.length 35=true:=by rfl):CtY Tryz.prog Y 142 hp0 n0 args Zz:=WR Tryz.func142 rfl Zw1 ZwX n142 (Nat.le_of_ble_eq_true hA) h
def c38:SC:=(sr1 [o1 2 (Jz 0 0 100),o1 3 (Jz 1 0 3),o1 4 (.mv (.c (.slice none 0 0)))] (sr1 [o1 9 (ao 2 0),o1 10 (ao 9 0),o1 11 (lf 10 1),o1 12 (ao 2 0),o1 13 (ao 12 1),o1 14 (lf 13 1),o1 15 (.bsl 1 35 [.t 11,.t 14]),o1 16 (.callm 84 [.t 15]),m1 5 16]
 (sr1 [m1 17 5,o1 18 (.callm 85 [.t 17])] (sr1 [o1 6 (.alloc [.slice none 0 0] 35)] (sr1 [m1 19 5,o1 20 (Jl 19),o1 21 (Jc .add 20 1),o1 7 (.alloc [.int .i64 0] 3),Js 7 21 1] (.seq (sr1 [m1 22 5,o1 23 (.callm 86 [.t 22])] (.block 0 (.gh (.rfun (.t 23)
 [24] (.reg [m1 8 24]) (.block 1 (sr1 [m1 25 8,o1 26 (Jl 25),o1 27 (lf 7 1),o1 28 (Jb .lss 26 27),m1 29 28,g1 30 29 false (.mv (.t 8)),g1 31 29 false (Jl 30),g1 32 29 false (lf 7 1),g1 33 29 false (Jb .eql 31 32),g1 34 29 false (.mv (.t 33)),g1 35 34
 true (.mv (.t 8)),g1 36 34 true (lf 6 1),g1 37 34 true (J2 87 35 36),g1 38 34 true (Jc .lss 37 0),g1 39 29 false (.pick (.t 34) (.t 38) Jf),o1 40 (.pick (.t 29) Jt (.t 39))] (Ji 40 (.seq (.regd (Jr 6) [Jo 41 (lt 2 4),Jm 42 8,Jp 43 (J2 88 41 42)
 [0,1],Jo 44 (lf 3 1),Jp 45 (J2 35 43 44) [2,3],Jp 46 (.bin .eql (.t 45) (.c (.int .u8 2))) [4]] 0 0 []) (Ji 46 (.reg [m1 47 8,m1 48 8,o1 49 (Jl 48),Js 6 47 1,Js 7 49 1]) .skip)) .skip))))))) (sr1 [o1 50 (lf 7 1),m1 51 5,o1 52 (Jl 51),o1 53 (Jb .leq
 50 52),o1 54 (.callm 30 [.t 53,cn 52])] (sr1 [o1 55 (lf 6 1),m1 4 55] .ret))))))))
def r38:List RV:=[.tmp 4]
theorem t38:Qt1 Tryz.prog 38 c38 r38 56:=ZF Tryz.func38
def cd96:SC:=(sr1 [o1 2 (.mv (.c (.slice none 0 0)))] (.seq (sr1 [m1 3 0,o1 4 (.isn (.t 3))] (Ji 4 (sr1 [o1 2 (.mv (.c (.slice none 0 0)))] .ret) .skip)) (sr1 [o1 5 (.bsl 1 3 []),m1 6 0,o1 7 (.cln 1 8 3 (.t 5) (.t 6)),m1 2 7] .ret)))
def rd96:List RV:=[.tmp 2]
theorem nd96:Tryz.f96.ntmps=8:=by kernel_rfl
theorem bd96:Z4 Tryz.prog 96=true:=by kernel_rfl
theorem ZyE:YR Tryz.prog cd96 ((Tryz.f96.body).getD .skip)=true:=by kernel_rfl
theorem ZAi:Y2 Tryz.prog rd96 Tryz.f96.results.toList=true:=by kernel_rfl
theorem md96 {n0:Nat} {hp0:Lh} {args:Ls} {Zz:Ot->Prop} (hh:hpb n0 hp0) (hx:∀ o,Zz o->KX o.res/\KXP o.hp) (h:sx Tryz.prog Y0 n0 cd96 ⟨YT 0 args,hp0,n0,8,[]⟩ (X0 rd96 λo=>∃ o',Zz o'/\WI n0 o o')) (hA:Nat.ble args.length 8=true:=by rfl):Cq 96 hp0 n0 args Zz:=ZB Tryz.func96 rfl bd96 ZyE ZAi nd96 (Nat.le_of_ble_eq_true hA) hh hx h
def c97:SC:=(sr1 [o1 2 (Jz 0 0 126),o1 3 (Jz 1 0 3),o1 4 (.mv (.c (.nilFunc)))] (sr1 [o1 5 (.mkf 160 [.t 2,.t 3]),m1 4 5] .ret))
def r97:List RV:=[.tmp 4]
theorem n97:Tryz.f97.ntmps=6:=by kernel_rfl
theorem b97:Z4 Tryz.prog 97=true:=by kernel_rfl
theorem ZBS:YR Tryz.prog c97 ((Tryz.f97.body).getD .skip)=true:=by kernel_rfl
theorem ZBu:Y2 Tryz.prog r97 Tryz.f97.results.toList=true:=by kernel_rfl
theorem m97 {n0:Nat} {hp0:Lh} {args:Ls} {Zz:Ot->Prop} (hh:hpb n0 hp0) (hx:∀ o,Zz o->KX o.res/\KXP o.hp) (h:sx Tryz.prog Y0 n0 c97 ⟨YT 0 args,hp0,n0,6,[]⟩ (X0 r97 λo=>∃ o',Zz o'/\WI n0 o o')) (hA:Nat.ble args.length 6=true:=by rfl):Cq 97 hp0 n0 args Zz:=ZB Tryz.func97 rfl b97 ZBS ZBu n97 (Nat.le_of_ble_eq_true hA) hh hx h
def ZBJ:SC:=(sr1 [o1 6 (ao 1 0),o1 7 (ao 6 1),o1 8 (lf 7 1),o1 9 (Jl 8),Jk 10 0] (.block 0 (.loop (sr1 [o1 11 (Jb .lss 10 9)] (.seq (Ji 11 .skip (.exit 0)) (.seq (.block 1 (sr1 [m1 12 10,o1 13 (Jx 8 10 5),o1 14 (lt 13 5),o1 5 (.alloc ZAw 187),m1 4
 12,Js 5 14 5] (sr1 [o1 15 (lf 2 1)] (.block 2 (sr1 [o1 17 (ao 5 0),o1 18 (lf 17 1),o1 19 (Jb .eql 15 18),m1 16 19] (Ji 16 (sr1 [m1 20 0,m1 21 4,o1 22 (ao 5 1),o1 23 (lf 22 1),o1 24 (.calvm (.t 20) [.t 21,.t 23]),o1 25 (Jh 24)] (Ji 25 .ret .skip))
 (sr1 [o1 27 (ao 5 1),o1 28 (lf 27 1),o1 29 (Jb .eql 15 28),m1 26 29] (Ji 26 (sr1 [m1 30 0,m1 31 4,o1 32 (ao 5 0),o1 33 (lf 32 1),o1 34 (.calvm (.t 30) [.t 31,.t 33]),o1 35 (Jh 34)] (Ji 35 .ret .skip)) .skip)))))))) (.reg [o1 36 (Jc .add 10 1),m1 10
 36])))))))
def ZDf:List RV:=[]
theorem n160:Tryz.f160.ntmps=37:=by kernel_rfl
theorem b160:Z4 Tryz.prog 160=true:=by kernel_rfl
theorem Zwi:YR Tryz.prog ZBJ ((Tryz.f160.body).getD .skip)=true:=by kernel_rfl
theorem Zvc:Y2 Tryz.prog ZDf Tryz.f160.results.toList=true:=by kernel_rfl
theorem y160 {Y:Hd} {n0:Nat} {hp0:Lh} {args:Ls} {Zz:Ot->Prop} (h:sx Tryz.prog Y n0 ZBJ ⟨YT 0 args,hp0,n0,37,[]⟩ (X0 ZDf Zz)) (hA:Nat.ble args.length 37=true:=by rfl):CtY Tryz.prog Y 160 hp0 n0 args Zz:=WR Tryz.func160 rfl Zwi Zvc n160 (Nat.le_of_ble_eq_true hA) h
def c53:SC:=(sr1 [o1 3 (Jz 0 0 126),o1 4 (Jz 1 0 3),o1 6 (.alloc [.int .i64 0] 3)] (.seq (sr1 [o1 9 (lt 3 4),m1 10 2,o1 11 (.callm 97 [.t 9,.t 10])] (.block 0 (.gh (.rfun (.t 11) [12,13] (sr1 [m1 7 12] (.reg [m1 8 13])) (.block 1 (sr1 [m1 14 7,o1 15
 (lf 4 1),o1 16 (Jb .eql 14 15)] (Ji 16 (sr1 [m1 17 8,Js 6 17 1] .ret) .skip))))))) (sr1 [⟨none,.st (.t 6) (cn (-1)) 1,none,[]⟩] .ret)))
def r53:List RV:=[.cell 6 1 false]
theorem t53:Qt1 Tryz.prog 53 c53 r53 18:=ZF Tryz.func53
def c55:SC:=(sr1 [o1 3 (Jz 0 0 126),o1 5 (Jz 2 0 132),o1 6 (.alloc zv0 132)] (.seq (.regd (Jr 11) [Jo 10 (lt 3 4),Jm 11 1,Jo 12 (lt 5 2),Jp 13 (J3 54 10 11 12) [0,1,2],Jo 14 (lt 3 4),Jm 15 1,Jp 16 (J2 109 14 15) [3,4,5]] 2 2 [o1 7 (.alloc zv0 132),o1
 8 (.alloc zv0 132),Ju 7 13 2 [0,1,2,3,6,7,8],Ju 8 16 2 (Jr 10)]) (.seq (sr1 [Jk 17 0] (.block 0 (.loop (sr1 [o1 18 (Jc .lss 17 2)] (.seq (Ji 18 .skip (.exit 0)) (.seq (.block 1 (sr1 [m1 19 17,m1 9 19] (.regd (Jr 12) [Jm 20 9,Jm 21 9,Jp 22 (.ixa (.t
 7) (.t 21) 2 1) [1],Jp 23 (lf 22 1) [2],Jm 24 9,Jp 25 (.ixa (.t 8) (.t 24) 2 1) [4],Jp 26 (lf 25 1) [5],Jp 27 (Jb .add 23 26) [3,6],Jp 28 (.bsl 1 3 [.t 27]) [7],Jp 29 (J1 110 28) [8],Jp 30 (.ixa (.t 7) (.t 20) 2 1) (Jr 10)] 0 1 [Ju 30 29 1 (Jr
 11)]))) (.reg [o1 31 (Jc .add 17 1),m1 17 31]))))))) (sr1 [o1 32 (lt 7 2),Js 6 32 2] .ret))))
def r55:List RV:=[.cell 6 2 true]
theorem t55:Qt1 Tryz.prog 55 c55 r55 33:=ZF Tryz.func55
def c167:SC:=(sr1 [o1 4 (Jz 0 0 126),o1 7 (Jz 3 0 3),o1 8 (.mv (.c (.slice none 0 0)))] (sr1 [o1 16 (.bsl 1 3 [cn 100001]),o1 17 (ao 4 0),o1 18 (ao 17 0),o1 19 (lf 18 1),o1 20 (Jl 19),o1 21 (.callm 243 [.t 16,.t 20]),o1 9 (.alloc [.slice none 0 0]
 35),Js 9 21 1] (sr1 [o1 22 (lf 9 1),m1 23 1,m1 24 2,o1 25 (Jx 22 23 1),Js 25 24 1] (sr1 [o1 26 (.raw (Go.Op.makeMap 168 Option.none) 168),m1 10 26] (.seq (sr1 [o1 27 (lf 9 1),o1 28 (Jl 27),Jk 29 0] (.block 0 (.loop (sr1 [o1 30 (Jb .lss 29 28)] (.seq
 (Ji 30 .skip (.exit 0)) (.seq (.block 1 (sr1 [m1 31 29,m1 11 31] (.reg [m1 32 10,m1 33 11,⟨none,.raw (Go.Op.mapUpdate 168 (Go.Operand.tmp 32) (Go.Operand.tmp 33) (Go.Operand.const (Go.Value.bool Bool.true))) 0,none,[]⟩]))) (.reg [o1 34 (Jc .add 29
 1),m1 29 34]))))))) (.seq (.block 2 (.loop (.seq (sr1 [m1 35 10,o1 36 (.raw (Go.Op.call { callee:=(Go.Callee.builtin Go.Builtin.len),args:=#[(Go.Operand.tmp 35)],argTypes:=#[168] }) 3),o1 37 (Jc .gtr 36 0)] (Ji 37 .skip (.exit 2))) (.block 3 (sr1 [o1
 12 (.alloc [.int .i64 0] 3),⟨none,.st (.t 12) (cn (-1)) 1,none,[]⟩] (.seq (sr1 [m1 38 10,o1 39 (.raw (Go.Op.range 168 (Go.Operand.tmp 38)) 0)] (.block 4 (.loop (sr1 [o1 40 (.raw (Go.Op.next (Go.Operand.tmp 39) Bool.false) 0),o1 41 (Je 40 0)] (.seq
 (Ji 41 .skip (.exit 4)) (.block 5 (sr1 [o1 42 (.raw (Go.Op.entry (Go.Operand.tmp 39)) 0),o1 43 (Je 42 0),m1 13 43] (.seq (.regd (Jr 29) [Jo 44 (lf 12 1),Jp 45 (Jc .lss 44 0) [0],Jp 46 (.mv (.t 45)) [1],Jq 47 46 false (lf 9 1) [2],Jq 48 46 false (.mv
 (.t 13)) [2],Jq 49 46 false (Jx 47 48 1) [2,3,4],Jq 50 46 false (lf 49 1) [2,5],Jq 51 46 false (lf 9 1) [2],Jq 52 46 false (lf 12 1) [2],Jq 53 46 false (Jx 51 52 1) [2,7,8],Jq 54 46 false (lf 53 1) [2,9],Jq 55 46 false (Jb .lss 50 54) [2,6,10],Jp 56
 (.pick (.t 46) Jt (.t 55)) [2,11],Jp 57 (.mv (.t 56)) [2,12],Jq 58 57 false (lf 9 1) [13],Jq 59 57 false (.mv (.t 13)) [13],Jq 60 57 false (Jx 58 59 1) [13,14,15],Jq 61 57 false (lf 60 1) [13,16],Jq 62 57 false (lf 9 1) [13],Jq 63 57 false (lf 12 1)
 [13],Jq 64 57 false (Jx 62 63 1) [13,18,19],Jq 65 57 false (lf 64 1) [13,20],Jq 66 57 false (Jb .eql 61 65) [13,17,21],Jq 67 57 false (.mv (.t 66)) [13,22],Jq 68 67 true (.mv (.t 13)) [23],Jq 69 67 true (lf 12 1) [23],Jq 70 67 true (Jb .lss 68 69)
 [23,24,25],Jq 71 57 false (.pick (.t 67) (.t 70) Jf) [13,23,26],Jp 72 (.pick (.t 57) Jt (.t 71)) [13,27]] 0 0 []) (Ji 72 (.reg [m1 73 13,Js 12 73 1]) .skip))))))))) (sr1 [m1 74 10,o1 75 (lf 12 1),⟨none,.raw (Go.Op.call { callee:=(Go.Callee.builtin Go.Builtin.delete),args:=#[(Go.Operand.tmp 74),(Go.Operand.tmp 75)],argTypes:=#[168,3] })
 0,none,[]⟩] (sr1 [o1 76 (lt 4 4),o1 77 (lf 12 1),o1 78 (.callm 97 [.t 76,.t 77])] (.block 6 (.gh (.rfun (.t 78) [79,80] (sr1 [m1 14 79] (.reg [m1 15 80])) (.block 7 (.regd (Jr 23) [Jo 81 (lf 9 1),Jm 82 15,Jo 83 (lf 9 1),Jm 84 15,Jp 85 (Jx 83 84 1)
 [2,3],Jp 86 (lf 85 1) [4],Jo 87 (lt 4 4),Jm 88 14,Jo 89 (lf 9 1),Jo 90 (lf 12 1),Jp 91 (Jx 89 90 1) [8,9],Jp 92 (lf 91 1) [10],Jo 93 (lf 9 1),Jo 94 (lf 12 1),Jp 95 (Jx 93 94 1) [12,13],Jp 96 (lf 95 1) [14],Jp 97 (.build zv0 [(0,1,.t 92),(1,1,.t 96)])
 [11,15],Jp 98 (J3 55 87 88 97) [6,7,16],Jo 99 (lf 7 1),Jp 100 (.idx (.t 98) (.t 99) 2 1 false) [17,18],Jp 101 (.mm false [.t 86,.t 100]) [5,19],Jp 102 (Jx 81 82 1) (Jr 21)] 0 1 [Ju 102 101 1 (Jr 22)]))))))))))))) (sr1 [o1 103 (lf 9 1),m1 8 103]
 .ret)))))))
def r167:List RV:=[.tmp 8]
theorem t167:Qt1 Tryz.prog 167 c167 r167 104:=ZF Tryz.func167
def c101:SC:=(sr1 [o1 4 (Jz 0 0 25),o1 7 (Jz 3 0 27),o1 8 (.mv (.c (.slice none 0 0))),Jk 9 0] (sr1 [o1 17 (lt 4 2),o1 18 (lt 7 2),o1 19 (J2 51 17 18),m1 16 19,o1 20 (Je 16 0),o1 21 (Je 16 1),o1 10 (.alloc Zr3 126),Js 10 20 4,m1 11 21] (.seq (.block 0
 (sr1 [m1 23 11,o1 24 (Jc .neq 23 0),m1 22 24] (Ji 22 (sr1 [m1 25 11,o1 8 (.mv (.c (.slice none 0 0))),m1 9 25] .ret) (sr1 [o1 27 (ao 4 0),o1 28 (lf 27 1),o1 29 (Jl 28),o1 30 (Jc .sub 29 1),m1 31 1,o1 32 (.bsl 1 3 [.t 31]),o1 33 (.call 52 [cn 0,.t
 30,.t 32]),o1 34 (Jh 33),m1 35 34,g1 36 35 false (.mv (.t 2)),g1 37 35 false (.bsl 1 3 [.t 36]),g1 38 35 false (.call 52 [cn 0,cn 100000,.t 37]),g1 39 35 false (Jh 38),o1 40 (.pick (.t 35) Jt (.t 39)),m1 26 40] (Ji 26 (sr1 [o1 8 (.mv (.c (.slice none
 0 0))),Jk 9 2] .ret) .skip))))) (sr1 [o1 12 (.mv (.c (.slice none 0 0)))] (sr1 [o1 41 (lt 10 4),m1 42 1,m1 43 2,o1 44 (.call 167 [.t 41,.t 42,.t 43,cn 1]),m1 13 44] (.seq (sr1 [o1 45 (lt 10 4),m1 46 1,m1 47 2,o1 48 (.call 167 [.t 45,.t 46,.t 47,cn
 0]),o1 49 (Jl 48),Jk 50 0] (.block 1 (.loop (sr1 [o1 51 (Jb .lss 50 49)] (.seq (Ji 51 .skip (.exit 1)) (.seq (.block 2 (sr1 [m1 52 50,o1 53 (Jx 48 50 1),o1 54 (lf 53 1),m1 14 52,m1 15 54] (.reg [m1 55 12,m1 56 15,m1 57 13,m1 58 14,o1 59 (Jx 57 58
 1),o1 60 (lf 59 1),o1 61 (.build zv0 [(0,1,.t 56),(1,1,.t 60)]),o1 62 (.bsl 2 27 [.t 61]),o1 63 (.appm 2 16 27 (.t 55) (.t 62)),m1 12 63]))) (.reg [o1 64 (Jc .add 50 1),m1 50 64]))))))) (sr1 [m1 65 12,m1 8 65,Jk 9 0] .ret)))))))
def r101:List RV:=[.tmp 8,.tmp 9]
theorem t101:Qt1 Tryz.prog 101 c101 r101 66:=ZF Tryz.func101
def c15:SC:=(sr1 [o1 5 (Jz 0 0 25),o1 8 (Jz 3 0 27),o1 10 (.mv (.c (.slice none 0 0))),Jk 11 0,Jk 12 0] (sr1 [o1 23 (lt 5 2),o1 24 (lt 8 2),o1 25 (J2 51 23 24),m1 22 25,o1 26 (Je 22 0),o1 27 (Je 22 1),o1 13 (.alloc Zr3 126),Js 13 26 4,m1 12 27] (.seq
 (.block 0 (sr1 [m1 29 12,o1 30 (Jc .neq 29 0),m1 28 30] (Ji 28 (sr1 [m1 31 12,o1 10 (.mv (.c (.slice none 0 0))),Jk 11 0,m1 12 31] .ret) (sr1 [o1 33 (ao 5 0),o1 34 (lf 33 1),o1 35 (Jl 34),o1 36 (Jc .sub 35 1),m1 37 1,o1 38 (.bsl 1 3 [.t 37]),o1 39
 (.call 52 [cn 0,.t 36,.t 38]),o1 40 (Jh 39),m1 41 40,g1 42 41 false (.mv (.t 2)),g1 43 41 false (.bsl 1 3 [.t 42]),g1 44 41 false (.call 52 [cn 0,cn 100000,.t 43]),g1 45 41 false (Jh 44),o1 46 (.pick (.t 41) Jt (.t 45)),m1 32 46] (Ji 32 (sr1 [o1 10
 (.mv (.c (.slice none 0 0))),Jk 11 0,Jk 12 2] .ret) (sr1 [m1 48 4,o1 49 (Jl 48),o1 50 (Jc .gtr 49 24),m1 47 50] (Ji 47 (sr1 [o1 10 (.mv (.c (.slice none 0 0))),Jk 11 0,Jk 12 4] .ret) .skip))))))) (sr1 [o1 14 (.mv (.c (.slice none 0 0)))] (sr1 [m1 51
 1,m1 15 51] (.seq (sr1 [m1 52 4,o1 53 (Jl 52),Jk 54 0] (.block 1 (.loop (sr1 [o1 55 (Jb .lss 54 53)] (.seq (Ji 55 .skip (.exit 1)) (.seq (.block 2 (sr1 [m1 56 54,o1 57 (Jx 52 54 1),o1 58 (lf 57 1),m1 16 56,m1 17 58] (.seq (sr1 [o1 59 (lt 13 4),m1 60
 17,m1 61 15,o1 62 (J3 53 59 60 61),m1 15 62] (sr1 [m1 63 15,o1 64 (Jc .lss 63 0)] (Ji 64 (sr1 [m1 65 16,o1 10 (.mv (.c (.slice none 0 0))),m1 11 65,Jk 12 8] .ret) .skip))) (.reg [m1 66 14,m1 67 15,o1 68 (.bsl 1 3 [.t 67]),o1 69 (.appm 1 8 3 (.t 66)
 (.t 68)),m1 14 69])))) (.reg [o1 70 (Jc .add 54 1),m1 54 70]))))))) (sr1 [m1 71 2,m1 72 2,o1 73 (.build zv0 [(0,1,.t 71),(1,1,.t 72)]),o1 18 (.alloc zv0 132),Js 18 73 2] (.seq (sr1 [m1 74 4,o1 75 (Jl 74),Jk 76 0] (.block 3 (.loop (sr1 [o1 77 (Jb .lss
 76 75)] (.seq (Ji 77 .skip (.exit 3)) (.seq (.block 4 (sr1 [m1 78 76,o1 79 (Jx 74 76 1),o1 80 (lf 79 1),m1 19 78,m1 20 80] (sr1 [o1 81 (lt 13 4),m1 82 20,o1 83 (lt 18 2),o1 84 (J3 54 81 82 83),o1 21 (.alloc zv0 132),Js 21 84 2] (.seq (sr1 [o1 85 (lt
 13 4),m1 86 20,o1 87 (lt 18 2),o1 88 (J3 55 85 86 87),Js 18 88 2] (sr1 [o1 89 (.ixa (.t 18) (cn 1) 2 1),o1 90 (lf 89 1),o1 91 (Jc .gtr 90 100000)] (Ji 91 (sr1 [m1 92 19,o1 10 (.mv (.c (.slice none 0 0))),m1 11 92,Jk 12 34] .ret) .skip))) (.regs (Jr
 14) ⟨[Jm 93 10,Jm 94 20,Jm 95 14,Jm 96 19,Jp 97 (Jx 95 96 1) [2,3],Jp 98 (lf 97 1) [4],Jo 99 (lt 21 2),Jp 100 (J1 56 99) [6],Jo 101 (lt 18 2),Jp 102 (J1 56 101) [7,8],Jp 103 (.build zv9 [(0,1,.t 94),(1,1,.t 98),(2,2,.t 100),(4,2,.t 102)])
 [1,5,7,9],Jp 104 (.bsl 6 72 [.t 103]) [10]],0,1,[⟨some 105,.appm 6 48 72 (.t 93) (.t 104),none,[0,9,11]⟩]⟩ [⟨[],0,1,[⟨some 10,.mv (.t 105),none,(Jr 13)⟩]⟩]))))) (.reg [o1 106 (Jc .add 76 1),m1 76 106]))))))) (sr1 [m1 107 10,m1 10 107,Jk 11 0,Jk 12 0]
 .ret)))))))))
def r15:List RV:=[.tmp 10,.tmp 11,.tmp 12]
theorem t15:Qt1 Tryz.prog 15 c15 r15 108:=ZF Tryz.func15
def c98:SC:=(sr1 [o1 4 (.mv (.c (.slice none 0 0)))] (sr1 [m1 5 0,o1 6 (J1 96 5),o1 7 (J1 161 6),m1 8 1,o1 9 (.bsl 1 3 [.t 8]),o1 10 (.app 1 8 3 (.t 7) (.t 9)),m1 4 10] .ret))
def r98:List RV:=[.tmp 4]
theorem t98:Qt1 Tryz.prog 98 c98 r98 11:=ZF Tryz.func98
def c96:SC:=(sr1 [o1 2 (.mv (.c (.slice none 0 0)))] (.seq (sr1 [m1 3 0,o1 4 (.isn (.t 3))] (Ji 4 (sr1 [o1 2 (.mv (.c (.slice none 0 0)))] .ret) .skip)) (sr1 [o1 5 (.bsl 1 3 []),m1 6 0,o1 7 (.app 1 8 3 (.t 5) (.t 6)),m1 2 7] .ret)))
def r96:List RV:=[.tmp 2]
theorem n96:Tryz.f96.ntmps=8:=by kernel_rfl
theorem b96:Z4 Tryz.prog 96=true:=by kernel_rfl
theorem ZCS:YR Tryz.prog c96 ((Tryz.f96.body).getD .skip)=true:=by kernel_rfl
theorem ZCJ:Y2 Tryz.prog r96 Tryz.f96.results.toList=true:=by kernel_rfl
def c161:SC:=(sr1 [o1 2 (.mv (.c (.slice none 0 0)))] (sr1 [m1 3 0,m1 4 0,o1 5 (Jl 4),m1 6 0,o1 7 (Jl 6),o1 8 (.slc (.t 3) (.t 5) (.t 7)),m1 2 8] .ret))
def r161:List RV:=[.tmp 2]
theorem t161:Qt1 Tryz.prog 161 c161 r161 9:=ZF Tryz.func161
def c87:SC:=(sr1 [Jk 4 0] (.seq (sr1 [m1 9 0,o1 10 (Jl 9),Jk 11 0] (.block 0 (.loop (sr1 [o1 12 (Jb .lss 11 10)] (.seq (Ji 12 .skip (.exit 0)) (.seq (.block 1 (sr1 [m1 13 11,o1 14 (Jx 9 11 1),o1 15 (lf 14 1),m1 5 13,m1 6 15] (.seq (sr1 [m1 16 5,m1 17
 1,o1 18 (Jl 17),o1 19 (Jb .geq 16 18)] (Ji 19 (sr1 [Jk 4 1] .ret) .skip)) (sr1 [m1 20 1,m1 21 5,o1 22 (Jx 20 21 1),o1 23 (lf 22 1),m1 7 23] (sr1 [m1 24 6,m1 25 7,o1 26 (J2 143 24 25),m1 8 26] (sr1 [m1 27 8,o1 28 (Jc .neq 27 0)] (Ji 28 (sr1 [m1 29
 8,m1 4 29] .ret) .skip))))))) (.reg [o1 30 (Jc .add 11 1),m1 11 30]))))))) (.seq (sr1 [m1 31 0,o1 32 (Jl 31),m1 33 1,o1 34 (Jl 33),o1 35 (Jb .lss 32 34)] (Ji 35 (sr1 [o1 4 (.mv (cn (-1)))] .ret) .skip)) (sr1 [Jk 4 0] .ret))))
def r87:List RV:=[.tmp 4]
theorem t87:Qt1 Tryz.prog 87 c87 r87 36:=ZF Tryz.func87
def c143:SC:=(sr1 [Jk 4 0] (sr1 [m1 7 0,o1 8 (J1 226 7),m1 5 8] (sr1 [m1 9 1,o1 10 (J1 226 9),m1 6 10] (.seq (sr1 [m1 11 5] (Ji 11 (.seq (sr1 [m1 12 6] (Ji 12 (sr1 [Jk 4 0] .ret) .skip)) (sr1 [o1 4 (.mv (cn (-1)))] .ret)) .skip)) (.seq (sr1 [m1 13 6]
 (Ji 13 (sr1 [Jk 4 1] .ret) .skip)) (.seq (sr1 [m1 14 0,m1 15 1,o1 16 (Jb .lss 14 15)] (Ji 16 (sr1 [o1 4 (.mv (cn (-1)))] .ret) .skip)) (.seq (sr1 [m1 17 0,m1 18 1,o1 19 (Jb .gtr 17 18)] (Ji 19 (sr1 [Jk 4 1] .ret) .skip)) (sr1 [Jk 4 0] .ret))))))))
def r143:List RV:=[.tmp 4]
theorem t143:Qt1 Tryz.prog 143 c143 r143 20:=ZF Tryz.func143
def c226:SC:=(sr1 [Jw 2 Jf] (sr1 [m1 3 0,m1 4 0,o1 5 (Jb .neq 3 4),m1 2 5] .ret))
def r226:List RV:=[.tmp 2]
theorem t226:Qt1 Tryz.prog 226 c226 r226 6:=ZF Tryz.func226
def c243:SC:=(sr1 [o1 4 (.mv (.c (.slice none 0 0)))] (.seq (sr1 [m1 9 1,o1 10 (Jc .lss 9 0)] (Ji 10 (.reg [o1 11 (.raw (Go.Op.makeInterface 9 (Go.Operand.const (Go.Value.string { data:=#[99,97,110,110,111,116,32,98,101,32,110,101,103,97,116,105,118,101] })))
 20),⟨none,.raw (Go.Op.panic (Go.Operand.tmp 11)) 0,none,[]⟩]) .skip)) (sr1 [m1 13 0,o1 14 (Jl 13),o1 15 (.conv .u64 (.t 14)),m1 16 1,o1 17 (.conv .u64 (.t 16)),o1 18 (J2 262 15 17),m1 12 18,o1 19 (Je 12 0),o1 20 (Je 12 1),m1 5 19,m1 6 20] (.seq (sr1
 [m1 21 5,o1 22 (.bin .gtr (.t 21) (.c (.int .u64 0))),m1 23 22,g1 24 23 false (.mv (.t 6)),g1 25 23 false (.bin .gtr (.t 24) (.c (.int .u64 9223372036854775807))),o1 26 (.pick (.t 23) Jt (.t 25))] (Ji 26 (.reg [o1 27 (.raw (Go.Op.makeInterface 9
 (Go.Operand.const (Go.Value.string { data:=#[116,104,101,32,114,101,115,117,108,116,32,111,102,32,40,108,101,110,40,120,41,32,42,32,99,111,117,110,116,41,32,111,118,101,114,102,108,111,119,115] }))) 20),⟨none,.raw (Go.Op.panic (Go.Operand.tmp 27))
 0,none,[]⟩]) .skip)) (sr1 [m1 28 6,o1 29 (.conv .i64 (.t 28)),o1 30 (.mks 1 8 [.int .i64 0] 3 (.t 29)),m1 7 30] (sr1 [m1 31 7,m1 32 0,o1 33 (.cpy 1 (.t 31) (.t 32)),m1 8 33] (.seq (.block 0 (.loop (.seq (sr1 [m1 34 8,m1 35 7,o1 36 (Jl 35),o1 37 (Jb
 .lss 34 36)] (Ji 37 .skip (.exit 0))) (.block 1 (.regd [1,2,3,4,5,6,0,7,8,9] [Jm 39 7,Jm 40 8,Jp 41 (.sub 1 (.t 39) (some (.t 40)) none) [1,2],Jm 42 7,Jm 43 8,Jp 44 (.sub 1 (.t 42) none (some (.t 43))) [4,5],.hide (.t 41),Jm 38 8] 0 1 [⟨some 45,.cpy
 1 (.t 41) (.t 44),none,[3,6]⟩,⟨some 46,Jb .add 38 45,none,[0,7]⟩,⟨some 8,.mv (.t 46),none,(Jr 9)⟩]))))) (sr1 [m1 47 7,m1 4 47] .ret))))))))
def r243:List RV:=[.tmp 4]
theorem n243:Tryz.f243.ntmps=48:=by kernel_rfl
theorem b243:Z4 Tryz.prog 243=true:=by kernel_rfl
theorem Zvb:YR Tryz.prog c243 ((Tryz.f243.body).getD .skip)=true:=by kernel_rfl
theorem Zwm:Y2 Tryz.prog r243 Tryz.f243.results.toList=true:=by kernel_rfl
theorem m243 {n0:Nat} {hp0:Lh} {args:Ls} {Zz:Ot->Prop} (hh:hpb n0 hp0) (hx:∀ o,Zz o->KX o.res/\KXP o.hp) (h:sx Tryz.prog Y0 n0 c243 ⟨YT 0 args,hp0,n0,48,[]⟩ (X0 r243 λo=>∃ o',Zz o'/\WI n0 o o')) (hA:Nat.ble args.length 48=true:=by rfl):Cq 243 hp0 n0 args Zz:=ZB Tryz.func243 rfl b243 Zvb Zwm n243 (Nat.le_of_ble_eq_true hA) hh hx h
def c262:SC:=(sr1 [o1 4 (.mv (.c (.int .u64 0))),o1 5 (.mv (.c (.int .u64 0)))] (.seq (.cond Jf (sr1 [m1 11 0,o1 12 (.conv .u32 (.t 11)),m1 13 1,o1 14 (.conv .u32 (.t 13)),o1 15 (J2 287 12 14),m1 10 15,o1 16 (Je 10 0),o1 17 (Je 10 1),m1 6 16,m1 7 17]
 (sr1 [m1 18 6,o1 19 (.conv .u64 (.t 18)),m1 20 7,o1 21 (.conv .u64 (.t 20)),m1 4 19,m1 5 21] .ret)) .skip) (sr1 [m1 23 0,m1 24 1,o1 25 (J2 288 23 24),m1 22 25,o1 26 (Je 22 0),o1 27 (Je 22 1),m1 8 26,m1 9 27] (sr1 [m1 28 8,m1 29 9,m1 4 28,m1 5 29]
 .ret))))
def r262:List RV:=[.tmp 4,.tmp 5]
theorem t262:Qt1 Tryz.prog 262 c262 r262 30:=ZF Tryz.func262
def c288:SC:=(sr1 [o1 4 (.mv (.c (.int .u64 0))),o1 5 (.mv (.c (.int .u64 0)))] (sr1 [m1 14 0,o1 15 (.raw (Go.Op.binOp Go.BinOp.and 339 (Go.Operand.tmp 14) (Go.Operand.const (Go.Value.int Go.IntKind.u64 4294967295)) 339) 339),m1 6 15] (sr1 [m1 16 0,o1
 17 (.raw (Go.Op.binOp Go.BinOp.shr 339 (Go.Operand.tmp 16) (Go.Operand.const (Go.Value.int Go.IntKind.u64 32)) 258) 339),m1 7 17] (sr1 [m1 18 1,o1 19 (.raw (Go.Op.binOp Go.BinOp.and 339 (Go.Operand.tmp 18) (Go.Operand.const (Go.Value.int
 Go.IntKind.u64 4294967295)) 339) 339),m1 8 19] (sr1 [m1 20 1,o1 21 (.raw (Go.Op.binOp Go.BinOp.shr 339 (Go.Operand.tmp 20) (Go.Operand.const (Go.Value.int Go.IntKind.u64 32)) 258) 339),m1 9 21] (sr1 [m1 22 6,m1 23 8,o1 24 (Jb .mul 22 23),m1 10 24]
 (sr1 [m1 25 7,m1 26 8,o1 27 (Jb .mul 25 26),m1 28 10,o1 29 (.raw (Go.Op.binOp Go.BinOp.shr 339 (Go.Operand.tmp 28) (Go.Operand.const (Go.Value.int Go.IntKind.u64 32)) 258) 339),o1 30 (Jb .add 27 29),m1 11 30] (sr1 [m1 31 11,o1 32 (.raw (Go.Op.binOp
 Go.BinOp.and 339 (Go.Operand.tmp 31) (Go.Operand.const (Go.Value.int Go.IntKind.u64 4294967295)) 339) 339),m1 12 32] (sr1 [m1 33 11,o1 34 (.raw (Go.Op.binOp Go.BinOp.shr 339 (Go.Operand.tmp 33) (Go.Operand.const (Go.Value.int Go.IntKind.u64 32)) 258)
 339),m1 13 34] (sr1 [m1 35 12,m1 36 6,m1 37 9,o1 38 (Jb .mul 36 37),o1 39 (Jb .add 35 38),m1 12 39] (sr1 [m1 40 7,m1 41 9,o1 42 (Jb .mul 40 41),m1 43 13,o1 44 (Jb .add 42 43),m1 45 12,o1 46 (.raw (Go.Op.binOp Go.BinOp.shr 339 (Go.Operand.tmp 45)
 (Go.Operand.const (Go.Value.int Go.IntKind.u64 32)) 258) 339),o1 47 (Jb .add 44 46),m1 4 47] (sr1 [m1 48 0,m1 49 1,o1 50 (Jb .mul 48 49),m1 5 50] .ret))))))))))))
def r288:List RV:=[.tmp 4,.tmp 5]
theorem t288:Qt1 Tryz.prog 288 c288 r288 51:=ZF Tryz.func288
def c64:SC:=(sr1 [Jw 4 Jf] (.seq (sr1 [m1 6 0,o1 7 (Jl 6),m1 8 1,o1 9 (Jl 8),o1 10 (Jb .neq 7 9)] (Ji 10 (sr1 [Jw 4 Jf] .ret) .skip)) (.seq (sr1 [Jk 5 0] (.block 0 (.loop (.seq (sr1 [m1 11 5,m1 12 0,o1 13 (Jl 12),o1 14 (Jb .lss 11 13)] (Ji 14 .skip
 (.exit 0))) (.seq (.block 1 (.seq (.regd (Jr 9) [Jm 17 0,Jm 18 5,Jp 19 (Jx 17 18 1) [0,1],Jp 20 (lf 19 1) [2],Jm 21 1,Jm 22 5,Jp 23 (Jx 21 22 1) [4,5],Jp 24 (lf 23 1) [6],Jp 25 (Jb .neq 20 24) [3,7]] 0 0 []) (Ji 25 (sr1 [Jw 4 Jf] .ret) .skip))) (.reg
 [m1 15 5,o1 16 (Jc .add 15 1),m1 5 16])))))) (sr1 [Jw 4 Jt] .ret))))
def r64:List RV:=[.tmp 4]
theorem t64:Qt1 Tryz.prog 64 c64 r64 26:=ZF Tryz.func64
end Go.Proofs.YtongccnhomncnaaGreatDoor
namespace Go.Sx
open Go Go.RowKit
theorem ZdI {P:Program} {d:Option Nat} {op:BinOp} {t t' ty:TypeId} {ax bx:Operand} {x y v:Value} {σ : St} {r:KT} {K:RK} (ha:VL σ ax = .v x) (hb:VL σ bx = .v y) (hop:op = .and\/op = .shr\/op = .shl) (hr:∀ w:World,(binOp op t x y).run P w = .ok v w) (hk:YE d (.v v) none σ r K) :
 RAW P d (.binOp op t ax bx t') ty σ r K:=by
 intro o C E a w next Q e1 e2 e3 hS hn hq;have hx:=Xv hS ha (λ_ _ _=>by simp);have hy:=Xv hS hb (λ_ _ _=>by simp);simp only [R] at hx hy;have hrun:(execOp a.eval o).run P w = .ok (.value v) w:=by
  obtain ⟨dst',op',ty',pos,after,guard⟩:=o;simp only at e2;subst e2;simp only [execOp,hx,hy];rcases hop with rfl | rfl | rfl<;>simp [Sem.run_bind,eqGuard,hr]
 refine ZC hrun (by simp) ?_;show next (a.put o.dst v) w;rw [e1];exact Xy hk hS (by simp only [R]) hn
section
variable {P:Program} {σ : St} {r:KT} {K:RK} {t e ty:TypeId}
end
theorem ZlN {m:Nat} {σ : St} (t k:Nat) {f:FuncId} {l:Ls} {T:TypeId} (hm:Nat.ble m k=true) (hg:σ.gs=[]) (hl:lk t σ.fr = .cl f [.p k 0]) (hk:lkh k σ.hp = .cells l T) :
 Ent m σ ⟨(t,.cl f [.ps l 0]) :: σ.fr,(k,.gone) :: σ.hp,σ.n,σ.N,σ.gs⟩ :=
 ZgQ t k _ hg (λ_ _ _ e=>by cases e) λC E w y hmc hh hR=>by
  rw [hl] at hR;simp only [R,RL] at hR ⊢;obtain ⟨cs0,e0,y0,r0,e1,⟨_,e2⟩,e3⟩:=hR;have hb:=hh.bk k;rw [hk] at hb;simp only [Yr] at hb;obtain ⟨cs,h2,h7⟩:=hb;have hoc:occ E k (lkh k σ.hp) (E.β k):=by rw [hk];rfl
  have hok:okS C E ((k,.gone) :: σ.hp) (E.β k):=by
   refine ⟨?_,λj ho=>?_⟩
   . rcases hh.lo k _ hoc with q | q
     . exact .inr q
     . have:=hmc.2 k _ q;have:=hmc.1;have:=Nat.le_of_ble_eq_true hm;omega
   . rw [Zu] at ho;split at ho
     . exact ho.elim
     . exact absurd (hh.dj j k _ ho hoc).symm (by omega)
  refine ⟨cs0,e0,y0,r0,e1,⟨E.β k,0,by rw [e2],cs.toList,ZL (Vo hh k).2.c (λ_ _=>Ele.rfl) (λ_ h=>h) _ _ h7,λ_=>hok,λj c hj=>?_⟩,e3⟩;rw [cell_of_row _ _ _ _ _ _ h2];simpa using hj
end Go.Sx
namespace Go.Proofs.YtongccnhomncnaaGreatDoor.Ld
open Go Go.Sx Go.Shelf Go.Proofs Go.RowKit
def rhoL:Shelf.Ren:=⟨λk=>if k=125 then 141 else if k=128 then 224 else if k=129 then 225 else k,λt=>if t=46 then 258 else if t=51 then 337 else if t=53 then 339 else t,λg=>g⟩
theorem Zsw:Lays.n125 Tryz.prog rhoL:=by
 constructor
 all_goals first | kernel_rfl | (intro w;kernel_rfl) | (intro w;rfl) | skip
theorem ZBY (n:Int) (h:0<=n/\n<=1000000):Cp 141 [.v (.int .u64 n)] (I (Lib.bitLen n.toNat)) :=
 ⟨by kernel_rfl,(by simp),(by simp),λw ok vs _ hR=>by
  simp only [RL,R] at hR;obtain ⟨y,r,rfl,rfl,rfl⟩:=hR;refine (Any.bits_Len Zsw n w h.1 (by omega)).mono λe w' ⟨h1,h2⟩=>?_;subst h2
  exact ⟨_,h1,by simp only [R],Below.refl _ _⟩⟩
end Go.Proofs.YtongccnhomncnaaGreatDoor.Ld
namespace Go.Azalai
def Wf:List Int->Bool
 | a :: b :: r=>decide (a<=b) && Wf (b :: r)
 | _=>true
theorem ZgG:∀ {l:List Int} {j:Nat} (_:Wf l=true) (hj:j+1 < l.length),l[j]<=l[j+1]
 | a :: b :: r,0,h,_=>by
  simp only [Wf,Bool.and_eq_true,decide_eq_true_eq] at h;exact h.1
 | a :: b :: r,j+1,h,hj=>by
  simp only [Wf,Bool.and_eq_true,decide_eq_true_eq] at h;exact ZgG (l:=b :: r) (j:=j) h.2 (by simpa using hj)
 | [],_,_,hj=>by simp at hj
 | [_],_,_,hj=>by simp at hj
end Go.Azalai
namespace Go.Proofs.YtongccnhomncnaaGreatDoor.Ld
open Go Go.Sx Go.Azalai
theorem ZzB (a b:Int):Cp 221 [I a,I b] (B (decide (a < b))):=by
 refine t221.1 (by simp) (by simp) ?_;dsimp only [c221,r221,go_sem];have hn:∀ x:Int,Cp 226 [I x] (B false):=λx=>by
  refine t226.1 (by simp) (by simp) ?_;dsimp only [c226,r226,go_sem];simp
 refine call (hn _) ?_;dsimp only [go_sem];repeat (first | (refine gb ?_;dsimp only [go_sem]) | (refine call (hn _) ?_;dsimp only [go_sem]))
 simp
theorem Zl6 (x:Int):Cp 227 [.sl false 1 [],I x] (I (-1)):=by
 refine t227.1 (by simp [KFR]) (by simp) ?_;dsimp only [c227,r227,go_sem];refine ZX 1 ?_;dsimp only [Zb,go_sem];refine Zo rfl ?_;dsimp only [go_sem]
theorem Zcc (x:Int):Cp 147 [.sl false 1 [],I x] (B false):=by
 refine t147.1 (by simp [KFR]) (by simp) ?_;dsimp only [c147,r147,go_sem];refine call (Zl6 x) ?_;dsimp only [go_sem];rfl
theorem ZjY (x:Int):Cp 146 [I x,.ps [.sl false 1 []] 0] (B false):=by
 refine t146.1 (by simp [KFR]) (by simp) ?_;dsimp only [c146,r146,go_sem];refine call (Zcc x) ?_;dsimp only [go_sem]
theorem ZCi (L:List Int) (v:Nat) (hn:L.length<=1000):Cq 215 [(0,.row v 1 (L.map Zk) 3)] 1 [.mr 0 v,I 0,I L.length]
 (λo=>∃ L',L'.length=L.length/\(Wf L=true->L'=L)/\o=⟨false,.tup [],[(0,.row v 1 (L'.map Zk) 3)],1⟩):=by
 refine m215 (by simp [hpb]) (λo ho=>by obtain ⟨L',_,_,rfl⟩:=ho;simp [KX,KXL,KXP,KXH,Za,Zk,KFL,KF]) ?_;dsimp only [c215,r215,go_sem];refine Ym (λq:Nat × List Int=>[(6,I q.1)]) (λq=>[(0,.row v 1 (q.2.map Zk) 3)]) (λq=>1<=q.1/\q.1<=L.length+1/\q.2.length=L.length/\(Wf L=true->q.2=L)) (λq=>L.length+1 - q.1) (1,L) ⟨Nat.le_refl _,by simp,rfl,λ_=>rfl⟩ ?_ ?_
 . rw [show IntKind.i64.wrap ((0:Int)+1)=((1:Nat):Int) from rfl];(refine Zj ?_ ?_ ?_ rfl rfl<;>dsimp only [Zk,id,go_sem]<;>simp [Zk,Za])
 rintro ⟨i,L1⟩ ⟨h1,h2,h3,h4⟩;simp only at h1 h2 h3 h4;dsimp only [go_sem];by_cases hi:i < L.length
 case neg =>
  refine Zo (by simpa using hi) ?_;dsimp only [go_sem];refine ⟨_,⟨L1,h3,h4,rfl⟩,?_⟩;(refine Zw ?_ ?_ ?_ rfl<;>dsimp only [Zk,id,go_sem]<;>simp [Zk,Za])
 refine Zs (by simpa using hi) ?_;dsimp only [go_sem];refine Ym (λq:Nat × List Int=>[(7,I q.1)]) (λq=>[(0,.row v 1 (q.2.map Zk) 3)]) (λq=>q.1 < L.length/\q.2.length=L.length/\(Wf L=true->q.2=L)) (λq=>q.1) (i,L1) ⟨hi,h3,h4⟩ ?_ ?_
 . (refine Zj ?_ ?_ ?_ rfl rfl<;>dsimp only [Zk,id,go_sem]<;>simp [Zk,Za])
 rintro ⟨j,L2⟩ ⟨g1,g2,g3⟩;simp only at g1 g2 g3;dsimp only [go_sem];by_cases hj:0 < j
 case neg =>
  have hj0:decide ((j:Int) > 0)=false:=by simp;omega
  rw [hj0];repeat (refine Xu (by decide) ?_;dsimp only [go_sem])
  refine Zo rfl ?_;dsimp only [go_sem];rw [Zf (n:=(i:Int)+1) (by omega) (by omega)];refine ⟨(i+1,L2),⟨by simp only;omega,by simp only;omega,g2,g3⟩,by simp only;omega,?_⟩;(refine Zj ?_ ?_ ?_ rfl rfl<;>dsimp only [Zk,id,go_sem]<;>simp [Zk,Za])
 have hj0:decide ((j:Int) > 0)=true:=by simp;omega
 rw [hj0];iterate 2 (refine ZI rfl ?_;dsimp only [go_sem])
 refine ZI rfl ?_;dsimp only [go_sem];have hw1:IntKind.i64.wrap ((j:Int) - 1)=((j - 1:Nat):Int):=by rw [Zf (by omega) (by omega)];omega
 (repeat first | dsimp only [go_sem] | simp only [nbr])
 refine UK j rfl (by simpa [g2] using g1) ?_
 (repeat first | dsimp only [go_sem] | simp only [nbr])
 refine ZI rfl ?_
 (repeat first | dsimp only [go_sem] | simp only [nbr])
 refine Zeb (by omega) ?_
 (repeat first | dsimp only [Zk,go_sem] | simp only [nbr])
 repeat (refine ZI rfl ?_;(repeat first | dsimp only [go_sem] | simp only [nbr]))
 rw [hw1];refine UK (j - 1) rfl (by simp [g2];omega) ?_
 (repeat first | dsimp only [go_sem] | simp only [nbr])
 refine ZI rfl ?_
 (repeat first | dsimp only [go_sem] | simp only [nbr])
 refine Zeb (by omega) ?_
 (repeat first | dsimp only [Zk,go_sem] | simp only [nbr])
 repeat (refine ZI rfl ?_;(repeat first | dsimp only [go_sem] | simp only [nbr]))
 refine call (ZzB L2[j] L2[j - 1]) ?_
 (repeat first | dsimp only [go_sem] | simp only [nbr])
 repeat (refine ZI rfl ?_;(repeat first | dsimp only [go_sem] | simp only [nbr]))
 by_cases hlt:L2[j] < L2[j - 1]
 case neg =>
  refine Zo (by simpa using hlt) ?_
  (repeat first | dsimp only [go_sem] | simp only [nbr])
  rw [Zf (n:=(i:Int)+1) (by omega) (by omega)];refine ⟨(i+1,L2),⟨by simp only;omega,by simp only;omega,g2,g3⟩,by simp only;omega,?_⟩;(refine Zj ?_ ?_ ?_ rfl rfl<;>dsimp only [Zk,id,go_sem]<;>simp [Zk,Za])
 refine Zs (by simpa using hlt) ?_
 (repeat first | dsimp only [go_sem] | simp only [nbr])
 rw [hw1];refine UK (j - 1) rfl (by simp [g2];omega) ?_
 (repeat first | dsimp only [go_sem] | simp only [nbr])
 refine Zeb (by omega) ?_
 (repeat first | dsimp only [Zk,go_sem] | simp only [nbr])
 refine UK j rfl (by simpa [g2] using g1) ?_
 (repeat first | dsimp only [go_sem] | simp only [nbr])
 refine Zeb (by omega) ?_
 (repeat first | dsimp only [Zk,go_sem] | simp only [nbr])
 refine UK j rfl (by simpa [g2] using g1) ?_
 (repeat first | dsimp only [go_sem] | simp only [nbr])
 refine Ztj L2[j - 1] (by omega) (by simp [Zk]) (by simp [Zk,ZJ]) ?_
 (repeat first | dsimp only [go_sem] | simp only [nbr])
 refine UK (j - 1) (by first | rfl | rw [hw1]) (by simp [g2];omega) ?_
 (repeat first | dsimp only [go_sem] | simp only [nbr])
 refine Ztj L2[j] (by simp;omega) (by simp [Zk]) (by simp [Zk,ZJ]) ?_
 (repeat first | dsimp only [go_sem] | simp only [nbr])
 try rw [hw1]
 have hlen3:((L2.set j L2[j - 1]).set (j - 1) L2[j]).length=L.length:=by simpa using g2
 generalize (L2.set j L2[j - 1]).set (j - 1) L2[j]=L3 at hlen3 ⊢;refine ⟨(j - 1,L3),⟨by simp only;omega,hlen3,λhr=>?_⟩,by simp only;omega,?_⟩
 . exfalso;have e:=g3 hr;subst e;have:=ZgG (j:=j - 1) hr (by omega);simp only [show j - 1+1=j from by omega] at this;omega
 (refine Zj ?_ ?_ ?_ rfl rfl<;>dsimp only [Zk,id,go_sem]<;>simp [Zk,Za])
theorem ZCH (L:List Int) (v:Nat) (k:Int) (hn:L.length<=12):Cq 140 [(0,.row v 1 (L.map Zk) 3)] 1 [.mr 0 v,I 0,I L.length,I k]
 (λo=>∃ L',L'.length=L.length/\(Wf L=true->L'=L)/\o=⟨false,.tup [],[(0,.row v 1 (L'.map Zk) 3)],1⟩):=by
 refine m140 (by simp [hpb]) (λo ho=>by obtain ⟨L',_,_,rfl⟩:=ho;simp [KX,KXL,KXP,KXH,Za,Zk,KFL,KF]) ?_;dsimp only [c140,r140,go_sem];refine ZX 1 ?_;dsimp only [Zb,go_sem];rw [Zf (n:=(L.length:Int) - 0) (by omega) (by omega),Int.sub_zero];refine Zs (by simp;omega) ?_;dsimp only [go_sem];refine ZA [0] (ZCi L v (by omega)) rfl rfl rfl ?_ ?_ ?_
 . (repeat first | dsimp only [go_sem] | simp only [nbr])
   try simp [mtL,mtB,mtS,KFL,KF,KFR]
 . (repeat first | dsimp only [Zk,go_sem] | simp only [nbr])
   try simp [mtL,mtB,mtS,Zc,KFL,KF,KFR,Za,mtH,mtM,Zk]
 rintro _ ⟨L',e1,e2,rfl⟩
 (repeat first | dsimp only [go_sem] | simp only [nbr])
 refine ⟨_,⟨L',e1,e2,rfl⟩,?_⟩;(refine Zw ?_ ?_ ?_ rfl<;>dsimp only [Zk,id,go_sem]<;>simp [Zk,Za])
theorem Zdt (L:List Int) (v:Nat) (hn:L.length<=12):Cq 85 [(0,.row v 1 (L.map Zk) 3)] 1 [.mr 0 v]
 (λo=>∃ L',L'.length=L.length/\(Wf L=true->L'=L)/\o=⟨false,.tup [],[(0,.row v 1 (L'.map Zk) 3)],1⟩):=by
 refine m85 (by simp [hpb]) (λo ho=>by obtain ⟨L',_,_,rfl⟩:=ho;simp [KX,KXL,KXP,KXH,Za,Zk,KFL,KF]) ?_;dsimp only [c85,r85,go_sem];simp only [nbr];dsimp only [go_sem];simp only [List.length_map];have hu:IntKind.u64.wrap (L.length:Int)=(L.length:Int):=by
  have e:(L.length:Int) % 2 ^ IntKind.u64.bits=L.length:=Int.emod_eq_of_lt (by omega) (by show (L.length:Int) < 2 ^ 64;omega);simp only [IntKind.wrap,e,show IntKind.u64.signed=false from rfl,Bool.false_and];rfl
 rw [hu];refine call (ZBY L.length (by omega)) ?_;dsimp only [go_sem];refine ZA [0] (ZCH L v (Lib.bitLen ((L.length:Int)).toNat) hn) rfl rfl rfl ?_ ?_ ?_
 . (repeat first | dsimp only [go_sem] | simp only [nbr])
   try simp [mtL,mtB,mtS,KFL,KF,KFR]
 . (repeat first | dsimp only [Zk,go_sem] | simp only [nbr])
   try simp [mtL,mtB,mtS,Zc,KFL,KF,KFR,Za,mtH,mtM,Zk]
 rintro _ ⟨L',e1,e2,rfl⟩
 (repeat first | dsimp only [go_sem] | simp only [nbr])
 refine ⟨_,⟨L',e1,e2,rfl⟩,?_⟩;(refine Zw ?_ ?_ ?_ rfl<;>dsimp only [Zk,id,go_sem]<;>simp [Zk,Za])
theorem ZnS (L:List Int) (hl:L.length<=1000) (c:Bool):Cq 96 [] 0 [.sl c 1 (L.map Zk)] (λo=>o=⟨false,.mr 0 0,[(0,.row 0 1 (L.map Zk) 3)],1⟩\/(L=[]/\o=⟨false,.v (.slice none 0 0),[],0⟩)):=by
 refine md96 (by simp [hpb]) (λo ho=>by rcases ho with rfl | ⟨_,rfl⟩<;>simp [KX,KXL,KXP,KXH,Za,Zk,KFL,KF]) ?_;dsimp only [cd96,rd96,go_sem];intro b hb;dsimp only [go_sem];cases b with
 | true =>
  refine Zs rfl ?_;dsimp only [go_sem];refine ⟨_,.inr ⟨by simpa using hb rfl,rfl⟩,?_⟩;(refine Zw ?_ ?_ ?_ rfl<;>dsimp only [id,go_sem]<;>simp [Za])
 | false =>
  refine Zo rfl ?_;dsimp only [go_sem];refine ⟨by simp;omega,?_⟩;dsimp only [go_sem];refine ⟨_,.inl rfl,?_⟩;(refine Zw ?_ ?_ ?_ rfl<;>dsimp only [Zk,id,go_sem]<;>simp [Zk,Za])
theorem Zgv {l:List Int}:∀ k,Xd (λ_=>false) l k = -1:=by
 induction l with
 | nil=>intro k;rfl
 | cons a r ih=>intro k;simp only [Xd];first | exact ih _ | simp [ih]
theorem Zw5 (L:List Int) (v:Nat) (hl:L.length<=1000):Cq 145 [(0,.row v 1 (L.map Zk) 3)] 1 [.mr 0 v,.cl 146 [.ps [.sl false 1 []] 0]] (λo=>o=⟨false,.mr 0 v,[(0,.row v 1 (L.map Zk) 3)],1⟩):=by
 refine m145 (by simp [hpb]) (λo ho=>by subst ho;simp [KX,KXL,KXP,KXH,Za,Zk,KFL,KF]) ?_;dsimp only [ZEj,ZEk,go_sem];refine WM (by simp [FLT]) (res:=I (-1)) ?_ ?_
 . dsimp only [go_sem];simp only [nbr];dsimp only [go_sem];have h:=ZeO 146 [.ps [.sl false 1 []] 0] (by simp [KFL,KF,KFR]) (λ_=>false) L (λx _=>ZjY x) (by omega) (c:=false);rw [Zgv] at h;exact h
 dsimp only [go_sem];refine Zs rfl ?_;dsimp only [go_sem];refine ⟨_,rfl,?_⟩;(refine Zw ?_ ?_ ?_ rfl<;>dsimp only [Zk,id,go_sem]<;>simp [Zk,Za])
theorem Zxm:Cq 145 [] 0 [.v (.slice none 0 0),.cl 146 [.ps [.sl false 1 []] 0]] (λo=>o=⟨false,.v (.slice none 0 0),[],0⟩):=by
 refine m145 (by simp [hpb]) (λo ho=>by subst ho;simp [KX,KXL,KXP,KXH,Za,Zk,KFL,KF]) ?_;dsimp only [ZEj,ZEk,go_sem];have h:=ZeO 146 [.ps [.sl false 1 []] 0] (by simp [KFL,KF,KFR]) (λ_=>false) [] (λx _=>ZjY x) (by simp) (c:=false);rw [Zgv] at h;refine call (Ct.args h (by simp [KFL,KF,KFR]) (ZH YP λ_ _ _ _ _ h=>h)) ?_;dsimp only [go_sem];refine Zs rfl ?_;dsimp only [go_sem];refine ⟨_,rfl,?_⟩
 (refine Zw ?_ ?_ ?_ rfl<;>dsimp only [Zk,id,go_sem]<;>simp [Zk,Za])
end Go.Proofs.YtongccnhomncnaaGreatDoor.Ld
