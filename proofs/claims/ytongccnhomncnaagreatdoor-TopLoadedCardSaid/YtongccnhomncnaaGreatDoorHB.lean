/- Walks and plain laws that lead to the given statement, part 2 of 20. -/
import Derived.Test.YtongccnhomncnaaGreatDoorHA
set_option linter.all false
open Nat renaming beq_refl->nbr
namespace Go.Sx
open Go Go.RowKit
theorem Vy {o:Option SV} {d:Option Nat} {g:Option (Nat × Bool)} {σ : St} {r:KT} {K:RK} (h:WC o d g σ r K):∃ s,o=some s/\YE d s g σ r K:=by
 cases o with
 | none=>exact absurd h (by simp [WC])
 | some s=>exact ⟨s,rfl,h⟩
section
variable {P:Program} {σ : St} {g:Option (Nat × Bool)} {d:Option Nat} {r:KT} {K:RK}
def ZuO (P:Program) (o:Oper) (i:SI) (g:Option (Nat × Bool)) (σ : St) (s:SV):Prop :=
 ∀ C E n a w,HSim C E σ.hp n w->(∀ p ∈ opG g i,geP p.1 σ.fr->R w E n (okS C E σ.hp) (rdG p.1 σ.fr p.2) (evX a p.2))->geP g σ.fr->Yld P o a w (Zz C E σ.hp n w s)
theorem Zm1 {o:Oper} {i:SI} {s:SV} (hc:ZT P i o.op=true) (hs:pv (rdG g σ.fr) i=some s):ZuO P o i g σ s:=by
 intro C E n a w hh hρ hg;have hi:opG g i=(opX i).map λx=>(g,x):=by
  cases i<;>first | rfl | (simp [pv] at hs;done)
 have hρ':∀ x ∈ opX i,R w E n (okS C E σ.hp) (rdG g σ.fr x) (evX a x):=λx hx=>hρ (g,x) (by rw [hi];exact List.mem_map.2 ⟨x,hx,rfl⟩) hg;obtain ⟨y,h1,h2⟩:=ZBX hρ' hc hs;exact ZY h1 (Z9 h2)
theorem Ub {t b off len cap m n:Nat} {k:IntKind} {w:World} (h:(match P.underlying t with | some (.slice e)=>XT P e == some m | _=>false)=true) (hn:n < len) :
 (Instr.indexAt t (.slice (some ⟨b,off,none⟩) len cap) (.int k n)).run P w = .ok (.pointer (some ⟨b,off+n * m,none⟩)) w:=by
 split at h
 . rename_i e hu;simp at h;simp [Instr.indexAt,asIntOf,run_underlying hu,hn,Yb h,Y7]
 . cases h
theorem Wb {t b off len m n:Nat} {k:IntKind} {w:World} (h:(match P.underlying t with | some (.array len' e)=>len' == len && XT P e == some m | _=>false)=true) (hn:n < len) :
 (Instr.indexAt t (.pointer (some ⟨b,off,none⟩)) (.int k n)).run P w = .ok (.pointer (some ⟨b,off+n * m,none⟩)) w:=by
 split at h
 . rename_i len' e hu;simp at h;obtain ⟨rfl,h⟩:=h;simp [Instr.indexAt,asIntOf,run_underlying hu,hn,Yb h,Y7,Instr.sureAddr]
 . cases h
theorem Zu3 {w:World} {E:Env} {n:Nat->Prop} {ok:Nat->Prop} {b m:Nat}:∀ {xs:Rr} {off i:Nat} {row:Ls},RR w E n ok b m xs off->xs[i]? = some row ->
 ∃ cs,RL w E n ok row cs/\Uv w ok b (off+i * m) cs
 | [],_,i,row,_,h=>by simp at h
 | r0 :: xs,off,0,row,h,hi=>by
  simp only [RR] at h;simp at hi;subst hi;obtain ⟨_,⟨cs,h1,h2⟩,_⟩:=h;exact ⟨cs,h1,by simpa using h2⟩
 | r0 :: xs,off,i+1,row,h,hi=>by
  simp only [RR] at h;obtain ⟨cs,h1,h2⟩:=Zu3 h.2.2 (by simpa using hi);exact ⟨cs,h1,by rw [show off+(i+1) * m=off+m+i * m from by rw [Nat.add_mul];omega];exact h2⟩
theorem V3 {w:World} {E:Env} {n:Nat->Prop} {ok:Nat->Prop} {b off o m t:Nat} {ag:Bool} {l:Ls} {cs:LZ} {s:SV} (hl:RL w E n ok l cs)
 (hc:∀ j c,cs[j]? = some c->w.cell? ⟨b,off+j,none⟩=some c) (ha:ZcO P t=some ag) (hs:XT P t=some m) (hp:Wg l o m ag=some s) :
 ∃ y,(loadVar t ⟨b,off+o,none⟩).run P w = .ok y w/\R w E n ok s y:=by
 cases ag
 . simp only [Wg,Zhf] at hp;obtain ⟨y,h1,h2⟩:=Vz hl hp;exact ⟨y,Zb0 ha (hc _ _ h1),h2⟩
 . simp only [Wg] at hp;cases hb:Nat.ble (o+m) l.length
   . simp [hb] at hp
   . simp only [hb,cond_true,Option.some.injEq] at hp;subst hp;have hlen:=ZO hl;have hle:o+m<=l.length:=Nat.le_of_ble_eq_true hb;have hR:=X8 m (Vb o hl);refine ⟨.agg ((cs.drop o).take m).toArray,Zci ha hs (by simp;omega) (λj c hj=>?_),by simp only [R];exact ⟨_,rfl,by simpa using hR⟩⟩;have hj':j < m:=by have:=(List.getElem?_eq_some_iff.1 hj).1;simp at this;omega
     rw [List.getElem?_take_of_lt hj',List.getElem?_drop] at hj;rw [show off+o+j=off+(o+j) from by omega];exact hc _ _ hj
theorem Zrv {f:FuncId} {xs:List X} {op:Op} (h:ZT P (.call f xs) op=true):∃ as ts,op = .call ⟨.value (.func f),as,ts⟩/\Vr xs as.toList=true:=by
 cases op<;>simp [ZT] at h
 rename_i c;obtain ⟨callee,as,ts⟩:=c;cases callee<;>try (simp at h;done)
 rename_i x;cases x<;>simp at h
 obtain ⟨rfl,h⟩:=h;exact ⟨as,ts,rfl,h⟩
theorem ZpV {x:X} {xs:List X} {op:Op} (h:ZT P (.calv x xs) op=true):∃ y as ts,op = .call ⟨.value y,as,ts⟩/\Xb x y=true/\Vr xs as.toList=true:=by
 cases op<;>simp [ZT] at h
 rename_i c;obtain ⟨callee,as,ts⟩:=c;cases callee<;>try (simp at h;done)
 simp at h;exact ⟨_,as,ts,rfl,h⟩
theorem Zjr {f:FuncId} {xs:List X} {op:Op} (h:ZT P (.callm f xs) op=true):∃ as ts,op = .call ⟨.value (.func f),as,ts⟩/\Vr xs as.toList=true:=by
 cases op<;>simp [ZT] at h
 rename_i c;obtain ⟨callee,as,ts⟩:=c;cases callee<;>try (simp at h;done)
 rename_i x;cases x<;>simp at h
 obtain ⟨rfl,h⟩:=h;exact ⟨as,ts,rfl,h⟩
theorem ZkI {x:X} {xs:List X} {op:Op} (h:ZT P (.calvm x xs) op=true):∃ y as ts,op = .call ⟨.value y,as,ts⟩/\Xb x y=true/\Vr xs as.toList=true:=by
 cases op<;>simp [ZT] at h
 rename_i c;obtain ⟨callee,as,ts⟩:=c;cases callee<;>try (simp at h;done)
 simp at h;exact ⟨_,as,ts,rfl,h⟩
theorem ZkL {x:X} {op:Op} (h:ZT P (.len x) op=true):∃ as ts y t e,op = .call ⟨.builtin .len,as,ts⟩/\as.toList=[y]/\ts[0]? = some t/\Xb x y=true/\P.underlying t=some (.slice e):=by
 cases op<;>simp [ZT] at h
 rename_i c;obtain ⟨callee,as,ts⟩:=c;cases callee<;>try (simp at h;done)
 rename_i b;cases b<;>try (simp at h;done)
 simp only at h;split at h
 . rename_i y t e1 e2;simp only [Bool.and_eq_true] at h;obtain ⟨hx,hu⟩:=h;split at hu
   . rename_i e hu';exact ⟨as,ts,y,t,e,rfl,e1,e2,hx,hu'⟩
   . cases hu
 . cases h
theorem ZgV {w:World} {E:Env} {n:Nat->Prop} {ok:Nat->Prop} {m:Nat}:∀ {xs:Rr} {i:Nat} {row:Ls} {L:LZ},xs[i]? = some row->(∀ r ∈ xs,r.length=m)->RL w E n ok xs.flatten (L.take (xs.length * m)) ->
 ∃ cs,RL w E n ok row cs/\∀ j c,cs[j]? = some c->L[i * m+j]? = some c
 | [],i,row,L,h,_,_=>by simp at h
 | r0 :: xs,i,row,L,h,hm,hR=>by
  have hr0:r0.length=m:=hm r0 (by simp);simp only [List.flatten_cons,List.length_cons] at hR;cases i with
  | zero =>
   simp at h;subst h;have h1:=X8 r0.length hR;rw [List.take_left' rfl,List.take_take,show min r0.length ((xs.length+1) * m)=m from by rw [hr0,Nat.add_mul];omega] at h1;refine ⟨_,h1,λj c hj=>?_⟩;have hj':j < m:=by have:=(List.getElem?_eq_some_iff.1 hj).1;simp at this;omega
   rw [List.getElem?_take_of_lt hj'] at hj;simpa using hj
  | succ i =>
   have h1:=Vb r0.length hR;rw [List.drop_left' rfl,List.drop_take,hr0,show (xs.length+1) * m - m=xs.length * m from by rw [Nat.add_mul];omega] at h1;obtain ⟨cs,q1,q2⟩:=ZgV (i:=i) (by simpa using h) (λr hr=>hm r (by simp [hr])) h1;refine ⟨cs,q1,λj c hj=>?_⟩;have:=q2 j c hj;rw [List.getElem?_drop] at this;rw [show (i+1) * m+j=m+(i * m+j) from by rw [Nat.add_mul];omega];exact this
theorem Zay {E:Env} {n ok:Nat->Prop} {w:World} {k v m:Nat} {xs:Rr} {T:TypeId} (h:Yr w E n ok k (.row v m xs T)):∃ cs,UT w (E.hv k v) m xs.length cs/\RL w E n ok xs.flatten cs/\∀ r ∈ xs,r.length=m:=by
 simp only [Yr] at h;rcases h with ⟨_,⟨rfl,a0,h⟩ | ⟨b,cap,cs,h1,h2,h3,⟨h4,_⟩,h5,h6,h7⟩⟩
 . exact ⟨[],by rw [h];exact ⟨a0,0,rfl,Nat.le_refl _,by simp,.inl rfl⟩,by simp [RL],λr h=>by simp at h⟩
 . refine ⟨_,⟨_,cap,h1,h4,?_,.inr ⟨b,0,rfl,λj c hj=>?_⟩⟩,h7,h6⟩
   . have:=Nat.mul_le_mul_right m h4;simp only [List.length_take,Array.length_toList,h3];exact Nat.min_eq_left this
   . rw [Nat.zero_add,cell_of_row _ _ _ _ _ _ h2];have hj':j < xs.length * m:=by have:=(List.getElem?_eq_some_iff.1 hj).1;simp at this;omega
     rw [List.getElem?_take_of_lt hj'] at hj;simpa using hj
theorem VM {xs ys:Rr} {b:Bool} (h:Zie xs b=some ys):b=true/\xs=ys:=by cases b<;>simp [Zie] at h;exact ⟨rfl,h⟩
theorem ZfB {E:Env} {n ok:Nat->Prop} {w:World} {c:Bool} {m:Nat} {xs:Rr} {y:Value} (h:R w E n ok (.sl c m xs) y):∀ r ∈ xs,r.length=m:=by
 simp only [R] at h;obtain ⟨_,_,_,_,_,_,_,h | ⟨b,off,_,h⟩⟩:=h
 . subst h;intro r h;simp at h
 . exact ZlT xs off h
theorem Zi9 {C:Cx} {E:Env} {hp:Lh} {n:Nat->Prop} {w:World} {m:Nat} {s:SV} {y:Value} {ys:Rr} (hh:HSim C E hp n w) (hR:R w E n (okS C E hp) s y) (h:Zxz m hp s=some ys) :
 ∃ cs,UT w y m ys.length cs/\RL w E n (okS C E hp) ys.flatten cs/\∀ r ∈ ys,r.length=m:=by
 unfold Zxz at h;split at h
 . rename_i m' xs;obtain ⟨hb,rfl⟩:=VM h;have:=Nat.eq_of_beq_eq_true hb;subst this;obtain ⟨cs,h1,h2,_⟩:=Zdr hR;exact ⟨cs,h1,h2,ZfB hR⟩
 . simp at h;subst h;simp only [R] at hR;subst hR;exact ⟨[],Zb4,by simp [RL],λr h=>by simp at h⟩
 . rename_i k v;simp only [R] at hR;cases hk:lkh k hp<;>rw [hk] at h<;>simp only [Zmr] at h<;>try (cases h;done)
   obtain ⟨hb,rfl⟩:=VM h;obtain ⟨hb,hv⟩:=Yt hb;have:=Nat.eq_of_beq_eq_true hb;subst this;have:=Nat.eq_of_beq_eq_true hv;subst this;have hb:=hh.bk k;rw [hk] at hb;rw [hR.2.2.1];exact Zay hb
 . cases h
theorem Zdl {E:Env} {n ok:Nat->Prop} {w:World} {m:Nat} {s:SV} {y:Value} {xs:Rr} (hR:R w E n ok s y) (h:Zm5 m s=some xs) :
 ∃ cs,UT w y m xs.length cs/\RL w E n ok xs.flatten cs/\(∀ r ∈ xs,r.length=m)/\∃ a,y = .slice a xs.length xs.length:=by
 unfold Zm5 at h;split at h
 . rename_i m' xs;obtain ⟨hb,rfl⟩:=VM h;have:=Nat.eq_of_beq_eq_true hb;subst this;obtain ⟨cs,h1,h2,h3⟩:=Zdr hR;exact ⟨cs,h1,h2,ZfB hR,h3 rfl⟩
 . simp at h;subst h;simp only [R] at hR;subst hR;exact ⟨[],Zb4,by simp [RL],(λr h=>by simp at h),none,rfl⟩
 . cases h
theorem ZCT {E:Env} {n ok:Nat->Prop} {w:World} {m:Nat} {s:SV} {y:Value} {xs:Rr} (hR:R w E n ok s y) (h:Zm5 m s=some xs) :
 ∃ a len cap,y = .slice a len cap/\len=xs.length/\(len<=cap/\(false=true->cap=len))/\xs.length<=9223372036854775807/\(xs=[]\/∃ b off,a=some ⟨b,off,none⟩/\RR w E n ok b m xs off):=by
 unfold Zm5 at h;split at h
 . rename_i m' xs;obtain ⟨hb,rfl⟩:=VM h;have:=Nat.eq_of_beq_eq_true hb;subst this;simp only [R] at hR;obtain ⟨a,len,cap,q1,q2,⟨q3,_⟩,q4⟩:=hR;exact ⟨a,len,cap,q1,q2,⟨q3,λh=>by cases h⟩,q4⟩
 . simp at h;subst h;simp only [R] at hR;subst hR;exact ⟨none,0,0,rfl,rfl,⟨Nat.le_refl _,λh=>by cases h⟩,by simp,.inl rfl⟩
 . cases h
theorem XF {P:Program} {t e:TypeId} {w:World} (x:Value) (lo hi mx:Option Value) (h:P.underlying t=some (.slice e)) :
 (Instr.sliceAt t x lo hi mx).run P w=(Instr.slice t x lo hi mx).run P w:=by
 simp [Instr.sliceAt,run_underlying h]
theorem Zkh {w:World} {E:Env} {n ok:Nat->Prop} {b m:Nat}:∀ {xs:Rr} {off:Nat} (j:Nat),RR w E n ok b m xs off->RR w E n ok b m (xs.take j) off
 | [],_,j,_=>by simp [RR]
 | x :: xs,off,0,_=>by simp [RR]
 | x :: xs,off,j+1,h=>by simp only [List.take_succ_cons,RR] at *;exact ⟨h.1,h.2.1,Zkh j h.2.2⟩
theorem Zmm {w:World} {E:Env} {n ok:Nat->Prop} {b m:Nat}:∀ {xs:Rr} {off:Nat} (i:Nat),RR w E n ok b m xs off->RR w E n ok b m (xs.drop i) (off+i * m)
 | [],off,i,_=>by simp [RR]
 | x :: xs,off,0,h=>by simpa using h
 | x :: xs,off,i+1,h=>by
  simp only [RR] at h;have:=Zmm i h.2.2;rw [List.drop_succ_cons,show off+(i+1) * m=off+m+i * m from by rw [Nat.add_mul];omega];exact this
theorem ZCC {w:World} {E:Env} {n ok:Nat->Prop} {b m:Nat} {xs:Rr} {off:Nat} (h:RR w E n ok b m xs off) (i j:Nat):RR w E n ok b m ((xs.take j).drop i) (off+i * m):=Zmm i (Zkh j h)
theorem Zv9 {P:Program} {o:Oper} {ρ : X->SV} {m i j len cap:Nat} {ad:Option Addr} {x:X} {lo hi:Option X} {a:Act} {w:World} {E:Env} {n ok:Nat->Prop} (hc:ZT P (.sub m x lo hi) o.op=true) (q0:evX a x = .slice ad len cap) (q1:len<=cap) (e3:i<=j) (e4:j<=len)
 (hli:Zc3 0 ρ lo=some (i:Int)) (hhj:Zc3 len ρ hi=some (j:Int)) (hρ : ∀ x ∈ lo.toList ++ hi.toList,R w E n ok (ρ x) (evX a x)) :
 (execOp a.eval o).run P w = .ok (.value (.slice (if cap - i=0 then ad else ad.map (·.add (i * m))) (j - i) (cap - i))) w:=by
 obtain ⟨dst,op,ty,pos,after,guard⟩:=o;cases op<;>simp [ZT] at hc
 rename_i t y lo' hi' mx;cases mx<;>simp [ZT] at hc
 obtain ⟨⟨⟨c1,c2⟩,c3⟩,c4⟩:=hc;split at c4
 case h_2=>cases c4
 rename_i e hu;simp only [beq_iff_eq] at c4;have hsz:=Yb (w:=w) c4;have hlo:∃ v,(lo'.map a.eval)=v/\((v=none/\i=0)\/∃ k,v=some (.int k i)):=by
  cases lo with
  | none=>cases lo' with
   | none=>simp only [Zc3,Option.some.injEq] at hli;exact ⟨none,rfl,.inl ⟨rfl,by omega⟩⟩
   | some _=>simp [UC] at c2
  | some xl=>cases lo' with
   | none=>simp [UC] at c2
   | some ol =>
    simp only [UC] at c2;have hRl:=hρ xl (by simp);simp only [Zc3] at hli;split at hli
    . rename_i k0 n0 hq;simp only [Option.some.injEq] at hli;subst hli;rw [hq] at hRl;simp only [R] at hRl;exact ⟨_,rfl,.inr ⟨k0,by simp only [Option.map_some,Zh c2 a,hRl]⟩⟩
    . cases hli
 have hhi:∃ v,(hi'.map a.eval)=v/\((v=none/\j=len)\/∃ k,v=some (.int k j)):=by
  cases hi with
  | none=>cases hi' with
   | none=>simp only [Zc3,Option.some.injEq] at hhj;exact ⟨none,rfl,.inl ⟨rfl,by omega⟩⟩
   | some _=>simp [UC] at c3
  | some xl=>cases hi' with
   | none=>simp [UC] at c3
   | some ol =>
    simp only [UC] at c3;have hRl:=hρ xl (by simp);simp only [Zc3] at hhj;split at hhj
    . rename_i k0 n0 hq;simp only [Option.some.injEq] at hhj;subst hhj;rw [hq] at hRl;simp only [R] at hRl;exact ⟨_,rfl,.inr ⟨k0,by simp only [Option.map_some,Zh c3 a,hRl]⟩⟩
    . cases hhj
 obtain ⟨vl,el,hl⟩:=hlo;obtain ⟨vh,eh,hh'⟩:=hhi;have hb:(Instr.sliceBounds true len cap vl vh none).run P w = .ok (i,j,cap) w:=by
  have b1:(0:Int)<=i/\(i:Int)<=(j:Int):=by omega
  have b2:(0:Int)<=j/\(j:Int)<=(cap:Int):=by omega
  rcases hh' with ⟨rfl,rfl⟩ | ⟨k,rfl⟩<;>rcases hl with ⟨rfl,rfl⟩ | ⟨k',rfl⟩
  . simp [Instr.sliceBounds]
  . simp only [Instr.sliceBounds,Instr.sliceBound,Sem.run_bind,asIntOf,Sem.run_pure,Result.andThen_ok];rw [if_pos b1];simp
  . simp only [Instr.sliceBounds,Instr.sliceBound,Sem.run_bind,asIntOf,Sem.run_pure,Result.andThen_ok];rw [if_pos b2];simp
  . simp only [Instr.sliceBounds,Instr.sliceBound,Sem.run_bind,asIntOf,Sem.run_pure,Result.andThen_ok];rw [if_pos b2];simp only [Sem.run_pure,Result.andThen_ok,Int.toNat_natCast];rw [if_pos b1];simp
 simp only [execOp,Zh c1 a,q0,el,eh,Option.map_none];rw [Sem.run_bind,XF _ _ _ _ hu];have hrun:(Instr.slice t (.slice ad len cap) vl vh none).run P w = .ok (.slice (if cap - i=0 then ad else ad.map (·.add (i * m))) (j - i) (cap - i)) w:=by
  have hcc:(if cap=i then ad else ad.map (·.add (i * m)))=(if cap - i=0 then ad else ad.map (·.add (i * m))):=by
   by_cases hq:cap=i
   . rw [if_pos hq,if_pos (by omega)]
   . rw [if_neg hq,if_neg (by omega)]
  simp only [Instr.slice,Sem.run_bind,run_underlying hu,Result.andThen_ok,hb,hsz,Sem.run_pure,hcc]
 rw [hrun];rfl
theorem X2 {o:Oper} {i:SI} (hc:ZT P i o.op=true) (h:Yw P g d i σ r K):∃ s,YE d s g σ r K/\ZuO P o i g σ s:=by
 have dflt:WC (pv (rdG g σ.fr) i) d g σ r K->∃ s,YE d s g σ r K/\ZuO P o i g σ s:=λh=>by
  obtain ⟨s,h1,h2⟩:=Vy h;exact ⟨s,h2,Zm1 hc h1⟩
 have dfl2:∀ s,pv (rdG g σ.fr) i=some s->YE d s g σ r K->∃ s,YE d s g σ r K/\ZuO P o i g σ s:=λs h1 h2=>⟨s,h2,Zm1 hc h1⟩;cases i<;>try (first | exact dflt h | exact dfl2 _ rfl h | exact False.elim h)
 case call f as =>
  obtain ⟨res,h1,h2⟩:=h;rw [Z1,Z1] at h1;refine ⟨res,h2,λC E n a w hh hρ hg=>?_⟩;have hR:RL w E n (okS C E σ.hp) (U6 (rdG g σ.fr) as) (as.map (evX a)):=Zah as λx hx=>hρ (g,x) (by simp only [opG,opX];exact List.mem_map.2 ⟨x,hx,rfl⟩) hg;obtain ⟨as',ts,e1,e2⟩:=Zrv hc;have he:as'.map a.eval=(as.map (evX a)).toArray:=by apply Array.toList_inj.1;simp [YS e2 a]
  have hrun:Z4 P f=true->(execOp a.eval o).run P w = .ok (.enter f (as.map (evX a)).toArray) w:=λhbd=>by
   simp [execOp,e1,resolve,Act.eval,Deferred.ofValue,invoke,he,Xe hbd]
  rcases h1 with h1 | ⟨hf,h1⟩
  . exact Zuq (f:=f) hh (hrun (h1 hg).bd) hR (h1 hg)
  . exact Zno (f:=f) hh (hrun (h1 hg).bd) hR hf (h1 hg)
 case calv x as =>
  simp only [Yw,Zoz] at h;split at h
  . rename_i f caps hx;obtain ⟨res,h1,h2⟩:=h;rw [Z1,Z1] at h1;refine ⟨res,h2,λC E n a w hh hρ hg=>?_⟩;have hR:RL w E n (okS C E σ.hp) (U6 (rdG g σ.fr) as) (as.map (evX a)):=Zah as λy hy=>hρ (g,y) (by simp only [opG,opX];exact List.mem_map.2 ⟨y,by simp [hy],rfl⟩) hg;have hRx:=hρ (g,x) (by simp only [opG,opX];exact List.mem_map.2 ⟨x,by simp,rfl⟩) hg;simp only [hx,R] at hRx;obtain ⟨cs,k1,k2⟩:=hRx
    obtain ⟨y,as',ts,e1,e2,e3⟩:=ZpV hc;have he:as'.map a.eval=(as.map (evX a)).toArray:=by apply Array.toList_inj.1;simp [YS e3 a]
    have he2:(as.map (evX a)).toArray ++ cs=(as.map (evX a) ++ cs.toList).toArray:=by apply Array.toList_inj.1;simp
    have hrun:Z4 P f=true->(execOp a.eval o).run P w = .ok (.enter f (as.map (evX a) ++ cs.toList).toArray) w:=λhbd=>by
     simp [execOp,e1,resolve,Zh e2 a,k1,Deferred.ofValue,invoke,he,he2,Xe hbd]
    rcases h1 with h1 | ⟨hf,h1⟩
    . exact Zuq (f:=f) hh (hrun (h1 hg).bd) (Yj hR k2) (h1 hg)
    . exact Zno (f:=f) hh (hrun (h1 hg).bd) (Yj hR k2) hf (h1 hg)
  . cases h
 case pick c x y =>
  obtain ⟨s,h1,h2⟩:=Vy h;refine ⟨s,h2,λC E n a w hh hρ hg=>?_⟩;obtain ⟨dst,op,ty,pos,after,guard⟩:=o;cases op<;>simp [ZT] at hc
  rename_i c' x' y';obtain ⟨⟨hc1,hc2⟩,hc3⟩:=hc;have hgt:∀ t cb,rdG g σ.fr (.t t) = .v (.bool cb)->ge σ.fr t cb:=λt cb hcb=>by
   simp only [rdG,rd] at hcb;cases hl:lk t σ.fr<;>rw [hl] at hcb<;>simp only [Xl] at hcb<;>try (cases hcb;done)
   . exact .base (by rw [hl];exact hcb)
   . rename_i j wj s';cases g with
     | none=>cases hcb
     | some q =>
      obtain ⟨j0,w0⟩:=q;simp only at hcb;cases ha:alw 8 σ.fr j0 w0 j wj
      . rw [ha] at hcb;cases hcb
      . rw [ha] at hcb;simp only [ZfI] at hcb;subst hcb;exact .step hl (Zbp 8 ha hg)
  unfold Zh4 at h1;split at h1
  . rename_i t;simp only [opG] at hρ;have hRc:=hρ (g,.t t) (by simp) hg;have hRy:=hρ (some (t,false),y) (by simp);unfold Ziu at h1;split at h1
    . rename_i cb yb hcb hyb;simp at h1;subst h1;rw [hcb] at hRc;simp only [R] at hRc;have hge:=hgt t cb hcb;rw [hyb] at hRy;simp only [R] at hRy;refine ZY (y:=.bool (cb || yb)) ?_ (Z9 (by simp [R]));simp only [execOp,Zh hc1 a,Zh hc2 a,Zh hc3 a,hRc,asBool,Sem.run_bind,Sem.run_pure,Result.andThen_ok];cases cb
      . simp [hRy hge]
      . simp [evX]
    . rename_i cb tb hcb hyb;cases cb
      . cases h1
      simp at h1;subst h1;rw [hcb] at hRc;simp only [R] at hRc;refine ZY (y:=.bool true) ?_ (Z9 (by simp [R]));simp only [execOp,Zh hc1 a,Zh hc2 a,Zh hc3 a,hRc,asBool,Sem.run_bind,Sem.run_pure,Result.andThen_ok];simp [evX]
    . cases h1
  . rename_i t hne;simp only [opG] at hρ;have hRc:=hρ (g,.t t) (by simp) hg;have hRx:=hρ (some (t,true),x) (by simp);unfold ZfT at h1;split at h1
    . rename_i cb xb hcb hxb;simp at h1;subst h1;rw [hcb] at hRc;simp only [R] at hRc;have hge:=hgt t cb hcb;rw [hxb] at hRx;simp only [R] at hRx;refine ZY (y:=.bool (cb && xb)) ?_ (Z9 (by simp [R]));simp only [execOp,Zh hc1 a,Zh hc2 a,Zh hc3 a,hRc,asBool,Sem.run_bind,Sem.run_pure,Result.andThen_ok];cases cb
      . simp [evX]
      . simp [hRx hge]
    . rename_i cb tb hcb hxb;cases cb
      case true=>cases h1
      simp at h1;subst h1;rw [hcb] at hRc;simp only [R] at hRc;refine ZY (y:=.bool false) ?_ (Z9 (by simp [R]));simp only [execOp,Zh hc1 a,Zh hc2 a,Zh hc3 a,hRc,asBool,Sem.run_bind,Sem.run_pure,Result.andThen_ok];simp [evX]
    . cases h1
  . cases h1
 case bsl m T ps =>
  obtain ⟨s,h1,h2⟩:=Vy h;refine ⟨s,h2,λC E n a w hh hρ hg=>?_⟩;obtain ⟨dst,op,ty,pos,after,guard⟩:=o;cases op<;>simp [ZT] at hc
  rename_i t len parts;obtain ⟨⟨⟨⟨⟨⟨⟨c1,c2⟩,c3⟩,c4⟩,c5⟩,c6⟩,c7⟩,c8⟩:=hc;have c1':P.underlying t=some (.slice T):=by split at c1<;>simp_all
  have c6':∃ z,YN P T=some z/\z.cells.size=m:=by split at c6<;>simp_all
  obtain ⟨y,w',k1,k2⟩:=ZxF hh (λx hx=>hρ (g,x) (by simp only [opG,opX];exact List.mem_map.2 ⟨x,hx,rfl⟩) hg) c1' c2 c3 c4 c5 c6' c7 c8 h1;exact ZY (w':=w') (by simp only [execOp,Sem.run_bind,k1,Result.andThen_ok,Sem.run_pure]) k2
 case slc x h' k' =>
  simp only [Yw,ZD5] at h;split at h
  . rename_i c m xs kd n kd' j hx hh' hk';obtain ⟨h1,h2⟩:=h;rw [Z1] at h1;refine ⟨_,h2,λC E n' a w hh hρ hg=>?_⟩;obtain ⟨e1,e2⟩:=h1 hg;have hRx:=hρ (g,x) (by simp [opG,opX]) hg;have hRh:=hρ (g,h') (by simp [opG,opX]) hg;have hRk:=hρ (g,k') (by simp [opG,opX]) hg;simp only [hx,R] at hRx;simp only [hh',R] at hRh;simp only [hk',R] at hRk;obtain ⟨dst,op,ty,pos,after,guard⟩:=o;cases op<;>simp [ZT] at hc
    rename_i t y lo hi mx;cases lo<;>cases hi<;>cases mx<;>simp [ZT] at hc
    obtain ⟨⟨⟨c1,c2⟩,c3⟩,c4⟩:=hc;split at c4
    . rename_i e hu;obtain ⟨i,hi⟩:=Option.isSome_iff_exists.1 c4;obtain ⟨ad,len,cap,q0,rfl,⟨q1,_⟩,q2,q3⟩:=hRx;have hsz:(sizeOf e).run P w = .ok i.size w:=by simp [sizeOf,typeInfo,hi]
      have hrun:∃ ad',(Instr.slice t (.slice ad xs.length cap) none (some (.int kd n)) (some (.int kd' j))).run P w = .ok (.slice ad' xs.length xs.length) w/\(xs=[]\/ad'=ad):=by
       have b1:(0:Int)<=j/\j<=cap:=by omega
       have b2:(0:Int)<=n/\n<=(j.toNat:Int):=by omega
       refine ⟨if j.toNat=0 then ad else ad.map (·.add (0 * i.size)),?_,?_⟩
       . simp only [Instr.slice,Sem.run_bind,run_underlying hu,Result.andThen_ok,Instr.sliceBounds,Instr.sliceBound,asIntOf,Sem.run_pure];rw [if_pos b1];simp only [Sem.run_pure,Result.andThen_ok];rw [if_pos b2];simp only [Sem.run_pure,Result.andThen_ok,hsz];rw [show j.toNat=xs.length from by omega,show n.toNat=xs.length from by omega];simp
       . by_cases h0:xs=[]
         . exact .inl h0
         . right;have:¬ j.toNat=0:=by
            have:xs.length≠0:=λh=>h0 (List.eq_nil_of_length_eq_zero h);omega
           rw [if_neg this];cases ad<;>simp [Addr.add]
      obtain ⟨ad',hrun,had⟩:=hrun;refine ZY (y:=.slice ad' xs.length xs.length) (w':=w) ?_ (Z9 ?_)
      . simp only [execOp,Option.map_some,Option.map_none,Zh c1 a,Zh c2 a,Zh c3 a,q0,hRh,hRk];rw [Sem.run_bind,XF _ _ _ _ hu,hrun];rfl
      . simp only [R];refine ⟨ad',_,_,rfl,rfl,⟨Nat.le_refl _,λ_=>rfl⟩,q2,?_⟩;rcases q3 with q3 | q3
        . exact .inl q3
        . rcases had with h0 | rfl
          . exact .inl h0
          . exact .inr q3
    . cases c4
  . cases h
 case sub m x lo hi =>
  simp only [Yw,ZDn] at h;split at h
  . rename_i c m' xs hx;cases hm:Nat.beq m m'
    . rw [hm] at h;exact h.elim
    . rw [hm] at h;simp only [cond_true,ZAz] at h;have:=Nat.eq_of_beq_eq_true hm;subst this;split at h
      case h_2=>cases h
      case h_3=>cases h
      rename_i li hj hli hhj;obtain ⟨i,j,h1,h2⟩:=h;rw [Z1] at h1;refine ⟨_,h2,λC E n' a w hh hρ hg=>?_⟩;obtain ⟨rfl,rfl,e3,e4⟩:=h1 hg;have hRx:=hρ (g,x) (by simp [opG,opX]) hg;simp only [hx,R] at hRx;obtain ⟨ad,len,cap,q0,rfl,⟨q1,_⟩,q2,q3⟩:=hRx;obtain ⟨dst,op,ty,pos,after,guard⟩:=o;cases op<;>simp [ZT] at hc
      rename_i t y lo' hi' mx;cases mx<;>simp [ZT] at hc
      obtain ⟨⟨⟨c1,c2⟩,c3⟩,c4⟩:=hc;split at c4
      . rename_i e hu;simp only [beq_iff_eq] at c4;have hsz:=Yb (w:=w) c4;have hlo:∃ v,(lo'.map a.eval)=v/\((v=none/\i=0)\/∃ k,v=some (.int k i)):=by
         cases lo with
         | none=>cases lo' with
          | none=>simp only [Zc3,Option.some.injEq] at hli;exact ⟨none,rfl,.inl ⟨rfl,by omega⟩⟩
          | some _=>simp [UC] at c2
         | some xl=>cases lo' with
          | none=>simp [UC] at c2
          | some ol =>
           simp only [UC] at c2;have hRl:=hρ (g,xl) (by simp [opG,opX]) hg;simp only [Zc3] at hli;split at hli
           . rename_i k0 n0 hq;simp only [Option.some.injEq] at hli;subst hli;rw [hq] at hRl;simp only [R] at hRl;exact ⟨_,rfl,.inr ⟨k0,by simp only [Option.map_some,Zh c2 a,hRl]⟩⟩
           . cases hli
        have hhi:∃ v,(hi'.map a.eval)=v/\((v=none/\j=xs.length)\/∃ k,v=some (.int k j)):=by
         cases hi with
         | none=>cases hi' with
          | none=>simp only [Zc3,Option.some.injEq] at hhj;exact ⟨none,rfl,.inl ⟨rfl,by omega⟩⟩
          | some _=>simp [UC] at c3
         | some xl=>cases hi' with
          | none=>simp [UC] at c3
          | some ol =>
           simp only [UC] at c3;have hRl:=hρ (g,xl) (by simp [opG,opX]) hg;simp only [Zc3] at hhj;split at hhj
           . rename_i k0 n0 hq;simp only [Option.some.injEq] at hhj;subst hhj;rw [hq] at hRl;simp only [R] at hRl;exact ⟨_,rfl,.inr ⟨k0,by simp only [Option.map_some,Zh c3 a,hRl]⟩⟩
           . cases hhj
        obtain ⟨vl,el,hl⟩:=hlo;obtain ⟨vh,eh,hh'⟩:=hhi;have hb:(Instr.sliceBounds true xs.length cap vl vh none).run P w = .ok (i,j,cap) w:=by
         have b1:(0:Int)<=i/\(i:Int)<=(j:Int):=by omega
         have b2:(0:Int)<=j/\(j:Int)<=(cap:Int):=by omega
         rcases hh' with ⟨rfl,rfl⟩ | ⟨k,rfl⟩<;>rcases hl with ⟨rfl,rfl⟩ | ⟨k',rfl⟩
         . simp [Instr.sliceBounds]
         . simp only [Instr.sliceBounds,Instr.sliceBound,Sem.run_bind,asIntOf,Sem.run_pure,Result.andThen_ok];rw [if_pos b1];simp
         . simp only [Instr.sliceBounds,Instr.sliceBound,Sem.run_bind,asIntOf,Sem.run_pure,Result.andThen_ok];rw [if_pos b2];simp
         . simp only [Instr.sliceBounds,Instr.sliceBound,Sem.run_bind,asIntOf,Sem.run_pure,Result.andThen_ok];rw [if_pos b2];simp only [Sem.run_pure,Result.andThen_ok,Int.toNat_natCast];rw [if_pos b1];simp
        refine ZY (y:=.slice (if cap - i=0 then ad else ad.map (·.add (i * m))) (j - i) (cap - i)) (w':=w) ?_ (Z9 ?_)
        . simp only [execOp,Zh c1 a,q0,el,eh,Option.map_none];rw [Sem.run_bind,XF _ _ _ _ hu];have hrun:(Instr.slice t (.slice ad xs.length cap) vl vh none).run P w = .ok (.slice (if cap - i=0 then ad else ad.map (·.add (i * m))) (j - i) (cap - i)) w:=by
           have hcc:(if cap=i then ad else ad.map (·.add (i * m)))=(if cap - i=0 then ad else ad.map (·.add (i * m))):=by
            by_cases hq:cap=i
            . rw [if_pos hq,if_pos (by omega)]
            . rw [if_neg hq,if_neg (by omega)]
           simp only [Instr.slice,Sem.run_bind,run_underlying hu,Result.andThen_ok,hb,hsz,Sem.run_pure,hcc]
          rw [hrun];rfl
        . simp only [R];have hlen:(List.drop i (List.take j xs)).length=j - i:=by simp;omega
          refine ⟨_,_,_,rfl,hlen.symm,⟨by omega,λh=>by cases h⟩,by omega,?_⟩;rcases q3 with q3 | ⟨b,off,rfl,q4⟩
          . left;rw [q3];simp
          . by_cases he:j - i=0
            . left;exact List.eq_nil_of_length_eq_zero (by omega)
            . right;have hci:¬ (cap - i=0):=by omega
              rw [if_neg hci];refine ⟨b,off+i * m,by simp [Y7],?_⟩;exact ZCC q4 i j
      . cases c4
  . rename_i kk vv hx;unfold ZD8 at h;split at h
    case h_2=>cases h
    rename_i v' m' xs T hk;cases hm:We (Nat.beq m m') (Nat.beq vv v')
    . rw [hm] at h;exact h.elim
    rw [hm] at h;simp only [Zfq,ZAU] at h;obtain ⟨hm,hv⟩:=Yt hm;have:=Nat.eq_of_beq_eq_true hm;subst this;have:=Nat.eq_of_beq_eq_true hv;subst this;split at h
    case h_2=>cases h
    case h_3=>cases h
    rename_i li hj hli hhj;obtain ⟨i,j,h1,h2⟩:=h;rw [Z1] at h1;refine ⟨_,h2,λC E n' a w hh hρ hg=>?_⟩;obtain ⟨rfl,rfl,e3,e4⟩:=h1 hg;have hRx:=hρ (g,x) (by simp [opG,opX]) hg;simp only [hx,R] at hRx;obtain ⟨g1,g0,g2,_⟩:=hRx;have hb:=hh.bk kk;rw [hk] at hb;simp only [Yr] at hb;have hsl:∃ ad cap,E.hv kk vv = .slice ad xs.length cap/\xs.length<=cap:=by
     rcases hb with ⟨_,⟨q1,a0,q2⟩ | ⟨b',cap',cs,q1,_,_,q4,_⟩⟩
     . exact ⟨a0,0,by rw [q2,q1];rfl,by rw [q1];exact Nat.le_refl _⟩
     . exact ⟨_,cap',q1,q4.1⟩
    obtain ⟨ad,cap,q0,q1⟩:=hsl;refine ZY (Zv9 (n:=n') (E:=E) (ok:=okS C E σ.hp) hc (g2.trans q0) q1 e3 e4 hli hhj (λy hy=>hρ (g,y) (by simp only [opG,opX,List.mem_map];exact ⟨y,by simp only [List.mem_cons];exact .inr hy,rfl⟩) hg)) (Z9 ?_);simp only [R];exact ⟨g1,g0,ad,_,cap,q0,by omega,rfl⟩
  . cases h
 case app m b T x y =>
  simp only [Yw,ZAH] at h;split at h
  case h_2=>cases h
  case h_3=>cases h
  rename_i xs ys hxs hys;obtain ⟨h1,h2⟩:=h;rw [Z1] at h1;refine ⟨_,h2,λC E n a w hh hρ hg=>?_⟩;have hlim:=h1 hg;have hRx:=hρ (g,x) (by simp [opG,opX]) hg;have hRy:=hρ (g,y) (by simp [opG,opX]) hg;obtain ⟨dst,op,ty,pos,after,guard⟩:=o;cases op<;>simp [ZT] at hc
  rename_i c;obtain ⟨callee,as,ts⟩:=c;cases callee<;>try (simp at hc;done)
  rename_i bi;cases bi<;>try (simp at hc;done)
  simp only [Bool.and_eq_true,beq_iff_eq,Nat.blt_eq] at hc;obtain ⟨⟨⟨⟨hc,hsz⟩,hby⟩,hb0⟩,hz⟩:=hc;obtain ⟨z,hz⟩:=Option.isSome_iff_exists.1 hz;split at hc
  . rename_i x' y' t t' e1 e2;simp only [Bool.and_eq_true,beq_iff_eq] at hc;obtain ⟨⟨⟨rfl,c1⟩,c2⟩,c3⟩:=hc;have c3':P.underlying t=some (.slice T):=by split at c3<;>simp_all
    have has:as.map a.eval = #[evX a x,evX a y]:=by apply Array.toList_inj.1;simp [e1,Zh c1 a,Zh c2 a]
    have hts:ts = #[t,t]:=by apply Array.toList_inj.1;simpa using e2
    obtain ⟨cx,x1,x2,x3,x4⟩:=Zdl hRx hxs;obtain ⟨cy,y1,y2,y3⟩:=Zi9 hh hRy hys;have hlim2:xs.length+ys.length<=140737488355328:=Nat.le_trans (Nat.le_mul_of_pos_right _ hb0) hlim;obtain ⟨v,w',q1,q2,q3⟩:=Ua (P:=P) (ty:=ty) c3' hsz hby hz x1 x4 y1 hlim hlim2;refine ZY (y:=v) (w':=w') (by simp [execOp,resolve,has,hts,invoke,builtin,q1]) ⟨?_,q2⟩;have hst:=Yd (ok:=okS C E σ.hp) q2;simp only [R];rcases q3 with ⟨g0,rfl,rfl⟩ | ⟨g0,cap,g1,rfl,rfl⟩
    . have:ys=[]:=List.eq_nil_of_length_eq_zero g0;subst this;rw [List.append_nil];exact (ZCT hRx hxs)
    . refine ⟨_,_,cap,rfl,by simp,⟨by simpa using g1,λh=>by cases h⟩,by simp;omega,.inr ⟨w.heap.size,0,rfl,?_⟩⟩;refine Zcf (WV hh (Nat.le_refl _)) (xs ++ ys) 0 (cx ++ cy) (λr hr=>?_) ?_ (λj c hj=>?_)
      . rcases List.mem_append.1 hr with hr | hr
        . exact x3 r hr
        . exact y3 r hr
      . rw [List.flatten_append];exact Yj (ZL hst (λ_ _=>Ele.rfl) (λ_ h=>h) _ _ x2) (ZL hst (λ_ _=>Ele.rfl) (λ_ h=>h) _ _ y2)
      . have hnew:(w.drew.alloc (.cells (cx.toArray ++ cy.toArray ++ Builtin.zeroCells z.cells (cap - (xs.length+ys.length))) T)).heap[w.heap.size]? = some (.cells (cx.toArray ++ cy.toArray ++ Builtin.zeroCells z.cells (cap - (xs.length+ys.length))) T (0,0)):=heap_alloc_new _ _;rw [Nat.zero_add,cell_of_row _ _ _ _ _ _ hnew];rw [Array.getElem?_append_left (by have:=(List.getElem?_eq_some_iff.1 hj).1;simpa using this)]
        simpa using hj
  . cases hc
 case ld x m ag =>
  simp only [Yw,ldK] at h;have hop:∃ t y,o.op = .load t y/\Xb x y=true/\ZcO P t=some ag/\XT P t=some m:=by
   obtain ⟨dst,op,ty,pos,after,guard⟩:=o;cases op<;>simp [ZT] at hc
   exact ⟨_,_,rfl,hc.1.1,hc.1.2,hc.2⟩
  obtain ⟨t,y,e1,e2,e3,e4⟩:=hop;have fin {a:Act} {w:World} {b off:Nat} {v:Value} (he:evX a x = .pointer (some ⟨b,off,none⟩)) (hl:(loadVar t ⟨b,off,none⟩).run P w = .ok v w):(execOp a.eval o).run P w = .ok (.value v) w:=by
   simp only [execOp,e1,Zh e2 a,he,Instr.loadAt,Instr.sureAddr,Sem.run_bind,Sem.run_pure,Result.andThen_ok,hl]
  split at h
  . rename_i k o' hx;unfold ldC at h;split at h
    . rename_i l T hk;obtain ⟨s,h1,h2⟩:=Vy h;refine ⟨s,h2,λC E n a w hh hρ hg=>?_⟩;have hRx:=hρ (g,x) (by simp [opG,opX]) hg;simp only [hx,R] at hRx;have hb:=hh.bk k;rw [hk] at hb;simp only [Yr] at hb;obtain ⟨cs,k1,k2⟩:=hb;obtain ⟨v,q1,q2⟩:=V3 (P:=P) (b:=E.β k) (off:=0) (t:=t) (o:=o') k2 (λj c hj=>by rw [Nat.zero_add,cell_of_row _ _ _ _ _ _ k1];simpa using hj) e3 e4 h1;rw [Nat.zero_add] at q1
      exact ZY (fin hRx.2 q1) (Z9 q2)
    . cases h
  . rename_i row o' hx;obtain ⟨s,h1,h2⟩:=Vy h;refine ⟨s,h2,λC E n a w hh hρ hg=>?_⟩;have hRx:=hρ (g,x) (by simp [opG,opX]) hg;simp only [hx,R] at hRx;obtain ⟨b,off,r1,cs,r2,r3⟩:=hRx;obtain ⟨v,q1,q2⟩:=V3 (P:=P) (b:=b) (off:=off) (t:=t) (o:=o') r2 r3.2 e3 e4 h1;exact ZY (fin r1 q1) (Z9 q2)
  . rename_i k v m' j o' hx;unfold ldR at h;split at h
    . rename_i v' m'' xs T hk;cases hm:We (Nat.beq m' m'') (Nat.beq v v')
      . rw [hm] at h;exact h.elim
      . rw [hm] at h;simp only [ldB] at h;obtain ⟨hm,hv⟩:=Yt hm;have:=Nat.eq_of_beq_eq_true hm;subst this;have:=Nat.eq_of_beq_eq_true hv;subst this;obtain ⟨row,h1,h2⟩:=h;rw [Z1] at h1;obtain ⟨s,h3,h4⟩:=Vy h2;refine ⟨s,h4,λC E n a w hh hρ hg=>?_⟩;have hRx:=hρ (g,x) (by simp [opG,opX]) hg;simp only [hx,R] at hRx;obtain ⟨_,_,b,len,cap,r1,r2⟩:=hRx;have hb:=hh.bk k;rw [hk] at hb;simp only [Yr] at hb
        rcases hb with ⟨_,⟨hb,_⟩ | ⟨b',cap',cs,q1,q2,q3,⟨q4,_⟩,_,q6,q7⟩⟩
        . have hi:=h1 hg;rw [hb] at hi;simp at hi
        . rw [r1] at q1;simp at q1;obtain ⟨rfl,_,_⟩:=q1;have hi:=h1 hg;obtain ⟨cs',p1,p2⟩:=ZgV (m:=m') hi q6 q7
          obtain ⟨v,s1,s2⟩:=V3 (P:=P) (w:=w) (b:=b) (off:=j * m') (t:=t) (o:=o') p1 (λj' c hj=>by
           rw [cell_of_row _ _ _ _ _ _ q2];have:=p2 j' c hj
           simpa using this) e3 e4 h3
          exact ZY (fin r2 s1) (Z9 s2)
    . cases h
  . cases h
 case div b x y =>
  simp only [Yw,ZDZ] at h;split at h
  . rename_i k u j v hx hy
    . cases hk:Zd9 k j
      . rw [hk] at h;exact h.elim
      . rw [hk] at h;simp only [ZDb] at h;have:=ZfJ hk;subst this;obtain ⟨h1,h2⟩:=h;rw [Z1] at h1;refine ⟨_,h2,λC E n a w hh hρ hg=>?_⟩;have h0:=h1 hg;have hRx:=hρ (g,x) (by simp [opG,opX]) hg;have hRy:=hρ (g,y) (by simp [opG,opX]) hg;simp only [hx,hy,R] at hRx hRy;obtain ⟨dst,op,ty,pos,after,guard⟩:=o;cases op<;>simp [ZT] at hc
        rename_i b' T x' y' T';obtain ⟨⟨⟨rfl,hb⟩,c1⟩,c2⟩:=hc;refine ZY (y:=.int k (ZvE b k u v)) ?_ (Z9 (by simp [R]));rcases hb with rfl | rfl <;>
         simp [execOp,Zh c1 a,Zh c2 a,hRx,hRy,eqGuard,binOp,Op.intDiv,h0,ZvE]
  . cases h
 case idx x i len m ag =>
  simp only [Yw,ZEa] at h;split at h
  . rename_i k j l hi hx
    . skip
      obtain ⟨ix,h1,h2⟩:=h;rw [Z1] at h1;obtain ⟨s,h3,h4⟩:=Vy h2;refine ⟨s,h4,λC E n a w hh hρ hg=>?_⟩;obtain ⟨rfl,hn⟩:=h1 hg;have hRx:=hρ (g,x) (by simp [opG,opX]) hg;have hRi:=hρ (g,i) (by simp [opG,opX]) hg;simp only [hx,hi,R] at hRx hRi;obtain ⟨cs,r1,r2⟩:=hRx;obtain ⟨dst,op,ty,pos,after,guard⟩:=o;cases op<;>simp [ZT] at hc
      obtain ⟨⟨c1,c2⟩,c3⟩:=hc;split at c3
      . rename_i len' e hu;simp at c3;obtain ⟨⟨rfl,c4⟩,c5⟩:=c3;obtain ⟨c,p1,p2⟩:=Zej r2 h3;refine ZY (y:=if ag then .agg (cs.extract (ix * m) (ix * m+m)) else c) ?_ (Z9 p2);simp [execOp,Zh c1 a,Zh c2 a,r1,hRi,Instr.index,asIntOf,run_underlying hu,hn,Yb c4,Zba c5 c4 c p1]
      . cases c3
  . cases h
 case ixa x i len m =>
  simp only [Yw,ZEg] at h;split at h
  . rename_i k j hi;obtain ⟨ix,h1,h2⟩:=h;rw [Z1] at h1;obtain ⟨s,h3,h4⟩:=Vy h2;refine ⟨s,h4,λC E n a w hh hρ hg=>?_⟩;obtain ⟨rfl,hn⟩:=h1 hg;have hRx:=hρ (g,x) (by simp [opG,opX]) hg;have hRi:=hρ (g,i) (by simp [opG,opX]) hg;simp only [hi,R] at hRi;obtain ⟨dst,op,ty,pos,after,guard⟩:=o;cases op<;>simp [ZT] at hc
    rename_i tt xx jj;obtain ⟨⟨c1,c2⟩,c3⟩:=hc;have key:∃ y,(Instr.indexAt tt (evX a x) (.int k ix)).run P w = .ok y w/\R w E n (okS C E σ.hp) s y:=by
     cases hs:rdG g σ.fr x<;>rw [hs] at h3 hRx<;>simp [U2] at h3<;>subst h3<;>simp only [R] at hRx
     case p kk q=>obtain ⟨g1,g2⟩:=hRx;rw [g2];exact ⟨_,Wb c3 hn,by simp [R,g1]⟩
     case pr kk vv mm ii q=>obtain ⟨g1,g0,b,l,c,g2,g3⟩:=hRx;rw [g3];exact ⟨_,Wb c3 hn,by simp only [R];exact ⟨g1,g0,b,l,c,g2,by rw [Nat.add_assoc]⟩⟩
     case ps row q=>obtain ⟨b,off,g2,g3⟩:=hRx;rw [g2];exact ⟨_,Wb c3 hn,by simp only [R];exact ⟨b,off,by rw [Nat.add_assoc],g3⟩⟩
    obtain ⟨y,q1,q2⟩:=key;exact ZY (by simp only [execOp,Zh c1 a,Zh c2 a,hRi,Sem.run_bind,q1,Result.andThen_ok,Sem.run_pure]) (Z9 q2)
  . cases h
 case ixs x i m =>
  simp only [Yw,ZCw] at h;have hop:∃ t y z,o.op = .indexAddr t y z/\Xb x y=true/\Xb i z=true/\(match P.underlying t with | some (.slice e)=>XT P e == some m | _=>false)=true:=by
   obtain ⟨dst,op,ty,pos,after,guard⟩:=o;cases op<;>simp [ZT] at hc
   exact ⟨_,_,_,rfl,hc.1.1,hc.1.2,hc.2⟩
  obtain ⟨t,y,z,e1,c1,c2,c3⟩:=hop;split at h
  . rename_i k j m' xs hi hx
    . cases hm:Nat.beq m m'
      . rw [hm] at h;exact h.elim
      . rw [hm] at h;simp only [ZBG] at h;have:=Nat.eq_of_beq_eq_true hm;subst this;obtain ⟨row,h1,h2⟩:=h;rw [Z1] at h1;refine ⟨_,h2,λC E n a w hh hρ hg=>?_⟩;obtain ⟨ix,rfl,hn⟩:=h1 hg;have hRx:=hρ (g,x) (by simp [opG,opX]) hg;have hRi:=hρ (g,i) (by simp [opG,opX]) hg;simp only [hx,hi,R] at hRx hRi;obtain ⟨ad,len,cap,r1,r2,r3,r4,r5⟩:=hRx;have hlt:ix < xs.length:=(List.getElem?_eq_some_iff.1 hn).1
        rcases r5 with r5 | ⟨b,off,r5,r6⟩
        . subst r5;simp at hlt
        . obtain ⟨cs,q1,q2⟩:=Zu3 r6 hn;subst r5;subst r2;exact ZY (y:=.pointer (some ⟨b,off+ix * m,none⟩)) (by simp only [execOp,e1,Zh c1 a,Zh c2 a,r1,hRi,Sem.run_bind,Ub c3 hlt,Result.andThen_ok,Sem.run_pure]) (Z9 (by simp only [R];exact ⟨b,off+ix * m,by simp,cs,q1,q2⟩))
  . rename_i k j kk vv hi hx
    . unfold ZDT at h;split at h
      . rename_i v' m' xs T hk;cases hm:We (Nat.beq m m') (Nat.beq vv v')
        . rw [hm] at h;exact h.elim
        . rw [hm] at h;simp only [ZDw] at h;obtain ⟨hm,hv⟩:=Yt hm;have:=Nat.eq_of_beq_eq_true hm;subst this;have:=Nat.eq_of_beq_eq_true hv;subst this;obtain ⟨ix,h1,h2⟩:=h;rw [Z1] at h1;refine ⟨_,h2,λC E n a w hh hρ hg=>?_⟩;obtain ⟨rfl,hn⟩:=h1 hg;have hRx:=hρ (g,x) (by simp [opG,opX]) hg;have hRi:=hρ (g,i) (by simp [opG,opX]) hg;simp only [hx,hi,R] at hRx hRi;have hb:=hh.bk kk;rw [hk] at hb;simp only [Yr] at hb
          rcases hb with ⟨_,⟨hb,_⟩ | ⟨b',cap',cs,q1,q2,q3,q4,_⟩⟩
          . subst hb;simp at hn
          . have r1:evX a x = .slice (some ⟨b',0,none⟩) xs.length cap':=hRx.2.2.1.trans q1;exact ZY (y:=.pointer (some ⟨b',0+ix * m,none⟩)) (by simp only [execOp,e1,Zh c1 a,Zh c2 a,r1,hRi,Sem.run_bind,Ub c3 hn,Result.andThen_ok,Sem.run_pure]) (Z9 (by simp only [R];exact ⟨hRx.1,hRx.2.1,b',_,_,q1,by simp⟩))
      . cases h
  . cases h
 case len x =>
  simp only [Yw,ZAV] at h;split at h
  . rename_i k vv hx;unfold ZEi at h;split at h
    . rename_i v' m xs T hk;cases hv:Nat.beq vv v'
      . rw [hv] at h;exact h.elim
      rw [hv] at h;simp only [ZDl] at h;have:=Nat.eq_of_beq_eq_true hv;subst this;refine ⟨_,h,λC E n a w hh hρ hg=>?_⟩;have hRx:=hρ (g,x) (by simp [opG,opX]) hg;simp only [hx,R] at hRx;obtain ⟨as,ts,y,t,e,e1,e2,e3,e4,e5⟩:=ZkL hc;have he:as.map a.eval = #[evX a x]:=by apply Array.toList_inj.1;simp [e2,Zh e4 a]
      have hb:=hh.bk k;rw [hk] at hb;simp only [Yr] at hb;have hv:∃ ad cap,evX a x = .slice ad xs.length cap:=by
       rcases hb with ⟨_,⟨q1,a0,q2⟩ | ⟨b',cap',cs,q1,_⟩⟩
       . exact ⟨a0,0,by rw [hRx.2.2.1,q2,q1];rfl⟩
       . exact ⟨_,cap',by rw [hRx.2.2.1,q1]⟩
      obtain ⟨ad,cap,hv⟩:=hv;exact ZY (by simp [execOp,e1,resolve,he,invoke,builtin,Builtin.len_,e3,run_underlying e5,hv];rfl) (Z9 (by simp only [R];rfl))
    . cases h
  . rename_i kk vv mm ii ll hx;refine ⟨_,h,λC E n a w hh hρ hg=>?_⟩;have hRx:=hρ (g,x) (by simp [opG,opX]) hg;simp only [hx,R] at hRx;obtain ⟨as,ts,y,t,e,e1,e2,e3,e4,e5⟩:=ZkL hc;have he:as.map a.eval = #[evX a x]:=by apply Array.toList_inj.1;simp [e2,Zh e4 a]
    obtain ⟨_,_,ad,_,cap,_,_,hv⟩:=hRx;exact ZY (by simp [execOp,e1,resolve,he,invoke,builtin,Builtin.len_,e3,run_underlying e5,hv];rfl) (Z9 (by simp only [R];rfl))
  . rename_i m xs hx;exact dfl2 (.v (.int .i64 xs.length)) (by simp [pv,hx]) h
  . cases h
end
section
variable {fr:Lf} {gs:List Nat} {t:Nat} {s:SV}
theorem ZU {t:Nat}:∀ {l:List Nat},Xw t l=true↔t ∈ l
 | []=>by simp [Xw]
 | u :: r=>by
  simp only [Xw,List.mem_cons];cases h:Nat.beq t u
  . have:t≠u:=λe=>by subst e;rw [nbr] at h;cases h
    simp [ZU (l:=r),this]
  . simp [Nat.eq_of_beq_eq_true h]
theorem Zbz (hc:∀ t j b s,lk t fr = .gd j b s->j ∈ gs) (ht:t ∉ gs) {j:Nat} {b:Bool} (hj:j ∈ gs):GE ((t,s) :: fr) j b↔GE fr j b:=by
 have hne:∀ {j},j ∈ gs->lk j ((t,s) :: fr)=lk j fr:=λ{j} hj=>by
  rw [ZN,if_neg];rintro rfl;exact ht hj
 constructor
 . intro h
   induction h with
   | base h=>rw [hne hj] at h;exact .base h
   | step h h' ih=>rw [hne hj] at h;exact .step h (ih (hc _ _ _ _ h))
 . intro h
   induction h with
   | base h=>exact .base (by rw [hne hj];exact h)
   | step h h' ih=>exact .step (by rw [hne hj];exact h) (ih (hc _ _ _ _ h))
end
section
variable {C:Cx} {E E':Env} {σ : St} {a:Act} {w w':World} {hp':Lh} {n':Nat}
theorem ZbT (a:Act) (t u:Nat) (y:Value) (h:t < a.tmps.size):(a.put (some t) y).tmps.getD u undef=if u=t then y else a.tmps.getD u undef:=by
 simp only [Act.put];by_cases hu:u=t
 . subst hu;simp [h]
 . simp [hu,Ne.symm hu]
theorem XD {fr fr':Lf} {n n':Nat->Prop} {ok ok':Nat->Prop} {s:SV} {y:Value} (hs:ZM w w' ok ok') (hE:∀ k,n k->Ele E E' k k) (hn:∀ k,n k->n' k)
 (hg:∀ j b t,s = .gd j b t->(GE fr' j b↔GE fr j b)) (h:FR w E n ok fr s y):FR w' E' n' ok' fr' s y:=by
 cases s<;>try exact ZV hs.c hE hn _ _ h
 rename_i j b t;have hg':=hg j b t rfl;exact ⟨λhh=>ZV hs hE hn _ _ (h.1 (hg'.1 hh)),λhh=>h.2 (λx=>hh (hg'.2 x))⟩
theorem Xs {t:Nat} {s:SV} {y:Value} (h:Sim C E σ a w) (hs:ZM w w' (okS C E σ.hp) (okS C E' hp')) (hE:∀ k,k < σ.n->Ele E E' k k) (hn:σ.n<=n')
 (hh:HSim C E' hp' (ltn n') w') (ht:t ∉ σ.gs) (hN:t < σ.N) (hne:∀ j b u,s≠.gd j b u) (hR:R w' E' (ltn n') (okS C E' hp') s y):Sim C E' ⟨(t,s) :: σ.fr,hp',n',σ.N,σ.gs⟩ (a.put (some t) y) w':=by
 have hsz:t < a.tmps.size:=by rw [h.sz];exact hN
 refine ⟨λu=>?_,by simp [Act.put,h.sz],X5 hs (by simpa [Act.put] using h.df),λu j b v hu=>?_,hh⟩
 . rw [ZbT a t u y hsz,ZN];by_cases hu:u=t
   . rw [if_pos hu,if_pos hu];cases s<;>first | exact hR | exact absurd rfl (hne _ _ _)
   . rw [if_neg hu,if_neg hu];refine XD hs hE (λk hk=>Nat.lt_of_lt_of_le hk hn) (λj b v hv=>?_) (h.fr u);exact Zbz h.gs ht (h.gs u j b v hv)
 . simp only [ZN] at hu;split at hu
   . exact absurd hu (hne _ _ _)
   . exact h.gs u j b v hu
theorem Zhr {t j:Nat} {b:Bool} {s:SV} {y:Value} (h:Sim C E σ a w) (hb:Below w.heap.size w w') (ht:t ∉ σ.gs) (htj:t≠j) (hN:t < σ.N)
 (hR:ge σ.fr j b->R w' E (ltn σ.n) (okS C E σ.hp) s y) (hU:¬ ge σ.fr j b->y=undef) :
 Sim C E ⟨(t,.gd j b s) :: σ.fr,σ.hp,σ.n,σ.N,j :: σ.gs⟩ (a.put (some t) y) w':=by
 have hsz:t < a.tmps.size:=by rw [h.sz];exact hN
 have hc:∀ u j' b' s',lk u σ.fr = .gd j' b' s'->j' ∈ j :: σ.gs:=λu j' b' s' hu=>by simp [h.gs u j' b' s' hu]
 have htg:t ∉ j :: σ.gs:=by simp [htj,ht]
 have hst:ZM w w' (okS C E σ.hp) (okS C E σ.hp):=Yd hb;refine ⟨λu=>?_,by simp [Act.put,h.sz],X5 hst (by simpa [Act.put] using h.df),λu j' b' v hu=>?_,Xz h.hs hb⟩
 . rw [ZbT a t u y hsz,ZN];by_cases hu:u=t
   . rw [if_pos hu,if_pos hu];have:=Zbz (s:=.gd j b s) (b:=b) hc htg (j:=j) (by simp);exact ⟨λhh=>hR (this.1 hh),λhh=>hU (λx=>hh (this.2 x))⟩
   . rw [if_neg hu,if_neg hu];refine XD hst (λ_ _=>Ele.rfl) (λ_ h=>h) (λj' b' v hv=>?_) (h.fr u);exact Zbz hc htg (hc u j' b' v hv)
 . simp only [ZN] at hu;split at hu
   . cases hu;simp
   . simp [h.gs u j' b' v hu]
theorem YJ (h:Sim C E σ a w) (hs:ZM w w' (okS C E σ.hp) (okS C E' hp')) (hE:∀ k,k < σ.n->Ele E E' k k) (hn:σ.n<=n') (hh:HSim C E' hp' (ltn n') w'):Sim C E' ⟨σ.fr,hp',n',σ.N,σ.gs⟩ a w' :=
 ⟨λu=>XD hs hE (λk hk=>Nat.lt_of_lt_of_le hk hn) (λ_ _ _ _=>Iff.rfl) (h.fr u),h.sz,X5 hs h.df,h.gs,hh⟩
theorem Zbb {hp:Lh} {k:Nat} {hb:HB} (h:∀ b,occ E k hb b↔occ E k (lkh k hp) b) (j b:Nat):occ E j (lkh j ((k,hb) :: hp)) b↔occ E j (lkh j hp) b:=by
 rw [Zu];by_cases hj:j=k
 . subst hj;rw [if_pos rfl];exact h b
 . rw [if_neg hj]
theorem ZqL {hp:Lh} {k:Nat} {hb:HB} (h:∀ b,occ E k hb b↔occ E k (lkh k hp) b) (b:Nat):okS C E ((k,hb) :: hp) b↔okS C E hp b:=by
 unfold okS;have:=Zbb h;constructor
 . rintro ⟨h1,h2⟩;exact ⟨h1,λj hj=>h2 j ((this j b).2 hj)⟩
 . rintro ⟨h1,h2⟩;exact ⟨h1,λj hj=>h2 j ((this j b).1 hj)⟩
theorem Wc {hp:Lh} {n:Nat->Prop} {k B:Nat} {hb:HB} (h:HSim C E hp n w) (hocc:∀ b,occ E k hb b↔occ E k (lkh k hp) b) (hB:occ E k (lkh k hp) B) (hw:Wr0 w w' B)
 (hk:ZM w w' (okS C E hp) (okS C E ((k,hb) :: hp))->Yr w' E n (okS C E ((k,hb) :: hp)) k hb) :
 HSim C E ((k,hb) :: hp) n w'/\ZM w w' (okS C E hp) (okS C E ((k,hb) :: hp)):=by
 have hkn:n k:=by
  rcases Classical.em (n k) with h' | h'
  . exact h'
  . rw [h.kn k h'] at hB;exact hB.elim
 have hst:ZM w w' (okS C E hp) (okS C E ((k,hb) :: hp)):=λb hb' _=>⟨(ZqL hocc b).2 hb',hw.same b (λe=>by subst e;exact hb'.2 k hB)⟩;refine ⟨⟨λj hj=>?_,λj=>?_,λj j' b h1 h2=>?_,λj b h1=>?_,⟨hw.os.trans h.kp.os,hw.tape.trans h.kp.tape,hw.output.trans h.kp.output,by rw [hw.size];exact h.kp.size,λb h1 h2=>?_⟩,h.pin⟩,hst⟩
 . rw [Zu,if_neg (by rintro rfl;exact hj hkn)];exact h.kn j hj
 . rw [Zu];by_cases hj:j=k
   . subst hj;rw [if_pos rfl];exact hk hst
   . rw [if_neg hj];refine YU hst (λ_ _=>Ele.rfl) (λ_ h=>h) ?_ (λb ho=>hw.same b (λe=>?_)) rfl (h.bk j)
     . rcases Classical.em (n j) with h' | h'
       . exact .inr h'
       . exact .inl (h.kn j h')
     . subst e;exact hj (h.dj j k b ho hB)
 . exact h.dj j j' b ((Zbb hocc j b).1 h1) ((Zbb hocc j' b).1 h2)
 . exact h.lo j b ((Zbb hocc j b).1 h1)
 . rw [hw.same b ?_]
   . exact h.kp.block b h1 h2
   . rintro rfl;rcases h.lo k b hB with h' | h'
     . omega
     . exact h2 _ h'
theorem XZ {hp:Lh} {n:Nat->Prop} {k B:Nat} {hb:HB} {cs:LZ} {T:TypeId} (h:HSim C E hp n w) (hocc:∀ b,occ E k hb b↔occ E k (lkh k hp) b) (hB:occ E k (lkh k hp) B) (hw:Wrote w w' B cs T)
 (hk:ZM w w' (okS C E hp) (okS C E ((k,hb) :: hp))->Yr w' E n (okS C E ((k,hb) :: hp)) k hb) :
 HSim C E ((k,hb) :: hp) n w'/\ZM w w' (okS C E hp) (okS C E ((k,hb) :: hp)) :=
 Wc h hocc hB ⟨hw.os,hw.tape,hw.output,hw.size,hw.same⟩ hk
theorem Zgu {hp:Lh} {n:Nat->Prop} {q:Nat} {l:Ls} {cs:Array Value} {T:TypeId} (h:HSim C E hp n w) (hq:¬ n q) (hR:RL w E n (okS C E hp) l cs.toList) :
 ∃ E',(∀ k,n k->Ele E E' k k)/\E'.β q=w.heap.size/\HSim C E' ((q,.cells l T) :: hp) (λk=>n k\/k=q) (w.alloc (.cells cs T)) /\
  ZM w (w.alloc (.cells cs T)) (okS C E hp) (okS C E' ((q,.cells l T) :: hp)):=by
 let E':Env:=⟨λk=>if k=q then w.heap.size else E.β k,E.hv,E.iss⟩
 have hE:∀ k,n k->Ele E E' k k:=λk hk=>⟨by simp [E',show k≠q from by rintro rfl;exact hq hk],Nat.le_refl _,λ_ _=>rfl⟩;have hEn:E'.β q=w.heap.size:=by simp [E']
 have hbel:Below w.heap.size w (w.alloc (.cells cs T)):=(Below.refl _ _).alloc (Nat.le_refl _) _;have hoc:∀ j b,j≠q->(occ E' j (lkh j ((q,.cells l T) :: hp)) b↔occ E j (lkh j hp) b):=λj b hj=>by
  rw [Zu,if_neg hj];cases hl:lkh j hp<;>simp only [occ,E',if_neg hj]
 have hocn:∀ b,occ E' q (lkh q ((q,.cells l T) :: hp)) b↔b=w.heap.size:=λb=>by
  rw [Zu,if_pos rfl];simp only [occ,hEn]
 have hlt:∀ b,b < w.heap.size->(okS C E' ((q,.cells l T) :: hp) b↔okS C E hp b):=λb hb=>by
  unfold okS;constructor
  . rintro ⟨h1,h2⟩;refine ⟨h1,λj hj=>?_⟩;by_cases hjn:j=q
    . subst hjn;rw [h.kn j hq] at hj;exact hj
    . exact h2 j ((hoc j b hjn).2 hj)
  . rintro ⟨h1,h2⟩;refine ⟨h1,λj hj=>?_⟩;by_cases hjn:j=q
    . subst hjn;rw [hocn] at hj;omega
    . exact h2 j ((hoc j b hjn).1 hj)
 have hst:ZM w (w.alloc (.cells cs T)) (okS C E hp) (okS C E' ((q,.cells l T) :: hp)):=λb hb hs=>by
  have hlt':b < w.heap.size:=by
   obtain ⟨o,ho⟩:=Option.isSome_iff_exists.1 hs;exact (Array.getElem?_eq_some_iff.1 ho).1
  exact ⟨(hlt b hlt').2 hb,hbel.block b hlt'⟩
 refine ⟨E',hE,hEn,⟨λj hj=>?_,λj=>?_,λj j' b h1 h2=>?_,λj b h1=>?_,W6 h.kp hbel,λk hk=>(by obtain ⟨p1,p2⟩:=h.pin k hk;exact ⟨.inl p1,p2.trans (hE k p1)⟩)⟩,hst⟩
 . rw [Zu,if_neg (λe=>hj (.inr e))];exact h.kn j (λe=>hj (.inl e))
 . rw [Zu];by_cases hj:j=q
   . subst hj;rw [if_pos rfl];simp only [Yr,hEn];exact ⟨cs,heap_alloc_new _ _,ZL hst hE (λ_ h=>.inl h) _ _ hR⟩
   . rw [if_neg hj];refine YU hst hE (λ_ h=>.inl h) ?_ (λb ho=>hbel.block b (YO h ho)) (by simp [E',hj]) (h.bk j);rcases Classical.em (n j) with h' | h'
     . exact .inr h'
     . exact .inl (h.kn j h')
 . by_cases hj:j=q<;>by_cases hj':j'=q
   . omega
   . subst hj;rw [hocn] at h1;rw [hoc j' b hj'] at h2;have:=YO h h2;omega
   . subst hj';rw [hocn] at h2;rw [hoc j b hj] at h1;have:=YO h h1;omega
   . exact h.dj j j' b ((hoc j b hj).1 h1) ((hoc j' b hj').1 h2)
 . by_cases hj:j=q
   . subst hj;rw [hocn] at h1;exact .inl (by rw [h1];exact h.kp.size)
   . exact h.lo j b ((hoc j b hj).1 h1)
end
section
variable {C:Cx} {E:Env} {w w':World}
theorem Zhg {hp:Lh} {n:Nat->Prop} {k v m:Nat} {xs xs':Rr} {T:TypeId} {y:Value} (h:HSim C E hp n w) (hk:lkh k hp = .row v m xs T)
 (ho:w'.os=w.os) (ht:w'.tape=w.tape) (hu:w'.output=w.output) (hsz:w.heap.size<=w'.heap.size) (hsame:∀ b,b < w.heap.size->¬ occ E k (lkh k hp) b->w'.heap[b]? = w.heap[b]?)
 (hv:(xs'=[]/\∃ a,y = .slice a 0 0)\/∃ b cap cs,y = .slice (some ⟨b,0,none⟩) xs'.length cap/\(occ E k (lkh k hp) b\/w.heap.size<=b)/\w'.heap[b]? = some (.cells cs T (0,0))/\cs.size=cap * m/\(xs'.length<=cap/\cap≠0)/\xs'.length<=9223372036854775807 /\
  (∀ r ∈ xs',r.length=m)/\RL w E n (okS C E hp) xs'.flatten (cs.toList.take (xs'.length * m))) :
 ∃ E',(∀ k,n k->Ele E E' k k)/\E'.hv k (v+1)=y/\E'.iss k=v+2/\n k/\HSim C E' ((k,.row (v+1) m xs' T) :: hp) n w'/\ZM w w' (okS C E hp) (okS C E' ((k,.row (v+1) m xs' T) :: hp)):=by
 have hkn:n k:=by
  rcases Classical.em (n k) with h' | h'
  . exact h'
  . rw [h.kn k h'] at hk;cases hk
 have hb0:=h.bk k;rw [hk] at hb0;have his:E.iss k=v+1:=by simp only [Yr] at hb0;exact hb0.1
 let E':Env:=⟨E.β,λj u=>if j=k/\u=v+1 then y else E.hv j u,λj=>if j=k then v+2 else E.iss j⟩
 have hE:∀ j,n j->Ele E E' j j:=λj _=>⟨rfl,by
  by_cases hj:j=k
  . subst hj;simp [E',his]
  . simp [E',hj],λu hu'=>by
  by_cases hj:j=k
  . subst hj;rw [his] at hu';simp [E',show u≠v+1 from by omega]
  . simp [E',hj]⟩
 have hEn:E'.hv k (v+1)=y:=by simp [E']
 have hEi:E'.iss k=v+2:=by simp [E']
 have hoc:∀ j b,j≠k->(occ E' j (lkh j ((k,.row (v+1) m xs' T) :: hp)) b↔occ E j (lkh j hp) b):=λj b hj=>by
  rw [Zu,if_neg hj];have hvv:∀ u,E'.hv j u=E.hv j u:=λu=>by simp [E',hj]
  have hbb:E'.β j=E.β j:=rfl;cases hl:lkh j hp<;>simp only [occ,hvv,hbb]
 have hocn:∀ b,occ E' k (lkh k ((k,.row (v+1) m xs' T) :: hp)) b->occ E k (lkh k hp) b\/w.heap.size<=b:=λb=>by
  rw [Zu,if_pos rfl];simp only [occ,hEn];rintro ⟨len,cap,e1,e2⟩;rcases hv with ⟨_,a,rfl⟩ | ⟨b',cap',cs,rfl,q,_⟩
  . simp only [Value.slice.injEq] at e1;exact absurd e1.2.2.symm e2
  . simp at e1;rw [<- e1.1];exact q
 have hst:ZM w w' (okS C E hp) (okS C E' ((k,.row (v+1) m xs' T) :: hp)):=λb hb hs=>by
  have hlt':b < w.heap.size:=by
   obtain ⟨o,ho⟩:=Option.isSome_iff_exists.1 hs;exact (Array.getElem?_eq_some_iff.1 ho).1
  refine ⟨⟨hb.1,λj hj=>?_⟩,hsame b hlt' (hb.2 k)⟩;by_cases hjk:j=k
  . subst hjk;rcases hocn b hj with q | q
    . exact hb.2 _ q
    . omega
  . exact hb.2 j ((hoc j b hjk).1 hj)
 refine ⟨E',hE,hEn,hEi,hkn,⟨λj hj=>?_,λj=>?_,λj j' b h1 h2=>?_,λj b h1=>?_,⟨ho.trans h.kp.os,ht.trans h.kp.tape,hu.trans h.kp.output,Nat.le_trans h.kp.size hsz,λb h1 h2=>?_⟩,λj hj=>(by obtain ⟨p1,p2⟩:=h.pin j hj;exact ⟨p1,p2.trans (hE j p1)⟩)⟩,hst⟩
 . rw [Zu,if_neg (λe=>hj (by rw [e];exact hkn))];exact h.kn j hj
 . rw [Zu];by_cases hj:j=k
   . subst hj;rw [if_pos rfl];simp only [Yr,hEn,hEi];refine ⟨by trivial,?_⟩;rcases hv with ⟨e1,e2⟩ | ⟨b,cap,cs,e1,_,e2,e3,e4,e5,e6,e7⟩
     . exact .inl ⟨e1,e2⟩
     . exact .inr ⟨b,cap,cs,e1,e2,e3,e4,e5,e6,ZL hst hE (λ_ h=>h) _ _ e7⟩
   . rw [if_neg hj];refine YU hst hE (λ_ h=>h) ?_ (λb hob=>hsame b (YO h hob) (λq=>hj (h.dj j k b hob q))) (by simp [E',hj]) (h.bk j);rcases Classical.em (n j) with h' | h'
     . exact .inr h'
     . exact .inl (h.kn j h')
 . by_cases hj:j=k<;>by_cases hj':j'=k
   . omega
   . subst hj;rw [hoc j' b hj'] at h2;rcases hocn b h1 with q | q
     . exact h.dj _ _ b q h2
     . have:=YO h h2;omega
   . subst hj';rw [hoc j b hj] at h1;rcases hocn b h2 with q | q
     . exact h.dj _ _ b h1 q
     . have:=YO h h1;omega
   . exact h.dj j j' b ((hoc j b hj).1 h1) ((hoc j' b hj').1 h2)
 . by_cases hj:j=k
   . subst hj;rcases hocn b h1 with q | q
     . exact h.lo _ b q
     . exact .inl (Nat.le_trans h.kp.size q)
   . exact h.lo j b ((hoc j b hj).1 h1)
 . rw [hsame b (Nat.lt_of_lt_of_le h1 h.kp.size) (λq=>by rcases h.lo k b q with g | g;omega;exact h2 _ g)];exact h.kp.block b h1 h2
theorem XA {hp:Lh} {n:Nat->Prop} {q m:Nat} {xs:Rr} {T:TypeId} {v:Value} (h:HSim C E hp n w) (hq:¬ n q) (hbel:Below w.heap.size w w')
 (hv:(xs=[]/\∃ a,v = .slice a 0 0)\/∃ cap cs,v = .slice (some ⟨w.heap.size,0,none⟩) xs.length cap/\w'.heap[w.heap.size]? = some (.cells cs T (0,0))/\cs.size=cap * m/\(xs.length<=cap/\cap≠0)/\xs.length<=9223372036854775807 /\
  (∀ r ∈ xs,r.length=m)/\RL w E n (okS C E hp) xs.flatten (cs.toList.take (xs.length * m))) :
 ∃ E',(∀ k,n k->Ele E E' k k)/\E'.hv q 0=v/\E'.iss q=1/\HSim C E' ((q,.row 0 m xs T) :: hp) (λk=>n k\/k=q) w'/\ZM w w' (okS C E hp) (okS C E' ((q,.row 0 m xs T) :: hp)):=by
 let E':Env:=⟨E.β,λk u=>if k=q then v else E.hv k u,λk=>if k=q then 1 else E.iss k⟩
 have hE:∀ k,n k->Ele E E' k k:=λk hk=>⟨rfl,by simp [E',show k≠q from by rintro rfl;exact hq hk],λ_ _=>by simp [E',show k≠q from by rintro rfl;exact hq hk]⟩;have hEi:E'.iss q=1:=by simp [E']
 have hEn:E'.hv q 0=v:=by simp [E']
 have hoc:∀ j b,j≠q->(occ E' j (lkh j ((q,.row 0 m xs T) :: hp)) b↔occ E j (lkh j hp) b):=λj b hj=>by
  rw [Zu,if_neg hj];cases hl:lkh j hp<;>simp only [occ,E',if_neg hj]
 have hocn:∀ b,occ E' q (lkh q ((q,.row 0 m xs T) :: hp)) b->b=w.heap.size:=λb=>by
  rw [Zu,if_pos rfl];simp only [occ,hEn];rintro ⟨len,cap,e1,e2⟩;rcases hv with ⟨_,a,rfl⟩ | ⟨cap',cs,rfl,_⟩
  . simp only [Value.slice.injEq] at e1;exact absurd e1.2.2.symm e2
  . simp at e1;exact e1.1.symm
 have hlt:∀ b,b < w.heap.size->(okS C E' ((q,.row 0 m xs T) :: hp) b↔okS C E hp b):=λb hb=>by
  unfold okS;constructor
  . rintro ⟨h1,h2⟩;refine ⟨h1,λj hj=>?_⟩;by_cases hjn:j=q
    . subst hjn;rw [h.kn j hq] at hj;exact hj
    . exact h2 j ((hoc j b hjn).2 hj)
  . rintro ⟨h1,h2⟩;refine ⟨h1,λj hj=>?_⟩;by_cases hjn:j=q
    . subst hjn;have:=hocn b hj;omega
    . exact h2 j ((hoc j b hjn).1 hj)
 have hst:ZM w w' (okS C E hp) (okS C E' ((q,.row 0 m xs T) :: hp)):=λb hb hs=>by
  have hlt':b < w.heap.size:=by
   obtain ⟨o,ho⟩:=Option.isSome_iff_exists.1 hs;exact (Array.getElem?_eq_some_iff.1 ho).1
  exact ⟨(hlt b hlt').2 hb,hbel.block b hlt'⟩
 refine ⟨E',hE,hEn,hEi,⟨λj hj=>?_,λj=>?_,λj j' b h1 h2=>?_,λj b h1=>?_,W6 h.kp hbel,λk hk=>(by obtain ⟨p1,p2⟩:=h.pin k hk;exact ⟨.inl p1,p2.trans (hE k p1)⟩)⟩,hst⟩
 . rw [Zu,if_neg (λe=>hj (.inr e))];exact h.kn j (λe=>hj (.inl e))
 . rw [Zu];by_cases hj:j=q
   . subst hj;rw [if_pos rfl];simp only [Yr,hEn,hEi];refine ⟨trivial,?_⟩;rcases hv with ⟨e1,e2⟩ | ⟨cap,cs,e1,e2,e3,e4,e5,e6,e7⟩
     . exact .inl ⟨e1,e2⟩
     . exact .inr ⟨_,cap,cs,e1,e2,e3,e4,e5,e6,ZL hst hE (λ_ h=>.inl h) _ _ e7⟩
   . rw [if_neg hj];refine YU hst hE (λ_ h=>.inl h) ?_ (λb ho=>hbel.block b (YO h ho)) (by simp [E',hj]) (h.bk j);rcases Classical.em (n j) with h' | h'
     . exact .inr h'
     . exact .inl (h.kn j h')
 . by_cases hj:j=q<;>by_cases hj':j'=q
   . omega
   . subst hj;have:=hocn b h1;rw [hoc j' b hj'] at h2;have:=YO h h2;omega
   . subst hj';have:=hocn b h2;rw [hoc j b hj] at h1;have:=YO h h1;omega
   . exact h.dj j j' b ((hoc j b hj).1 h1) ((hoc j' b hj').1 h2)
 . by_cases hj:j=q
   . subst hj;have:=hocn b h1;exact .inl (by rw [this];exact h.kp.size)
   . exact h.lo j b ((hoc j b hj).1 h1)
end
theorem ZnM {α : Type} (z:List α):∀ (k i:Nat),i < k * z.length->(List.replicate k z).flatten[i]? = z[i % z.length]?
 | 0,i,h=>by simp at h
 | k+1,i,h=>by
  rw [List.replicate_succ,List.flatten_cons];by_cases hi:i < z.length
  . rw [List.getElem?_append_left hi,Nat.mod_eq_of_lt hi]
  . rw [List.getElem?_append_right (by omega),ZnM z k (i - z.length) (by rw [Nat.add_mul,Nat.one_mul] at h;omega),<- Nat.mod_eq_sub_mod (by omega)]
theorem Zpr (z:Array Value) (k:Nat):(madeCells z (k * z.size)).toList=(List.replicate k z.toList).flatten:=by
 apply List.ext_getElem?;intro i;by_cases hi:i < k * z.size
 . rw [ZnM z.toList k i (by simpa using hi)];have hz:0 < z.size:=by
    rcases Nat.eq_zero_or_pos z.size with h | h
    . rw [h] at hi;simp at hi
    . exact h
   have hm:=Nat.mod_lt i hz;unfold madeCells;rw [Array.toList_map,List.getElem?_map,Array.toList_range,List.getElem?_range hi];simp only [Option.map_some,Array.length_toList];rw [getElem!_pos z (i % z.size) hm,List.getElem?_eq_getElem (by simpa using hm)];rfl
 . rw [List.getElem?_eq_none (by simp [madeCells];omega),List.getElem?_eq_none (by simp;omega)]
section
variable {P:Program} {w:World}
theorem ZlL {t e m by' k:Nat} {kd kd':IntKind} {z:Value} (ht:P.underlying t=some (.slice e)) (hm:XT P e=some m) (hb:W8 P e=some by') (hz:YN P e=some z) (hzm:z.cells.size=m) (hlim:k * by'<=140737488355328) (hb0:0 < by') (hm0:0 < m) :
 (Instr.makeSlice t (.int kd k) (.int kd' k)).run P w = .ok (.slice (some ⟨w.heap.size,0,none⟩) k k) (w.alloc (.cells (List.replicate k z.cells.toList).flatten.toArray e)):=by
 obtain ⟨i,hi⟩:∃ i,P.info? e=some i:=by
  unfold XT at hm;cases hq:P.info? e with
  | none=>simp [hq] at hm
  | some i=>exact ⟨i,rfl⟩
 have hsz:i.size=m:=by simpa [XT,hi] using hm
 have hby:i.bytes=by':=by simpa [W8,hi] using hb
 have hzi:i.zero=some z:=by simpa [YN,hi] using hz
 have hk:k<=140737488355328:=Nat.le_trans (Nat.le_mul_of_pos_right _ hb0) hlim;have hl1:(i.bytes:Int) * (k:Int)<=281474976710656:=by
  have h:((i.bytes * k:Nat):Int)<=281474976710656:=by rw [hby,Nat.mul_comm];omega
  rwa [Int.natCast_mul] at h
 have hr:=run_make (P:=P) w t e i z ht hi hzi kd kd' (k:Int) (k:Int) (by omega) (Int.le_refl _) hl1 (by omega);simp only [Int.toNat_natCast] at hr;rw [hr];congr 3;apply Array.toList_inj.1;rw [hsz,<- hzm,Zpr]
end
def ZAN:SV->Option Ls
 | .agg l=>some l
 | _=>none
def ZAM:SV->Option Ls
 | .tup l=>some l
 | _=>none
def clL (f:FuncId):SV->Option Ls
 | .cl f2 l=>bif Nat.beq f2 f then some l else none
 | _=>none
def mtI (p:SV->Prop) (T:TypeId):SV->Prop
 | .ifc T2 s=>T2=T/\p s
 | _=>False
def mtO (p:Ls->Prop):Option Ls->Prop
 | some l=>p l
 | none=>False
def mtB (p:SV->Prop) (q:Ls->Prop):Ls->Prop
 | []=>False
 | s2 :: l2=>p s2/\q l2
mutual
def mtS (ρ : Nat->Nat) (n':Nat):SV->SV->Prop
 | .any,_=>True
 | .p k o,s=>k < n'/\s = .p (ρ k) o
 | .mr k v,s=>k < n'/\s = .mr (ρ k) v
 | .pr k v m i o,s=>k < n'/\s = .pr (ρ k) v m i o
 | .ms k v m i o,s=>k < n'/\s = .ms (ρ k) v m i o
 | .agg l,s=>mtO (mtL ρ n' l) (ZAN s)
 | .tup l,s=>mtO (mtL ρ n' l) (ZAM s)
 | .cl f l,s=>mtO (mtL ρ n' l) (clL f s)
 | .v x,s=>s = .v x
 | .sl c m xs,s=>s = .sl c m xs/\KFR xs
 | .ps l o,s=>s = .ps l o/\KFL l
 | .mp k,s=>k < n'/\s = .mp (ρ k)
 | .yl k,s=>k < n'/\s = .yl (ρ k)
 | .ifc T t,s=>mtI (mtS ρ n' t) T s
 | .q φ,s=>s = .q φ
 | .gd _ _ _,_=>False
def mtL (ρ : Nat->Nat) (n':Nat):Ls->Ls->Prop
 | [],l=>l=[]
 | s :: l,l2=>mtB (mtS ρ n' s) (mtL ρ n' l) l2
end
def mtH (ρ : Nat->Nat) (n':Nat):HB->HB->Prop
 | .gone,_=>True
 | .cells l T,.cells l2 T2=>T2=T/\mtL ρ n' l l2
 | .row v m xs T,h=>h = .row v m xs T/\KFR xs
 | .ob φ,h=>h = .ob φ
 | .map es c,h=>h = .map es c/\∀ e ∈ es,KF e.2.2
 | .it km a b c,h=>km < n'/\h = .it (ρ km) a b c
 | .lp r pd,h=>h = .lp r pd
 | .lb r,h=>h = .lb r
 | .own φ,h=>h = .own φ
 | .cells _ _,.row _ _ _ _=>False
 | .cells _ _,.ob _=>False
 | .cells _ _,.map _ _=>False
 | .cells _ _,.it _ _ _ _=>False
 | .cells _ _,.lp _ _=>False
 | .cells _ _,.lb _=>False
 | .cells _ _,.own _=>False
 | .cells _ _,.gone=>False
def mtM (b:Bool) (p:Prop):Prop :=
 match b with
 | true=>True
 | false=>p
def mtF (ρ : Nat->Nat) (n':Nat):List Nat->Lf->Lf->Prop
 | _,[],_=>True
 | seen,(t,s) :: r,fr=>mtM (Xw t seen) (mtS ρ n' s (lk t fr))/\mtF ρ n' (t :: seen) r fr
def mtP (ρ : Nat->Nat) (hp' hp:Lh) (n':Nat):Nat->Prop
 | 0=>True
 | k+1=>mtH ρ n' (lkh k hp') (lkh (ρ k) hp)/\mtP ρ hp' hp n' k
def hpb (n':Nat):Lh->Prop
 | []=>True
 | (k,_) :: r=>k < n'/\hpb n' r
section
variable {w:World} {E:Env} {ok ok':Nat->Prop} {ρ : Nat->Nat} {n':Nat} {n:Nat->Prop}
def rnE (E:Env) (ρ : Nat->Nat):Env:=⟨λk=>E.β (ρ k),λk=>E.hv (ρ k),λk=>E.iss (ρ k)⟩
mutual
theorem ZkU (hs:ZM w w ok ok'):∀ (s' s:SV) (y:Value),mtS ρ n' s' s->R w E n ok s y->R w (rnE E ρ) (ltn n') ok' s' y
 | .any,_,y,_,_=>by simp only [R]
 | .p k o,s,y,h,hR=>by simp only [mtS] at h;obtain ⟨h1,rfl⟩:=h;simp only [R] at hR ⊢;exact ⟨h1,hR.2⟩
 | .mr k v,s,y,h,hR=>by simp only [mtS] at h;obtain ⟨h1,rfl⟩:=h;simp only [R] at hR ⊢;exact ⟨h1,hR.2⟩
 | .pr k v m i o,s,y,h,hR=>by simp only [mtS] at h;obtain ⟨h1,rfl⟩:=h;simp only [R] at hR ⊢;exact ⟨h1,hR.2⟩
 | .ms k v m i o,s,y,h,hR=>by simp only [mtS] at h;obtain ⟨h1,rfl⟩:=h;simp only [R] at hR ⊢;exact ⟨h1,hR.2⟩
 | .agg l,s,y,h,hR=>by
  simp only [mtS] at h;cases s<;>simp only [ZAN,mtO] at h
  simp only [R] at hR ⊢;obtain ⟨cs,h1,h2⟩:=hR;exact ⟨cs,h1,ZbZ hs l _ _ h h2⟩
 | .tup l,s,y,h,hR=>by
  simp only [mtS] at h;cases s<;>simp only [ZAM,mtO] at h
  simp only [R] at hR ⊢;obtain ⟨cs,h1,h2⟩:=hR;exact ⟨cs,h1,ZbZ hs l _ _ h h2⟩
 | .cl f l,s,y,h,hR=>by
  simp only [mtS] at h;cases s<;>simp only [clL,mtO] at h
  rename_i f2 l2;cases hf:Nat.beq f2 f<;>rw [hf] at h<;>simp only [cond_true,cond_false,mtO] at h
  have:=Nat.eq_of_beq_eq_true hf;subst this;simp only [R] at hR ⊢;obtain ⟨cs,h1,h2⟩:=hR;exact ⟨cs,h1,ZbZ hs l _ _ h h2⟩
 | .v x,s,y,h,hR=>by simp only [mtS] at h;subst h;simpa [R] using hR
 | .sl c m xs,s,y,h,hR=>by
  simp only [mtS] at h;obtain ⟨rfl,h⟩:=h;exact ZV hs (λ_ h=>Ele.rfl) (λ_ h=>h.elim) _ _ (Zje (E':=rnE E ρ) (n':=λ_=>False) (.sl c m xs) y h hR)
 | .ps l o,s,y,h,hR=>by
  simp only [mtS] at h;obtain ⟨rfl,h⟩:=h;exact ZV hs (λ_ h=>Ele.rfl) (λ_ h=>h.elim) _ _ (Zje (E':=rnE E ρ) (n':=λ_=>False) (.ps l o) y h hR)
 | .mp k,s,y,h,hR=>by simp only [mtS] at h;obtain ⟨h1,rfl⟩:=h;simp only [R] at hR ⊢;exact ⟨h1,hR.2⟩
 | .yl k,s,y,h,hR=>by simp only [mtS] at h;obtain ⟨h1,rfl⟩:=h;simp only [R] at hR ⊢;exact ⟨h1,hR.2⟩
 | .ifc T t,s,y,h,hR=>by
  simp only [mtS] at h;cases s<;>simp only [mtI] at h
  obtain ⟨rfl,h⟩:=h;simp only [R] at hR ⊢;obtain ⟨x,h1,h2⟩:=hR;exact ⟨x,h1,ZkU hs t _ x h h2⟩
 | .q φ,s,y,h,hR=>by
  simp only [mtS] at h;subst h;exact ZV hs (λ_ h=>Ele.rfl) (λ_ h=>h.elim) _ _ (Zje (E':=rnE E ρ) (n':=λ_=>False) (.q φ) y trivial hR)
 | .gd _ _ _,_,y,h,_=>by simp only [mtS] at h
theorem ZbZ (hs:ZM w w ok ok'):∀ (l' l:Ls) (ys:LZ),mtL ρ n' l' l->RL w E n ok l ys->RL w (rnE E ρ) (ltn n') ok' l' ys
 | [],l,ys,h,hR=>by simp only [mtL] at h;subst h;simpa [RL] using hR
 | s :: l',l,ys,h,hR=>by
  simp only [mtL] at h;cases l<;>simp only [mtB] at h
  simp only [RL] at hR ⊢;obtain ⟨y,r,h1,h2,h3⟩:=hR;exact ⟨y,r,h1,ZkU hs s _ y h.1 h2,ZbZ hs l' _ r h.2 h3⟩
end
theorem Zl5:∀ {a b:Ls},KFL a->KFL b->KFL (a ++ b)
 | [],_,_,h=>h
 | _ :: _,_,h1,h2=>⟨h1.1,Zl5 h1.2 h2⟩
theorem Zbc:∀ {xs:Rr},KFR xs->KFL xs.flatten
 | [],_=>trivial
 | _ :: _,h=>by rw [List.flatten_cons];exact Zl5 h.1 (Zbc h.2)
theorem ZdP {s' s:SV} (h:mtS ρ n' s' s):∀ j b u,s'≠.gd j b u:=by rintro j b u rfl;simp only [mtS] at h
theorem ZA4 {s':SV} {j:Nat} {b:Bool} {u:SV} (h:mtS ρ n' s' (.gd j b u)):s' = .any:=by
 cases s'<;>simp only [mtS,ZAN,ZAM,clL,mtO] at h<;>first | rfl | exact h.elim | (cases h;done) | (cases h.2;done) | (cases h.1;done)
theorem mtS_R {fr:Lf} {s' s:SV} {y:Value} (hs:ZM w w ok ok') (h:mtS ρ n' s' s) (hR:FR w E n ok fr s y):R w (rnE E ρ) (ltn n') ok' s' y:=by
 by_cases hg:∃ j b u,s = .gd j b u
 . obtain ⟨j,b,u,rfl⟩:=hg;rw [ZA4 h];simp only [R]
 . exact ZkU hs _ _ _ h (Zvx hR (λj b u e=>hg ⟨j,b,u,e⟩))
theorem Zle:∀ {seen:List Nat} {r fr:Lf},mtF ρ n' seen r fr->∀ t,Xw t seen=false->lk t r = .any\/mtS ρ n' (lk t r) (lk t fr)
 | _,[],_,_,t,_=>.inl rfl
 | seen,(u,s) :: r,fr,h,t,hs=>by
  rw [ZN];by_cases ht:t=u
  . subst ht;rw [if_pos rfl];have:=h.1;rw [hs] at this;exact .inr this
  . rw [if_neg ht];refine Zle h.2 t ?_;have:Nat.beq t u=false:=Bool.eq_false_iff.2 (λe=>ht (Nat.eq_of_beq_eq_true e));simp [Xw,this,hs]
theorem ZkG {hp' hp:Lh}:∀ {m:Nat},mtP ρ hp' hp n' m->∀ k,k < m->mtH ρ n' (lkh k hp') (lkh (ρ k) hp)
 | 0,_,k,h=>by omega
 | m+1,h,k,hk=>by
  by_cases e:k=m
  . subst e;exact h.1
  . exact ZkG h.2 k (by omega)
theorem ZdO:∀ {hp:Lh},hpb n' hp->∀ k,¬ k < n'->lkh k hp = .gone
 | [],_,k,_=>rfl
 | (j,_) :: r,h,k,hk=>by rw [Zu,if_neg (by rintro rfl;exact hk h.1)];exact ZdO h.2 k hk
theorem ZsL {w:World} {E E':Env} {n n' ok ok':Nat->Prop} (hs:ZM w w ok ok'):∀ (l:List (Nat × Value × SV)) (ys:List MapEntry),(∀ e ∈ l,KF e.2.2)->RM w E n ok l ys->RM w E' n' ok' l ys
 | [],ys,_,h=>by simpa [RM] using h
 | e :: l,ys,hk,h=>by
  simp only [RM] at h ⊢;obtain ⟨y,r,h1,h2,h3⟩:=h;exact ⟨y,r,h1,ZV hs (λ_ h=>Ele.rfl) (λ_ h=>h.elim) _ _ (Zje (E':=E') (n':=λ_=>False) _ y (hk e (by simp)) h2),ZsL hs l r (λe he=>hk e (by simp [he])) h3⟩
end
mutual
def rnS (ρ : Nat->Nat):SV->SV
 | .p k o=>.p (ρ k) o
 | .mr k v=>.mr (ρ k) v
 | .pr k v m i o=>.pr (ρ k) v m i o
 | .ms k v m i o=>.ms (ρ k) v m i o
 | .mp k=>.mp (ρ k)
 | .yl k=>.yl (ρ k)
 | .agg l=>.agg (rnL ρ l)
 | .tup l=>.tup (rnL ρ l)
 | .cl f l=>.cl f (rnL ρ l)
 | .ifc T s=>.ifc T (rnS ρ s)
 | .v x=>.v x
 | .sl c m xs=>.sl c m xs
 | .ps l o=>.ps l o
 | .q φ=>.q φ
 | .gd j w s=>.gd j w s
 | .any=>.any
def rnL (ρ : Nat->Nat):Ls->Ls
 | []=>[]
 | s :: l=>rnS ρ s :: rnL ρ l
end
mutual
def KX:SV->Prop
 | .sl _ _ xs=>KFR xs
 | .ps row _=>KFL row
 | .agg l=>KXL l
 | .tup l=>KXL l
 | .cl _ l=>KXL l
 | .ifc _ s=>KX s
 | .p _ _=>True
 | .mr _ _=>True
 | .pr _ _ _ _ _=>True
 | .ms _ _ _ _ _=>True
 | .mp _=>True
 | .yl _=>True
 | .v _=>True
 | .q _=>True
 | .gd _ _ _=>True
 | .any=>True
def KXL:Ls->Prop
 | []=>True
 | s :: l=>KX s/\KXL l
end
def rnH (ρ : Nat->Nat):HB->HB
 | .cells l T=>.cells (rnL ρ l) T
 | .row v m xs T=>.row v m xs T
 | .ob φ=>.ob φ
 | .map es c=>.map es c
 | .it km a b c=>.it (ρ km) a b c
 | .lp r pd=>.lp r pd
 | .lb r=>.lb r
 | .own φ=>.own φ
 | .gone=>.gone
def KXH:HB->Prop
 | .cells l _=>KXL l
 | .row _ _ xs _=>KFR xs
 | .map es _=>∀ e ∈ es,KF e.2.2
 | .ob _=>True
 | .it _ _ _ _=>True
 | .lp _ _=>True
 | .lb _=>True
 | .own _=>True
 | .gone=>True
def KXP:Lh->Prop
 | []=>True
 | (_,hb) :: r=>KXH hb/\KXP r
def rnP (ρ : Nat->Nat):Lh->Lh
 | []=>[]
 | (k,hb) :: r=>(ρ k,rnH ρ hb) :: rnP ρ r
def ZcA (ρ : Nat->Nat):Nat->Lh
 | 0=>[]
 | k+1=>(ρ k,.gone) :: ZcA ρ k
def exB (b:Bool) (x y:Nat):Nat:=bif b then x else y
def exR (ρ : Nat->Nat) (n0 n:Nat) (k:Nat):Nat:=exB (Nat.blt k n0) (ρ k) (n+(k - n0))
structure Ot where
 pn:Bool
 res:SV
 hp:Lh
 n:Nat
def Zwo:Bool->Value->Ending
 | false,y=>.returned y
 | true,y=>.panicked [{ v:=y,recovered:=false }]
def ZEq (ρ : Nat->Nat) (n0:Nat):Prop:=∀ i,i < n0->∀ j,j < n0->ρ i = ρ j->i=j
abbrev Hd:=Nat->Ls->Lh->Nat->(Ot->Prop)->Prop
def Y0:Hd:=λ_ _ _ _ _=>False
def Sub (C C':Cx):Prop:=∀ E hp n w,HSim C' E hp (ltn n) w->C.w0.heap.size<=w.heap.size/\(∀ b,C.okp b->b < C.w0.heap.size->(∀ k,¬ C.pass k b)->okS C' E hp b/\w.heap[b]? = C.w0.heap[b]?)/\∀ k,k < C.m0->k < n/\Ele C.e0 E k k
theorem Sub.rfl {C:Cx}:Sub C C:=λE hp n w h=>⟨h.kp.size,λb h1 h2 h3=>⟨⟨.inl h1,λk ho=>by
 rcases h.lo k b ho with q | q
 . omega
 . exact h3 k q⟩,h.kp.block b h2 h3⟩,λk hk=>h.pin k hk⟩
def Zdg (P:Program) (C0:Cx) (Y:Hd):Prop:=∀ C,Sub C0 C->∀ k args hp n Φ,Y k args hp n Φ->∀ E w vs,HSim C E hp (ltn n) w->k < n->RL w E (ltn n) (okS C E hp) args vs ->
 ∃ fn tmps assign body,(Instr.yield (E.β k) vs.toArray).run P w = .ok (.round (E.β k) fn tmps assign body) w/\Zbs P (E.β k) fn tmps assign body w λe w' =>
  ∃ o E' y,Φ o/\(∀ j,j < n->Ele E E' j j)/\n<=o.n/\HSim C E' o.hp (ltn o.n) w'/\R w' E' (ltn o.n) (okS C E' o.hp) o.res y/\ZM w w' (okS C E hp) (okS C E' o.hp)/\e=Zwo o.pn y
theorem Zcd {P:Program} {C:Cx}:Zdg P C Y0:=λ_ _ _ _ _ _ _ h=>h.elim
def CtY (P:Program) (Y:Hd) (f:FuncId) (hp0:Lh) (n0:Nat) (args:Ls) (Zz:Ot->Prop):Prop :=
 ∀ C E w vs,C.w0=w->C.rd=none->C.ds=[]->C.e0=E->C.m0=n0->(∀ k b,C.pass k b->k < C.m0)->Zdg P C Y->HSim C E hp0 (ltn n0) w->RL w E (ltn n0) (okS C E hp0) args vs->Calls P f vs.toArray w λe w' =>
  ∃ o E' y,Zz o/\HSim C E' o.hp (ltn o.n) w'/\R w' E' (ltn o.n) (okS C E' o.hp) o.res y/\e=Zwo o.pn y
structure CtM (P:Program) (f:FuncId) (hp0:Lh) (n0:Nat) (args:Ls) (Zz:Ot->Prop):Prop where
 bd:Z4 P f=true
 hb:hpb n0 hp0
 kp:∀ o,Zz o->KX o.res/\KXP o.hp
 run:CtY P Y0 f hp0 n0 args Zz
section
variable {w:World} {E E':Env} {n n' ok:Nat->Prop} {ρ : Nat->Nat}
mutual
theorem R_rn (hE:∀ k,n k->Ele E E' k (ρ k)) (hn:∀ k,n k->n' (ρ k)):∀ (s:SV) (y:Value),KX s->R w E n ok s y->R w E' n' ok (rnS ρ s) y
 | .p k o,y,_,h=>by simp only [R,rnS] at *;exact ⟨hn k h.1,by rw [(hE k h.1).1];exact h.2⟩
 | .mr k v,y,_,h=>by simp only [R,rnS] at *;exact ⟨hn k h.1,Nat.lt_of_lt_of_le h.2.1 (hE k h.1).2.1,by rw [(hE k h.1).2.2 v h.2.1];exact h.2.2⟩
 | .pr k v m i o,y,_,h=>by simp only [R,rnS] at *;exact ⟨hn k h.1,Nat.lt_of_lt_of_le h.2.1 (hE k h.1).2.1,by rw [(hE k h.1).2.2 v h.2.1];exact h.2.2⟩
 | .ms k v m i o,y,_,h=>by simp only [R,rnS] at *;exact ⟨hn k h.1,Nat.lt_of_lt_of_le h.2.1 (hE k h.1).2.1,by rw [(hE k h.1).2.2 v h.2.1];exact h.2.2⟩
 | .mp k,y,_,h=>by simp only [R,rnS] at *;exact ⟨hn k h.1,by rw [(hE k h.1).1];exact h.2⟩
 | .yl k,y,_,h=>by simp only [R,rnS] at *;exact ⟨hn k h.1,by rw [(hE k h.1).1];exact h.2⟩
 | .agg l,y,hx,h=>by simp only [R,rnS,KX] at *;obtain ⟨cs,h1,h2⟩:=h;exact ⟨cs,h1,Zlg hE hn l _ hx h2⟩
 | .tup l,y,hx,h=>by simp only [R,rnS,KX] at *;obtain ⟨cs,h1,h2⟩:=h;exact ⟨cs,h1,Zlg hE hn l _ hx h2⟩
 | .cl f l,y,hx,h=>by simp only [R,rnS,KX] at *;obtain ⟨cs,h1,h2⟩:=h;exact ⟨cs,h1,Zlg hE hn l _ hx h2⟩
 | .ifc T s,y,hx,h=>by simp only [R,rnS,KX] at *;obtain ⟨x,h1,h2⟩:=h;exact ⟨x,h1,R_rn hE hn s x hx h2⟩
 | .v x,y,_,h=>by simpa only [R,rnS] using h
 | .sl c m xs,y,hx,h=>Zje (E':=E') (n':=n') (.sl c m xs) y (by simpa [KF,KX] using hx) h
 | .ps l o,y,hx,h=>Zje (E':=E') (n':=n') (.ps l o) y (by simpa [KF,KX] using hx) h
 | .q φ,y,_,h=>by simpa only [R,rnS] using h
 | .gd _ _ _,y,_,h=>by simp only [R] at h
 | .any,y,_,h=>by simp only [R,rnS]
theorem Zlg (hE:∀ k,n k->Ele E E' k (ρ k)) (hn:∀ k,n k->n' (ρ k)):∀ (l:Ls) (ys:LZ),KXL l->RL w E n ok l ys->RL w E' n' ok (rnL ρ l) ys
 | [],ys,_,h=>by simpa only [RL,rnL] using h
 | s :: l,ys,hx,h=>by simp only [RL,rnL,KXL] at *;obtain ⟨y,r,h1,h2,h3⟩:=h;exact ⟨y,r,h1,R_rn hE hn s y hx.1 h2,Zlg hE hn l r hx.2 h3⟩
end
theorem Zvp {k:Nat} {hb:HB} (hk:hb = .gone\/n k) (hE:∀ k,n k->Ele E E' k (ρ k)) (hn:∀ k,n k->n' (ρ k)) (hx:KXH hb) (hI:E'.iss (ρ k)=E.iss k) (h:Yr w E n ok k hb):Yr w E' n' ok (ρ k) (rnH ρ hb):=by
 cases hb with
 | gone=>trivial
 | cells l T =>
  have e:=hE k (by simpa using hk);simp only [Yr,rnH,e.1] at *;obtain ⟨cs,h1,h2⟩:=h;exact ⟨cs,h1,Zlg hE hn l _ hx h2⟩
 | row v m xs T =>
  have e:=hE k (by simpa using hk);simp only [Yr,rnH] at h ⊢;obtain ⟨hi,h⟩:=h;rw [e.2.2 v (by omega)];refine ⟨hI.trans hi,?_⟩;rcases h with h | ⟨b,cap,cs,h1,h2,h3,h4,h5,h6,h7⟩
  . exact .inl h
  . exact .inr ⟨b,cap,cs,h1,h2,h3,h4,h5,h6,Zcz _ _ (Zbc hx) h7⟩
 | ob φ =>
  have e:=hE k (by simpa using hk);simp only [Yr,rnH,e.1] at *;exact h
 | map es c =>
  have e:=hE k (by simpa using hk);simp only [Yr,rnH,e.1] at *;obtain ⟨ys,h1,h2⟩:=h;exact ⟨ys,h1,ZsL (λb hb _=>⟨hb,rfl⟩) _ _ hx h2⟩
 | it km a b c =>
  have e:=hE k (by simpa using hk);simp only [Yr,rnH,e.1] at *;exact ⟨hn km h.1,by rw [(hE km h.1).1];exact h.2⟩
 | lp r pd =>
  have e:=hE k (by simpa using hk);simp only [Yr,rnH,e.1] at *;exact h
 | lb r =>
  have e:=hE k (by simpa using hk);simp only [Yr,rnH,e.1] at *;exact h
 | own φ=>exact h
theorem ZBs {k b:Nat} {hb:HB} (e:E'.β (ρ k)=E.β k/\E'.iss (ρ k)=E.iss k/\∀ v,E'.hv (ρ k) v=E.hv k v):occ E' (ρ k) (rnH ρ hb) b↔occ E k hb b:=by
 cases hb<;>simp only [rnH,occ,e.1,e.2.2]
end
def Vt (l:Lh):List Nat:=l.map (·.1)
theorem Zce (j:Nat):∀ (l r:Lh),lkh j (l ++ r)=if j ∈ Vt l then lkh j l else lkh j r
 | [],r=>by simp [Vt]
 | (k,hb) :: l,r=>by
  rw [List.cons_append,Zu,Zu,Zce j l r];by_cases h:j=k
  . subst h;simp [Vt]
  . simp only [if_neg h];have:(j ∈ Vt ((k,hb) :: l))↔j ∈ Vt l:=by simp [Vt,h]
    simp only [this]
theorem Ze0 {j:Nat}:∀ {l:Lh},j ∉ Vt l->lkh j l = .gone
 | [],_=>rfl
 | (k,hb) :: l,h=>by
  simp only [Vt,List.map_cons,List.mem_cons,not_or] at h;rw [Zu,if_neg h.1];exact Ze0 (l:=l) h.2
theorem Zmj {ρ : Nat->Nat} (hi:∀ i j,ρ i = ρ j->i=j) (k:Nat):∀ (l:Lh),lkh (ρ k) (rnP ρ l)=rnH ρ (lkh k l)
 | []=>rfl
 | (u,hb) :: l=>by
  simp only [rnP,Zu,Zmj hi k l];by_cases h:k=u
  . subst h;simp
  . rw [if_neg h,if_neg (λe=>h (hi _ _ e))]
theorem ZgM {ρ : Nat->Nat} (l:Lh):Vt (rnP ρ l)=(Vt l).map ρ:=by
 induction l with
 | nil=>rfl
 | cons x l ih=>obtain ⟨k,hb⟩:=x;simp only [rnP,Vt,List.map_cons] at *;rw [ih]
theorem UI {ρ : Nat->Nat} {j:Nat}:∀ {n0:Nat},j ∈ Vt (ZcA ρ n0)↔∃ i,i < n0/\ρ i=j
 | 0=>by simp [Vt,ZcA]
 | n0+1=>by
  simp only [ZcA,Vt,List.map_cons,List.mem_cons];have ih:=UI (ρ:=ρ) (j:=j) (n0:=n0);simp only [Vt] at ih;rw [ih];constructor
  . rintro (h | ⟨i,h1,h2⟩)
    . exact ⟨n0,by omega,h.symm⟩
    . exact ⟨i,by omega,h2⟩
  . rintro ⟨i,h1,h2⟩;by_cases e:i=n0
    . subst e;exact .inl h2.symm
    . exact .inr ⟨i,by omega,h2⟩
theorem ZgA {ρ : Nat->Nat} {j:Nat}:∀ {n0:Nat},lkh j (ZcA ρ n0) = .gone
 | 0=>rfl
 | n0+1=>by simp only [ZcA,Zu];split;rfl;exact ZgA
theorem ZuD:∀ {l:Lh},KXP l->∀ k,KXH (lkh k l)
 | [],_,k=>by simp [lkh,KXH]
 | (u,hb) :: l,h,k=>by
  rw [Zu];split
  . exact h.1
  . exact ZuD h.2 k
def hpM (ρ : Nat->Nat) (n0 n:Nat) (o:Ot) (hp:Lh):Lh:=rnP (exR ρ n0 n) o.hp ++ (ZcA ρ n0 ++ hp)
section
variable {P:Program} {C:Cx} {E:Env} {hp:Lh} {w:World}
theorem Vi {ρ : Nat->Nat} {n0 n k:Nat} (h:k < n0):exR ρ n0 n k = ρ k:=by
 have:Nat.blt k n0=true:=by simpa [Nat.blt_eq] using h
 simp [exR,exB,this]
theorem UM {ρ : Nat->Nat} {n0 n k:Nat} (h:¬ k < n0):exR ρ n0 n k=n+(k - n0):=by
 have:Nat.blt k n0=false:=by rw [Bool.eq_false_iff];intro e;exact h (by simpa [Nat.blt_eq] using e)
 simp [exR,exB,this]
theorem Zz3 {ρ : Nat->Nat} {n0 n:Nat} (hi:ZEq ρ n0) (hl:∀ i,i < n0->ρ i < n) (i j:Nat) (h:exR ρ n0 n i=exR ρ n0 n j):i=j:=by
 by_cases h1:i < n0<;>by_cases h2:j < n0
 . rw [Vi h1,Vi h2] at h;exact hi i h1 j h2 h
 . rw [Vi h1,UM h2] at h;have:=hl i h1;omega
 . rw [UM h1,Vi h2] at h;have:=hl j h2;omega
 . rw [UM h1,UM h2] at h;omega
theorem Zku {f:FuncId} {hp0:Lh} {n0 n:Nat} {args0 args:Ls} {vs:LZ} {Zz:Ot->Prop} (ρ : Nat->Nat) (hh:HSim C E hp (ltn n) w) (hc:CtM P f hp0 n0 args0 Zz) (hargs:mtL ρ n0 args0 args)
 (hP:mtP ρ hp0 hp n0 n0) (hi:ZEq ρ n0) (hl:∀ i,i < n0->ρ i < n) (hR:RL w E (ltn n) (okS C E hp) args vs):Calls P f vs.toArray w λe w' =>
 ∃ o E' y,Zz o/\(∀ k,k < n->Ele E E' k k)/\HSim C E' (hpM ρ n0 n o hp) (ltn (n+(o.n - n0))) w'/\R w' E' (ltn (n+(o.n - n0))) (okS C E' (hpM ρ n0 n o hp)) (rnS (exR ρ n0 n) o.res) y /\
  ZM w w' (okS C E hp) (okS C E' (hpM ρ n0 n o hp))/\e=Zwo o.pn y:=by
 have hH:=ZkG hP;have hgone:=ZdO hc.hb;have hocc:∀ k b,occ (rnE E ρ) k (lkh k hp0) b->k < n0/\occ E (ρ k) (lkh (ρ k) hp) b:=λk b ho=>by
  by_cases hk:k < n0
  . refine ⟨hk,?_⟩;have:=hH k hk;cases h1:lkh k hp0<;>rw [h1] at ho this
    . cases h2:lkh (ρ k) hp<;>rw [h2] at this<;>simp only [mtH] at this
      exact ho
    . simp only [mtH] at this;rw [this.1];exact ho
    . simp only [mtH] at this;rw [this];exact ho
    . simp only [mtH] at this;rw [this.1];exact ho
    . simp only [mtH] at this;rw [this.2];exact ho
    . simp only [mtH] at this;rw [this];exact ho
    . simp only [mtH] at this;rw [this];exact ho
    . simp only [mtH] at this;rw [this];exact ho
    . exact ho.elim
  . rw [hgone k hk] at ho;exact ho.elim
 let C2:Cx:=⟨w,okS C E hp,λk b=>k < n0/\occ E (ρ k) (lkh (ρ k) hp) b,[],none,rnE E ρ,n0,Zy hh,λg l hg k ho=>Vn hh hg (ρ k) ho.2⟩
 have hst0:ZM w w (okS C E hp) (okS C2 (rnE E ρ) hp0):=λb hb _=>⟨⟨.inl hb,λk ho=>hb.2 _ (hocc k b ho).2⟩,rfl⟩;have hS2:HSim C2 (rnE E ρ) hp0 (ltn n0) w:=by
  refine ⟨hgone,λk=>?_,λk k' b h1 h2=>?_,λk b h1=>.inr ⟨(hocc k b h1).1,(hocc k b h1).2⟩,⟨rfl,rfl,rfl,Nat.le_refl _,λ_ _ _=>rfl⟩,λk hk=>⟨hk,Ele.rfl⟩⟩
  . by_cases hk:k < n0
    . have:=hH k hk;have hbk:=hh.bk (ρ k);cases h1:lkh k hp0<;>rw [h1] at this
      . cases h2:lkh (ρ k) hp<;>rw [h2] at this hbk<;>simp only [mtH] at this
        obtain ⟨rfl,this⟩:=this;simp only [Yr] at hbk ⊢;obtain ⟨cs,k1,k2⟩:=hbk;exact ⟨cs,k1,ZbZ hst0 _ _ _ this k2⟩
      . simp only [mtH] at this;rw [this.1] at hbk;simp only [Yr] at hbk ⊢;obtain ⟨hi',hbk⟩:=hbk;refine ⟨hi',?_⟩;rcases hbk with q | ⟨b,cap,cs,q1,q2,q3,q4,q5,q6,q7⟩
        . exact .inl q
        . exact .inr ⟨b,cap,cs,q1,q2,q3,q4,q5,q6,ZL hst0 (λ_ h=>Ele.rfl) (λ_ h=>h.elim) _ _ (Zcz (E':=rnE E ρ) (n':=λ_=>False) _ _ (Zbc this.2) q7)⟩
      . rename_i φ;simp only [mtH] at this;rw [this] at hbk;simp only [Yr] at hbk ⊢;obtain ⟨o,k1,k2⟩:=hbk;exact ⟨o,k1,φ.mono _ _ _ _ _ hst0 k2⟩
      . simp only [mtH] at this;obtain ⟨this,hkf⟩:=this;rw [this] at hbk;simp only [Yr] at hbk ⊢;obtain ⟨ys,k1,k2⟩:=hbk;exact ⟨ys,k1,ZsL hst0 _ _ hkf k2⟩
      . simp only [mtH] at this;rw [this.2] at hbk;simp only [Yr] at hbk ⊢;exact ⟨this.1,hbk.2⟩
      . simp only [mtH] at this;rw [this] at hbk;simp only [Yr] at hbk ⊢;exact hbk
      . simp only [mtH] at this;rw [this] at hbk;simp only [Yr] at hbk ⊢;exact hbk
      . simp only [mtH] at this;rw [this] at hbk;rename_i φ;exact φ.mono _ _ _ _ hst0.c (λ_ _=>rfl) hbk
      . trivial
    . rw [hgone k hk];trivial
  . have e1:=hocc k b h1;have e2:=hocc k' b h2;exact hi k e1.1 k' e2.1 (hh.dj _ _ b e1.2 e2.2)
 refine (hc.run C2 (rnE E ρ) w vs rfl rfl rfl rfl rfl (λk b h=>h.1) Zcd hS2 (ZbZ hst0 _ _ _ hargs hR)).mono λe w' ⟨o,E2,y,hpo,h2,hy,he⟩=>?_;obtain ⟨kx1,kx2⟩:=hc.kp o hpo;have kx2:=ZuD kx2
 let σ:=exR ρ n0 n
 have hinj:=Zz3 hi hl;have hn0:n0<=o.n:=by
  rcases Nat.eq_zero_or_pos n0 with h | h
  . omega
  . have:=(h2.pin (n0 - 1) (show n0 - 1 < n0 by omega)).1;simp only [ltn] at this;omega
 let iv:Nat->Nat:=λj=>open Classical in if h:∃ k,σ k=j then Classical.choose h else 0
 have hiv:∀ k,iv (σ k)=k:=λk=>by
  have h:∃ i,σ i = σ k:=⟨k,rfl⟩
  simp only [iv,dif_pos h];exact hinj _ _ (Classical.choose_spec h)
 let im:Nat->Prop:=λj=>∃ k,σ k=j
 let E':Env:=open Classical in ⟨λj=>if im j then E2.β (iv j) else E.β j,λj=>if im j then E2.hv (iv j) else E.hv j,λj=>if im j then E2.iss (iv j) else E.iss j⟩
 have hEq:∀ k,E'.β (σ k)=E2.β k/\E'.iss (σ k)=E2.iss k/\∀ v,E'.hv (σ k) v=E2.hv k v:=λk=>by
  have:im (σ k):=⟨k,rfl⟩
  simp only [E',if_pos this,hiv];exact ⟨trivial,trivial,λ_=>trivial⟩
 have hEo:∀ j,(∀ k,σ k≠j)->E'.β j=E.β j/\E'.iss j=E.iss j/\∀ v,E'.hv j v=E.hv j v:=λj hj=>by
  have:¬ im j:=λ⟨k,h⟩=>hj k h;simp only [E',if_neg this];exact ⟨trivial,trivial,λ_=>trivial⟩
 have hE0:∀ k,k < n->Ele E E' k k:=λk hk=>by
  by_cases hm:im k
  . obtain ⟨i,rfl⟩:=hm;have hi0:i < n0:=by
     rcases Nat.lt_or_ge i n0 with h | h
     . exact h
     . exfalso;have e:=UM (ρ:=ρ) (n:=n) (Nat.not_lt.2 h);simp only [σ] at hk;omega
    have e:σ i = ρ i:=Vi hi0;obtain ⟨_,p1,p2,p3⟩:=h2.pin i hi0;obtain ⟨q1,q2,q3⟩:=hEq i;rw [e] at q1 q2 q3 ⊢;exact ⟨q1.trans p1,q2 ▸ p2,λv hv=>(q3 v).trans (p3 v hv)⟩
  . obtain ⟨q1,q2,q3⟩:=hEo k (λi h=>hm ⟨i,h⟩);exact ⟨q1,Nat.le_of_eq q2.symm,λv _=>q3 v⟩
 have hE2:∀ k,ltn o.n k->Ele E2 E' k (σ k):=λk _=>⟨(hEq k).1,Nat.le_of_eq (hEq k).2.1.symm,λv _=>(hEq k).2.2 v⟩;have hnn:∀ k,ltn o.n k->ltn (n+(o.n - n0)) (σ k):=λk hk=>by
  show exR ρ n0 n k < n+(o.n - n0)
  simp only [ltn] at hk;by_cases hk0:k < n0
  . rw [Vi hk0];have:=hl k hk0;omega
  . rw [UM hk0];omega
 have hgk:∀ k,lkh k o.hp = .gone\/ltn o.n k:=λk=>by
  by_cases hk:ltn o.n k
  . exact .inr hk
  . exact .inl (h2.kn k hk)
 have hA:∀ k,lkh (σ k) (hpM ρ n0 n o hp)=rnH σ (lkh k o.hp):=λk=>by
  simp only [hpM];rw [Zce,ZgM];by_cases hm:σ k ∈ (Vt o.hp).map (exR ρ n0 n)
  . rw [if_pos hm];exact Zmj hinj k o.hp
  . rw [if_neg hm];have hnk:k ∉ Vt o.hp:=λhk=>hm (List.mem_map.2 ⟨k,hk,rfl⟩);rw [Ze0 hnk,Zce];by_cases hk0:k < n0
    . rw [if_pos (UI.2 ⟨k,hk0,(Vi hk0).symm⟩),ZgA];rfl
    . rw [if_neg (λhg=>by obtain ⟨i,i1,i2⟩:=UI.1 hg;have:=hl i i1;have e:=UM (ρ:=ρ) (n:=n) hk0;simp only [σ] at i2;omega)];rw [hh.kn _ (by show ¬ exR ρ n0 n k < n;rw [UM hk0];omega)];rfl
 have hB:∀ j,(∀ k,σ k≠j)->lkh j (hpM ρ n0 n o hp)=lkh j hp:=λj hj=>by
  simp only [hpM];rw [Zce,ZgM,if_neg (λhm=>by obtain ⟨k,_,hk⟩:=List.mem_map.1 hm;exact hj k hk),Zce,if_neg (λhg=>by obtain ⟨i,i1,i2⟩:=UI.1 hg;exact hj i ((Vi i1).trans i2))]
 have hcase:∀ j,(∃ k,σ k=j)\/((∀ k,σ k≠j)/\j < n):=λj=>by
  by_cases hj:∃ k,σ k=j
  . exact .inl hj
  . refine .inr ⟨λk hk=>hj ⟨k,hk⟩,?_⟩;rcases Nat.lt_or_ge j n with h | h
    . exact h
    . exact absurd ⟨n0+(j - n),by show exR ρ n0 n _=j;rw [UM (by omega)];omega⟩ hj
 have hoA:∀ k b,occ E' (σ k) (lkh (σ k) (hpM ρ n0 n o hp)) b↔occ E2 k (lkh k o.hp) b:=λk b=>by
  rw [hA k];exact ZBs (hEq k)
 have hoB:∀ j b,(∀ k,σ k≠j)->j < n->(occ E' j (lkh j (hpM ρ n0 n o hp)) b↔occ E j (lkh j hp) b):=λj b hj hjn=>by
  rw [hB j hj];have:=hEo j hj;cases lkh j hp<;>simp only [occ,this.1,this.2.2]
 have hkeep:∀ b,b < w.heap.size->(∀ k,k < n0->¬ occ E (ρ k) (lkh (ρ k) hp) b)->w'.heap[b]? = w.heap[b]?:=λb hb hp'=>h2.kp.block b hb (λk ⟨k1,k2⟩=>hp' k k1 k2);have hok:∀ b,okS C2 E2 o.hp b->okS C E' (hpM ρ n0 n o hp) b:=λb hb=>by
  refine ⟨?_,λj ho=>?_⟩
  . rcases hb.1 with h | h
    . exact (show okS C E hp b from h).1
    . exact .inr (Nat.le_trans hh.kp.size h)
  . rcases hcase j with ⟨k,rfl⟩ | ⟨hj,hjn⟩
    . exact hb.2 k ((hoA k b).1 ho)
    . have ho':=(hoB j b hj hjn).1 ho;rcases hb.1 with h | h
      . exact (show okS C E hp b from h).2 j ho'
      . have:=YO hh ho';have h':w.heap.size<=b:=h;omega
 have hst:ZM w w' (okS C E hp) (okS C E' (hpM ρ n0 n o hp)):=λb hb hs=>by
  have hlt:b < w.heap.size:=by
   obtain ⟨x,hx⟩:=Option.isSome_iff_exists.1 hs;exact (Array.getElem?_eq_some_iff.1 hx).1
  refine ⟨hok b ⟨.inl hb,λk ho=>?_⟩,hkeep b hlt (λk _ ho=>hb.2 _ ho)⟩;rcases h2.lo k b ho with h | ⟨_,h⟩
  . exact absurd hlt (Nat.not_lt.2 h)
  . exact hb.2 _ h
 have hstC:Xh w' w' (okS C2 E2 o.hp) (okS C E' (hpM ρ n0 n o hp)):=λb hb _=>⟨hok b hb,rfl⟩;refine ⟨o,E',y,hpo,hE0,⟨λj hj=>?_,λj=>?_,λj j' b h1 h2'=>?_,λj b h1=>?_,⟨h2.kp.os.trans hh.kp.os,h2.kp.tape.trans hh.kp.tape,h2.kp.output.trans hh.kp.output,Nat.le_trans hh.kp.size h2.kp.size,λb h1 h3=>?_⟩,λk hk=>?_⟩,?_,hst,he⟩
 . rcases hcase j with ⟨k,rfl⟩ | ⟨hj',hjn⟩
   . rw [hA k];rcases hgk k with h | h
     . rw [h];rfl
     . exact absurd (hnn k h) hj
   . simp only [ltn] at hj;omega
 . rcases hcase j with ⟨k,rfl⟩ | ⟨hj',hjn⟩
   . rw [hA k];have hb2:=XX (E':=E2) (n':=ltn o.n) hstC (λ_ _=>Ele.rfl) (λ_ h=>h) (hgk k) (λ_ _=>rfl) rfl (h2.bk k);exact Zvp (hgk k) hE2 hnn (kx2 k) (hEq k).2.1 hb2
   . rw [hB j hj'];refine YU hst (λk hk=>hE0 k hk) (λk hk=>by simp only [ltn] at *;omega) (.inr hjn) (λb ho=>?_) (hEo j hj').2.1 (hh.bk j);refine hkeep b (YO hh ho) (λk hk ho'=>?_);have:=hh.dj j (ρ k) b ho ho';exact hj' k ((Vi hk).trans this.symm)
 . rcases hcase j with ⟨k,rfl⟩ | ⟨hj,hjn⟩<;>rcases hcase j' with ⟨k',rfl⟩ | ⟨hj',hjn'⟩
   . rw [h2.dj k k' b ((hoA k b).1 h1) ((hoA k' b).1 h2')]
   . exfalso;have o1:=(hoA k b).1 h1;have o2:=(hoB j' b hj' hjn').1 h2';rcases h2.lo k b o1 with h | ⟨i1,h⟩
     . have:=YO hh o2;have h':w.heap.size<=b:=h;omega
     . have:=hh.dj j' (ρ k) b o2 h;exact hj' k ((Vi i1).trans this.symm)
   . exfalso;have o1:=(hoA k' b).1 h2';have o2:=(hoB j b hj hjn).1 h1;rcases h2.lo k' b o1 with h | ⟨i1,h⟩
     . have:=YO hh o2;have h':w.heap.size<=b:=h;omega
     . have:=hh.dj j (ρ k') b o2 h;exact hj k' ((Vi i1).trans this.symm)
   . exact hh.dj j j' b ((hoB j b hj hjn).1 h1) ((hoB j' b hj' hjn').1 h2')
 . rcases hcase j with ⟨k,rfl⟩ | ⟨hj,hjn⟩
   . rcases h2.lo k b ((hoA k b).1 h1) with h | ⟨i1,h⟩
     . exact .inl (Nat.le_trans hh.kp.size h)
     . have e:σ k = ρ k:=Vi i1;rw [e];exact hh.lo _ b h
   . exact hh.lo j b ((hoB j b hj hjn).1 h1)
 . rw [hkeep b (Nat.lt_of_lt_of_le h1 hh.kp.size) (λk _ ho=>by rcases hh.lo _ b ho with h | h;exact absurd h1 (Nat.not_lt.2 h);exact h3 _ h)];exact hh.kp.block b h1 h3
 . obtain ⟨p1,p2⟩:=hh.pin k hk;have:=hE0 k p1;exact ⟨by simp only [ltn] at *;omega,p2.trans this⟩
 . exact R_rn hE2 hnn _ _ kx1 (ZV hstC (λ_ _=>Ele.rfl) (λ_ h=>h) _ _ hy)
end
def cmK (pn:Bool) (res:SV) (hp:Lh) (n:Nat) (d:Option Nat) (σ : St) (r:KT) (K:RK):Prop :=
 match pn with
 | false=>YE d res none ⟨σ.fr,hp,n,σ.N,σ.gs⟩ r K
 | true=>K (.pan res) ⟨σ.fr,hp,n,σ.N,σ.gs⟩
def ZdW (P:Program) (f:FuncId) (args:Ls) (d:Option Nat) (σ : St) (r:KT) (K:RK):Prop :=
 ∃ hp0 n0 args0 Zz ρ,CtM P f hp0 n0 args0 Zz/\mtL ρ n0 args0 args/\mtP ρ hp0 σ.hp n0 n0/\ZEq ρ n0/\(∀ i,i < n0->ρ i < σ.n) /\
  ∀ o,Zz o->cmK o.pn (rnS (exR ρ n0 σ.n) o.res) (hpM ρ n0 σ.n o σ.hp) (σ.n+(o.n - n0)) d σ r K
def YLD (Y:Hd) (k:Nat) (args:Ls) (d:Option Nat) (σ : St) (r:KT) (K:RK):Prop :=
 Y k args σ.hp σ.n λo=>cmK o.pn o.res o.hp o.n d σ r K
def Zim (P:Program) (Y:Hd) (s:SV) (args:Ls) (d:Option Nat) (σ : St) (r:KT) (K:RK):Prop :=
 match s with
 | .cl f caps=>ZdW P f (args ++ caps) d σ r K
 | .yl k=>YLD Y k args d σ r K
 | _=>False
variable {Y:Hd}
def Yu:Ls->Bool
 | []=>true
 | s :: l=>bif Zbd s then Yu l else false
def ZD7:Bool->Bool->Nat->Ls->TypeId->St->KT->RK->Prop
 | false,true,t,c,T,σ,r,K=>r ⟨(t,.p σ.n 0) :: σ.fr,(σ.n,.cells c T) :: σ.hp,σ.n+1,σ.N,σ.gs⟩ K
 | _,_,_,_,_,_,_,_=>False
def Zjj (d:Option Nat) (c:Option Ls) (T:TypeId) (σ : St) (r:KT) (K:RK):Prop :=
 match d,c with
 | some t,some c=>ZD7 (Xw t σ.gs) (Nat.blt t σ.N) t c T σ r K
 | _,_=>False
def STR (v:Nat) (xs:Rr) (j o k m:Nat) (c:Ls) (T:TypeId) (σ : St) (r:KT) (K:RK):Prop :=
 ∃ row,xs[j]? = some row/\o+c.length<=row.length/\r ⟨σ.fr,(k,.row v m (xs.set j (ZJ row o c)) T) :: σ.hp,σ.n,σ.N,σ.gs⟩ K
def RAW (P:Program) (d:Option Nat) (op:Op) (ty:TypeId) (σ : St) (r:KT) (K:RK):Prop :=
 ∀ (o:Oper) C E a w next Q,o.dst=d->o.op=op->o.type=ty->Sim C E σ a w->(∀ σ' E' a' w',r σ' K->Sim C E' σ' a' w'->next a' w') ->
  (∀ s σ' E' w' y,K (.pan s) σ'->Sim C E' σ' a w'->R w' E' (ltn σ'.n) (okS C E' σ'.hp) s y->Q (.panic [{ v:=y,recovered:=false }]) a w')->o.wpq C.rd P a w next Q
def HExt (hp hp':Lh):Prop:=∀ k,lkh k hp = .gone\/lkh k hp'=lkh k hp
def Imp (hb:HB) (φ : OP):Prop:=(∀ E k b,occ E k hb b↔b=E.β k)/\∀ w E n ok k,Yr w E n ok k hb->Yr w E n ok k (.ob φ)
def WK (h0 h1:HB):Prop:=∃ φ,h0 = .ob φ/\Imp h1 φ
def ZoM (hp hp':Lh):Prop:=∀ k,lkh k hp = .gone\/lkh k hp'=lkh k hp\/WK (lkh k hp) (lkh k hp')
def RBB (P:Program) (op:Op) (xs:List X) (k:Nat) (h0 h1:HB) (σ : St) (s:SV):Prop :=
 ∀ (o:Oper),o.op=op->∀ C E hpX nX a w (next:Act->World->Prop) (Q:Exit->Act->World->Prop),lkh k hpX=h0->HSim C E hpX nX w->(∀ x ∈ xs,R w E nX (okS C E hpX) (rdG none σ.fr x) (evX a x)) ->
  (∀ w' y,HSim C E ((k,h1) :: hpX) nX w'->ZM w w' (okS C E hpX) (okS C E ((k,h1) :: hpX))->R w' E nX (okS C E ((k,h1) :: hpX)) s y->next (a.put o.dst y) w')->o.wpq C.rd P a w next Q
def RBE (P:Program) (op:Op) (xs:List X) (σ : St) (s:SV):Prop :=
 ∀ (o:Oper),o.op=op->∀ C E hpX nX a w (next:Act->World->Prop) (Q:Exit->Act->World->Prop),ZoM σ.hp hpX->HSim C E hpX nX w->(∀ x ∈ xs,R w E nX (okS C E hpX) (rdG none σ.fr x) (evX a x)) ->
  (∀ w' y,HSim C E hpX nX w'->ZM w w' (okS C E hpX) (okS C E hpX)->R w' E nX (okS C E hpX) s y->next (a.put o.dst y) w')->o.wpq C.rd P a w next Q
def ZAG:Bool->Nat->Nat->Ls->TypeId->Ls->St->KT->RK->Prop
 | true,k,o,l,T,c,σ,r,K=>r ⟨σ.fr,(k,.cells (ZJ l o c) T) :: σ.hp,σ.n,σ.N,σ.gs⟩ K
 | false,_,_,_,_,_,_,_,_=>False
def stC (k o m:Nat) (hb:HB) (c:Ls) (σ : St) (r:KT) (K:RK):Prop :=
 match hb with
 | .cells l T=>ZAG (Nat.ble (o+m) l.length) k o l T c σ r K
 | _=>False
def ZAW:Bool->Nat->Rr->Nat->Nat->Nat->Nat->Ls->TypeId->St->KT->RK->Prop
 | true,v,xs,j,o,k,m,c,T,σ,r,K=>STR v xs j o k m c T σ r K
 | false,_,_,_,_,_,_,_,_,_,_,_=>False
def stR (k v m' j o:Nat) (hb:HB) (c:Ls) (σ : St) (r:KT) (K:RK):Prop :=
 match hb with
 | .row v' m'' xs T=>ZAW (We (Nat.beq m' m'') (Nat.beq v v')) v' xs j o k m' c T σ r K
 | _=>False
def stX (x:SV) (m:Nat) (c:Ls) (σ : St) (r:KT) (K:RK):Prop :=
 match x with
 | .p k o=>stC k o m (lkh k σ.hp) c σ r K
 | .pr k v m' j o=>stR k v m' j o (lkh k σ.hp) c σ r K
 | _=>False
def ZeP:Bool->Bool->SV->Nat->Ls->St->KT->RK->Prop
 | true,true,x,m,c,σ,r,K=>stX x m c σ r K
 | _,_,_,_,_,_,_,_=>False
def Zfe (d:Option Nat) (c:Option Ls) (m:Nat) (x:SV) (σ : St) (r:KT) (K:RK):Prop :=
 match d,c with
 | none,some c=>ZeP (chk c m) (Yu c) x m c σ r K
 | _,_=>False
def Zsy:Bool->Bool->Nat->Nat->Rr->TypeId->St->KT->RK->Prop
 | false,true,t,m,xs,T,σ,r,K=>r ⟨(t,.mr σ.n 0) :: σ.fr,(σ.n,.row 0 m xs T) :: σ.hp,σ.n+1,σ.N,σ.gs⟩ K
 | _,_,_,_,_,_,_,_,_=>False
def Zsg (d:Option Nat) (m:Nat) (xs:Rr) (T:TypeId) (σ : St) (r:KT) (K:RK):Prop :=
 match d with
 | some t=>Zsy (Xw t σ.gs) (Nat.blt t σ.N) t m xs T σ r K
 | none=>False
def CLN (b:Nat) (d:Option Nat) (m:Nat) (xs:Rr) (T:TypeId) (σ : St) (r:KT) (K:RK):Prop :=
 xs.length * b<=140737488355328/\Zsg d m xs T σ r K
def ZuN (b:Nat) (d:Option Nat) (m:Nat) (x y:Option Rr) (T:TypeId) (σ : St) (r:KT) (K:RK):Prop :=
 match x,y with
 | some [],some ys=>CLN b d m ys T σ r K
 | some (_ :: _),_=>False
 | some [],none=>False
 | none,_=>False
def MKS (b:Nat) (d:Option Nat) (m:Nat) (z:Ls) (n:Int) (T:TypeId) (σ : St) (r:KT) (K:RK):Prop :=
 ∃ k:Nat,n=k/\k * b<=140737488355328/\Zsg d m (List.replicate k z) T σ r K
def ZyO:Bool->Bool->Nat->Nat->Nat->Nat->Rr->Nat->TypeId->St->KT->RK->Prop
 | false,true,t,k,v,m,xs,N,T,σ,r,K=>r ⟨(t,.v (.int .i64 N)) :: σ.fr,(k,.row v m xs T) :: σ.hp,σ.n,σ.N,σ.gs⟩ K
 | _,_,_,_,_,_,_,_,_,_,_,_=>False
def ZCB (d:Option Nat) (k v m:Nat) (xs:Rr) (N:Nat) (T:TypeId) (σ : St) (r:KT) (K:RK):Prop :=
 match d with
 | some t=>ZyO (Xw t σ.gs) (Nat.blt t σ.N) t k v m xs N T σ r K
 | none=>r ⟨σ.fr,(k,.row v m xs T) :: σ.hp,σ.n,σ.N,σ.gs⟩ K
def CPY (d:Option Nat) (k v m i L:Nat) (xs ys:Rr) (T:TypeId) (σ : St) (r:KT) (K:RK):Prop :=
 (∀ c ∈ ys,Yu c=true)/\i+L<=xs.length/\ZCB d k v m (xs.take i ++ (ys.take (min L ys.length) ++ xs.drop (i+min L ys.length))) (min L ys.length) T σ r K
def Zuw (d:Option Nat) (k v m i L:Nat) (xs:Rr) (T:TypeId) (s:SV) (σ : St) (r:KT) (K:RK):Prop :=
 match s with
 | .sl _ m' ys=>Zfq (Nat.beq m m') (CPY d k v m i L xs ys T σ r K)
 | .v (.slice none 0 0)=>CPY d k v m i L xs [] T σ r K
 | .mr k' v'=>Zfq (We (Nat.beq k k') (Nat.beq v v')) (CPY d k v m i L xs xs T σ r K)
 | .ms k' v' m' i' l'=>Zfq (We (We (Nat.beq k k') (Nat.beq v v')) (Nat.beq m m')) (i'+l'<=xs.length/\CPY d k v m i L xs ((xs.drop i').take l') T σ r K)
 | _=>False
def lO (o:Option Nat) (n:Nat):Nat :=
 match o with
 | some l=>l
 | none=>n
def Zwy (d:Option Nat) (m k v i:Nat) (lo:Option Nat) (hb:HB) (s:SV) (σ : St) (r:KT) (K:RK):Prop :=
 match hb with
 | .row v' m' xs T=>Zfq (We (Nat.beq m m') (Nat.beq v v')) (Zuw d k v m i (lO lo xs.length) xs T s σ r K)
 | _=>False
def ZAI (d:Option Nat) (m:Nat) (sx sy:SV) (σ : St) (r:KT) (K:RK):Prop :=
 match sx with
 | .mr k v=>Zwy d m k v 0 none (lkh k σ.hp) sy σ r K
 | .ms k v m' i l=>Zfq (Nat.beq m m') (Zwy d m k v i (some l) (lkh k σ.hp) sy σ r K)
 | _=>False
def verB:Bool->Bool->Nat->Nat->Nat->Nat->Rr->TypeId->St->KT->RK->Prop
 | false,true,t,k,v,m,xs,T,σ,r,K=>r ⟨(t,.mr k v) :: σ.fr,(k,.row v m xs T) :: σ.hp,σ.n,σ.N,σ.gs⟩ K
 | _,_,_,_,_,_,_,_,_,_,_=>False
def ZAJ (d:Option Nat) (k v m:Nat) (xs:Rr) (T:TypeId) (σ : St) (r:KT) (K:RK):Prop :=
 match d with
 | some t=>verB (Xw t σ.gs) (Nat.blt t σ.N) t k v m xs T σ r K
 | none=>False
def APM (b:Nat) (d:Option Nat) (k v m:Nat) (xs ys:Rr) (T:TypeId) (σ : St) (r:KT) (K:RK):Prop :=
 (∀ c ∈ ys,Yu c=true)/\(xs.length+ys.length) * b<=140737488355328/\ZAJ d k (v+1) m (xs ++ ys) T σ r K
def ZCW (c:Bool) (b:Nat) (d:Option Nat) (k v m:Nat) (xs ys:Rr) (T:TypeId) (σ : St) (r:KT) (K:RK):Prop :=
 match c with
 | true=>APM b d k v m xs ys T σ r K
 | false=>False
def ZD9 (b:Nat) (d:Option Nat) (k v m:Nat) (hb:HB) (ys:Rr) (T:TypeId) (σ : St) (r:KT) (K:RK):Prop :=
 match hb with
 | .row v' m' xs T'=>ZCW (We (Nat.beq m m') (We (Nat.beq v v') (Nat.beq T T'))) b d k v m xs ys T σ r K
 | _=>False
def APF (d:Option Nat) (k v m i:Nat) (xs ys:Rr) (T:TypeId) (σ : St) (r:KT) (K:RK):Prop :=
 (∀ c ∈ ys,Yu c=true)/\xs.length=i+ys.length/\0 < ys.length/\ZAJ d k v m (xs.take i ++ ys) T σ r K
def ZCD (c:Bool) (d:Option Nat) (k v m i:Nat) (xs ys:Rr) (T:TypeId) (σ : St) (r:KT) (K:RK):Prop :=
 match c with
 | true=>APF d k v m i xs ys T σ r K
 | false=>False
def ZEf (d:Option Nat) (k v m m2 j i:Nat) (hb:HB) (ys:Rr) (T:TypeId) (σ : St) (r:KT) (K:RK):Prop :=
 match hb with
 | .row v' m' xs T'=>ZCD (We (We (Nat.beq m m2) (Nat.beq j 0)) (We (Nat.beq m m') (We (Nat.beq v v') (Nat.beq T T')))) d k v m i xs ys T σ r K
 | _=>False
def ZC2 (b:Nat) (d:Option Nat) (m:Nat) (s:SV) (ys:Rr) (T:TypeId) (σ : St) (r:KT) (K:RK):Prop :=
 match s with
 | .mr k v=>ZD9 b d k v m (lkh k σ.hp) ys T σ r K
 | .ms k v m2 j i=>ZEf d k v m m2 j i (lkh k σ.hp) ys T σ r K
 | _=>False
def ZAQ (b:Nat) (d:Option Nat) (m:Nat) (s:SV) (ys:Option Rr) (T:TypeId) (σ : St) (r:KT) (K:RK):Prop :=
 match ys with
 | some ys=>ZC2 b d m s ys T σ r K
 | none=>False
def ZBf (b:Nat) (d:Option Nat) (m:Nat) (z:LZ) (x:SV) (T:TypeId) (σ : St) (r:KT) (K:RK):Prop :=
 match x with
 | .v (.int _ n)=>MKS b d m (lit z) n T σ r K
 | _=>False
def ISN (d:Option Nat) (xs:Rr) (σ : St) (r:KT) (K:RK):Prop :=
 ∀ b:Bool,(b=true->xs=[])->YE d (.v (.bool b)) none σ r K
def ZEn (d:Option Nat) (x:SV) (σ : St) (r:KT) (K:RK):Prop :=
 match x with
 | .sl _ _ xs=>ISN d xs σ r K
 | _=>False
def stp (P:Program) (Y:Hd) (d:Option Nat) (i:SI) (σ : St) (r:KT) (K:RK):Prop :=
 match i with
 | .st x y m=>Zfe d (YC (rdG none σ.fr y)) m (rdG none σ.fr x) σ r K
 | .box x _ T=>Zjj d (YC (rdG none σ.fr x)) T σ r K
 | .alloc z T=>Zjj d (some (lit z)) T σ r K
 | .cln m b T x y=>ZuN b d m (Zm5 m (rdG none σ.fr x)) (ZfD m (rdG none σ.fr y)) T σ r K
 | .mks m b z T x=>ZBf b d m z (rdG none σ.fr x) T σ r K
 | .cpy m x y=>ZAI d m (rdG none σ.fr x) (rdG none σ.fr y) σ r K
 | .appm m b T x y=>ZAQ b d m (rdG none σ.fr x) (ZfD m (rdG none σ.fr y)) T σ r K
 | .callm f as=>ZdW P f (U6 (rdG none σ.fr) as) d σ r K
 | .calvm x as=>Zim P Y (rdG none σ.fr x) (U6 (rdG none σ.fr) as) d σ r K
 | .isn x=>ZEn d (rdG none σ.fr x) σ r K
 | .raw op ty=>RAW P d op ty σ r K
 | .rv op xs=>∃ s,RBE P op xs σ s/\YE d s none σ r K
 | .rb op x xs=>∃ k h1 s,rdG none σ.fr x = .mp k/\WK (lkh k σ.hp) h1/\RBB P op (x :: xs) k (lkh k σ.hp) h1 σ s/\YE d s none ⟨σ.fr,(k,h1) :: σ.hp,σ.n,σ.N,σ.gs⟩ r K
 | i=>Yw P none d i σ r K
def ZwU (d:Option Nat) (σ : St) (r:KT) (K:RK):Prop:=YE d (.v undef) none σ r K
def GB (P:Program) (Y:Hd) (b:Bool) (j:Nat) (w:Bool) (d:Option Nat) (i:SI) (σ : St) (r:KT) (K:RK):Prop :=
 (b=w/\stp P Y d i σ r K)\/(b≠w/\ZwU d σ r K)\/Yw P (some (j,w)) d i σ r K
def gK (P:Program) (Y:Hd) (s:SV) (j:Nat) (w:Bool) (d:Option Nat) (i:SI) (σ : St) (r:KT) (K:RK):Prop :=
 match s with
 | .v (.bool b)=>GB P Y b j w d i σ r K
 | .gd _ _ (.v (.bool _))=>Yw P (some (j,w)) d i σ r K
 | _=>False
def st1 (P:Program) (Y:Hd) (io:Ins) (σ : St) (r:KT) (K:RK):Prop :=
 match io with
 | ⟨d,i,none,_⟩=>stp P Y d i σ r K
 | ⟨d,i,some (j,w),_⟩=>gK P Y (lk j σ.fr) j w d i σ r K
def rx (P:Program) (Y:Hd):List Ins->KT
 | [],σ,K=>K .n σ
 | io :: r,σ,K=>st1 P Y io σ (rx P Y r) K
def eqO:Operand->Operand->Bool
 | .tmp a,.tmp b=>a == b
 | .const a,.const b=>eqV a b
 | .global a,.global b=>a == b
 | .func a,.func b=>a == b
 | _,_=>false
theorem Z8:∀ {a b:Operand},eqO a b=true->a=b:=by
 intro a b h;unfold eqO at h;split at h<;>simp_all;exact Zbx h
def Zoh:List Operand->List Operand->Bool
 | [],[]=>true
 | a :: l,b :: m=>eqO a b && Zoh l m
 | _,_=>false
theorem Zc4:∀ {a b:List Operand},Zoh a b=true->a=b
 | [],[],_=>rfl
 | x :: xs,y :: ys,h=>by simp only [Zoh,Bool.and_eq_true] at h;rw [Z8 h.1,Zc4 h.2]
 | [],_ :: _,h=>by simp [Zoh] at h
 | _ :: _,[],h=>by simp [Zoh] at h
def ZDs:Option Operand->Option Operand->Bool
 | none,none=>true
 | some a,some b=>eqO a b
 | _,_=>false
theorem Yg:∀ {a b:Option Operand},ZDs a b=true->a=b
 | none,none,_=>rfl
 | some a,some b,h=>by rw [Z8 h]
 | none,some _,h=>by cases h
 | some _,none,h=>by cases h
def ZAP:List (Nat × Operand)->List (Nat × Operand)->Bool
 | [],[]=>true
 | (i,x) :: r,(j,y) :: l=>i == j && eqO x y && ZAP r l
 | _,_=>false
theorem Zc9:∀ {a b:List (Nat × Operand)},ZAP a b=true->a=b
 | [],[],_=>rfl
 | (i,x) :: r,(j,y) :: l,h=>by
  simp only [ZAP,Bool.and_eq_true,beq_iff_eq] at h;rw [h.1.1,Z8 h.1.2,Zc9 h.2]
 | [],_ :: _,h=>by simp [ZAP] at h
 | _ :: _,[],h=>by simp [ZAP] at h
def ZDI:Op->Op->Bool
 | .call ⟨.builtin b,as,ts⟩,.call ⟨.builtin b',as',ts'⟩=>decide (b=b') && Zoh as.toList as'.toList && decide (ts=ts')
 | .call ⟨.value f,as,ts⟩,.call ⟨.value f',as',ts'⟩=>eqO f f' && Zoh as.toList as'.toList && decide (ts=ts')
 | .defer ⟨.value f,as,ts⟩,.defer ⟨.value f',as',ts'⟩=>eqO f f' && Zoh as.toList as'.toList && decide (ts=ts')
 | .defer ⟨.builtin b,as,ts⟩,.defer ⟨.builtin b',as',ts'⟩=>decide (b=b') && Zoh as.toList as'.toList && decide (ts=ts')
 | .makeSlice t a b,.makeSlice t' a' b'=>t == t' && eqO a a' && eqO b b'
 | .slice t a l h m,.slice t' a' l' h' m'=>t == t' && eqO a a' && ZDs l l' && ZDs h h' && ZDs m m'
 | .makeMap t r,.makeMap t' r'=>t == t' && ZDs r r'
 | .buildSlice t n ps,.buildSlice t' n' ps'=>t == t' && n == n' && ZAP ps.toList ps'.toList
 | .lookup t a b c,.lookup t' a' b' c'=>t == t' && eqO a a' && eqO b b' && c == c'
 | .mapUpdate t a b c,.mapUpdate t' a' b' c'=>t == t' && eqO a a' && eqO b b' && eqO c c'
 | .insert t a b c,.insert t' a' b' c'=>t == t' && eqO a a' && eqO b b' && eqO c c'
 | .mapEntry t a b,.mapEntry t' a' b'=>t == t' && eqO a a' && eqO b b'
 | .entryStore t a b c,.entryStore t' a' b' c'=>t == t' && eqO a a' && eqO b b' && eqO c c'
 | .range t a,.range t' a'=>t == t' && eqO a a'
 | .next a s,.next a' s'=>eqO a a' && s == s'
 | .entry a,.entry a'=>eqO a a'
 | .typeAssert a t u c,.typeAssert a' t' u' c'=>eqO a a' && t == t' && u == u' && c == c'
 | .makeInterface t a,.makeInterface t' a'=>t == t' && eqO a a'
 | .panic a,.panic a'=>eqO a a'
 | .binOp b t x y u,.binOp b' t' x' y' u'=>decide (b=b') && t == t' && eqO x x' && eqO y y' && u == u'
 | .convert s d x,.convert s' d' x'=>s == s' && d == d' && eqO x x'
 | .fieldAddr t a f,.fieldAddr t' a' f'=>t == t' && eqO a a' && f == f'
 | .indexAddr t a f,.indexAddr t' a' f'=>t == t' && eqO a a' && eqO f f'
 | .load t a,.load t' a'=>t == t' && eqO a a'
 | .store t a b,.store t' a' b'=>t == t' && eqO a a' && eqO b b'
 | _,_=>false
theorem W0 {a b:Op} (h:ZDI a b=true):a=b:=by
 have harr:∀ {x y:Array Operand},Zoh x.toList y.toList=true->x=y:=λh=>Array.toList_inj.1 (Zc4 h);unfold ZDI at h;split at h<;>(try simp only [Bool.and_eq_true,decide_eq_true_eq,beq_iff_eq] at h)
 all_goals first
  | (cases h;done)
  | (obtain ⟨⟨h1,h2⟩,h3⟩:=h;replace h3:=Array.toList_inj.1 (Zc9 h3);subst_vars;rfl)
  | (obtain ⟨⟨⟨⟨h1,h2⟩,h3⟩,h4⟩,h5⟩:=h;(first | replace h1:=Z8 h1 | replace h1:=Yg h1 | replace h1:=harr h1 | skip);(first | replace h2:=Z8 h2 | replace h2:=Yg h2 | replace h2:=harr h2 | skip);(first | replace h3:=Z8 h3 | replace h3:=Yg h3 | replace h3:=harr h3 | skip);(first | replace h4:=Z8 h4 | replace h4:=Yg h4 | replace h4:=harr h4 | skip);(first | replace h5:=Z8 h5 | replace h5:=Yg h5 | replace h5:=harr h5 | skip);subst_vars;rfl)
  | (obtain ⟨⟨⟨h1,h2⟩,h3⟩,h4⟩:=h;(first | replace h1:=Z8 h1 | replace h1:=Yg h1 | replace h1:=harr h1 | skip);(first | replace h2:=Z8 h2 | replace h2:=Yg h2 | replace h2:=harr h2 | skip);(first | replace h3:=Z8 h3 | replace h3:=Yg h3 | replace h3:=harr h3 | skip);(first | replace h4:=Z8 h4 | replace h4:=Yg h4 | replace h4:=harr h4 | skip);subst_vars;rfl)
  | (obtain ⟨⟨h1,h2⟩,h3⟩:=h;(first | replace h1:=Z8 h1 | replace h1:=Yg h1 | replace h1:=harr h1 | skip);(first | replace h2:=Z8 h2 | replace h2:=Yg h2 | replace h2:=harr h2 | skip);(first | replace h3:=Z8 h3 | replace h3:=Yg h3 | replace h3:=harr h3 | skip);subst_vars;rfl)
  | (obtain ⟨h1,h2⟩:=h;(first | replace h1:=Z8 h1 | replace h1:=Yg h1 | replace h1:=harr h1 | skip);(first | replace h2:=Z8 h2 | replace h2:=Yg h2 | replace h2:=harr h2 | skip);subst_vars;rfl)
  | (replace h:=Z8 h;subst_vars;rfl)
def ZD3 (C:Cx) (E:Env) (hp:Lh) (n:Nat->Prop) (w w':World) (m:Nat) (xs:Rr) (T:TypeId) (v:Value):Prop :=
 (xs=[]/\∃ a,v = .slice a 0 0)\/∃ cap cs,v = .slice (some ⟨w.heap.size,0,none⟩) xs.length cap/\w'.heap[w.heap.size]? = some (.cells cs T (0,0))/\cs.size=cap * m/\(xs.length<=cap/\cap≠0)/\xs.length<=9223372036854775807 /\
  (∀ r ∈ xs,r.length=m)/\RL w E n (okS C E hp) xs.flatten (cs.toList.take (xs.length * m))
theorem VW {E:Env} {n ok:Nat->Prop} {w:World} {m:Nat} {s:SV} {y:Value} {ys:Rr} (hR:R w E n ok s y) (h:ZfD m s=some ys) :
 ∃ cs,UT w y m ys.length cs/\RL w E n ok ys.flatten cs/\∀ r ∈ ys,r.length=m:=by
 unfold ZfD at h;split at h
 . rename_i m' xs;obtain ⟨hb,rfl⟩:=VM h;have:=Nat.eq_of_beq_eq_true hb;subst this;obtain ⟨cs,h1,h2,_⟩:=Zdr hR;exact ⟨cs,h1,h2,ZfB hR⟩
 . simp at h;subst h;simp only [R] at hR;subst hR;exact ⟨[],Zb4,by simp [RL],λr h=>by simp at h⟩
 . cases h
theorem Wa {m:Nat}:∀ {ys:Rr},(∀ r ∈ ys,r.length=m)->ys.flatten.length=ys.length * m
 | [],_=>by simp
 | y :: ys,h=>by
  rw [List.flatten_cons,List.length_append,h y (by simp),Wa (λr hr=>h r (by simp [hr])),List.length_cons,Nat.add_mul];omega
section
variable {P:Program} {C:Cx} {E:Env} {hp:Lh} {n:Nat->Prop} {a:Act} {w:World} {o:Oper}
theorem ZmM {m b:Nat} {T:TypeId} {x y:X} {sx sy:SV} {ys:Rr} (hc:ZT P (.cln m b T x y) o.op=true) (hRx:R w E n (okS C E hp) sx (evX a x)) (hRy:R w E n (okS C E hp) sy (evX a y))
 (hx:Zm5 m sx=some []) (hy:ZfD m sy=some ys) (hlim:ys.length * b<=140737488355328) :
 ∃ v w',(execOp a.eval o).run P w = .ok (.value v) w'/\Below w.heap.size w w'/\ZD3 C E hp n w w' m ys T v:=by
 obtain ⟨dst,op,ty,pos,after,guard⟩:=o;cases op<;>simp [ZT] at hc
 rename_i c;obtain ⟨callee,as,ts⟩:=c;cases callee<;>try (simp at hc;done)
 rename_i bi;cases bi<;>try (simp at hc;done)
 simp only [Bool.and_eq_true,beq_iff_eq,Nat.blt_eq] at hc;obtain ⟨⟨⟨⟨⟨hc,hsz⟩,hby⟩,hb0⟩,hz⟩,hm0⟩:=hc;split at hz
 case h_2=>cases hz
 rename_i z hz';simp only [beq_iff_eq] at hz;split at hc
 . rename_i x' y' t t' e1 e2;simp only [Bool.and_eq_true,beq_iff_eq] at hc;obtain ⟨⟨⟨rfl,c1⟩,c2⟩,c3⟩:=hc;have c3':P.underlying t=some (.slice T):=by split at c3<;>simp_all
   have has:as.map a.eval = #[evX a x,evX a y]:=by apply Array.toList_inj.1;simp [e1,Zh c1 a,Zh c2 a]
   have hts:ts = #[t,t]:=by apply Array.toList_inj.1;simpa using e2
   obtain ⟨cx,x1,x2,x3,a0,x4⟩:=Zdl hRx hx;obtain ⟨cy,y1,y2,y3⟩:=VW hRy hy;have hlim2:0+ys.length<=140737488355328:=by rw [Nat.zero_add];exact Nat.le_trans (Nat.le_mul_of_pos_right _ hb0) hlim
   obtain ⟨v,w',q1,q2,q3⟩:=Ua (P:=P) (ty:=ty) (lx:=0) c3' hsz hby hz' x1 ⟨a0,x4⟩ y1 (by rw [Nat.zero_add];exact hlim) hlim2;have hcx:cx=[]:=by simp only [List.flatten_nil,RL] at x2;exact x2
   subst hcx;refine ⟨v,w',by simp [execOp,resolve,has,hts,invoke,builtin,q1],q2,?_⟩;rcases q3 with ⟨g0,rfl,rfl⟩ | ⟨g0,cap,g1,rfl,rfl⟩
   . exact .inl ⟨List.eq_nil_of_length_eq_zero g0,a0,x4⟩
   . have hcy:cy.length=ys.length * m:=by rw [ZO y2];exact Wa y3
     refine .inr ⟨cap,_,by simp,heap_alloc_new _ _,?_,⟨by omega,by omega⟩,by omega,y3,?_⟩
     . simp only [Array.size_append,List.size_toArray,List.length_nil,Builtin.zeroCells,Array.size_map,Array.size_range,hz,hcy,Nat.zero_add];rw [<- Nat.add_mul];congr 1;omega
     . have e:∀ Z:Array Value,List.take (ys.length * m) (([]:LZ).toArray ++ cy.toArray ++ Z).toList=cy:=λZ=>by rw [<- hcy];simp
       rw [e];exact y2
 . cases hc
theorem Zf5 {m b k:Nat} {kd:IntKind} {z:LZ} {T:TypeId} {x:X} (hc:ZT P (.mks m b z T x) o.op=true) (hx:evX a x = .int kd k) (hlim:k * b<=140737488355328) :
 ∃ v w',(execOp a.eval o).run P w = .ok (.value v) w'/\Below w.heap.size w w'/\ZD3 C E hp n w w' m (List.replicate k (lit z)) T v:=by
 obtain ⟨dst,op,ty,pos,after,guard⟩:=o;cases op<;>simp [ZT] at hc
 rename_i t z1 z2;obtain ⟨⟨⟨⟨⟨⟨⟨c1,c2⟩,c3⟩,hsz⟩,hby⟩,hb0⟩,hm0⟩,hz⟩:=hc;split at hz
 case h_2=>cases hz
 rename_i zv hz';simp only [Bool.and_eq_true,beq_iff_eq] at hz;obtain ⟨hz1,hz2⟩:=hz;have c3':P.underlying t=some (.slice T):=by split at c3<;>simp_all
 have hzl:=WO hz1;have hlz:(lit z).length=m:=by rw [<- hz2,<- Array.length_toList,hzl,ZcS];simp
 have hk:k<=140737488355328:=Nat.le_trans (Nat.le_mul_of_pos_right _ hb0) hlim;have hfl:(List.replicate k (lit z)).flatten.length=k * m:=by rw [Wa (m:=m) (λr hr=>by rw [List.eq_of_mem_replicate hr,hlz])];simp
 refine ⟨.slice (some ⟨w.heap.size,0,none⟩) k k,w.alloc (.cells (List.replicate k zv.cells.toList).flatten.toArray T),?_,(Below.refl _ _).alloc (Nat.le_refl _) _,?_⟩
 . simp only [execOp,Zh c1 a,Zh c2 a,hx];rw [Sem.run_bind,ZlL c3' hsz hby hz' hz2 hlim hb0 hm0];rfl
 . by_cases hk0:k=0
   . subst hk0;exact .inl ⟨rfl,_,rfl⟩
   . have hlen:(List.replicate k z).flatten.length=k * m:=by
      have:=hfl;rw [ZcS,show (List.replicate k (List.map SV.v z)).flatten=((List.replicate k z).flatten).map SV.v from by simp,List.length_map] at this;exact this
     rw [hzl];refine .inr ⟨k,_,by simp,heap_alloc_new _ _,by simpa using hlen,⟨by simp,hk0⟩,by simp;omega,λr hr=>by rw [List.eq_of_mem_replicate hr,hlz],?_⟩;rw [List.length_replicate,List.take_of_length_le (Nat.le_of_eq hlen),ZcS];rw [show (List.replicate k (List.map SV.v z)).flatten=((List.replicate k z).flatten).map SV.v from by simp];exact ZDj _
theorem Zll {t e:TypeId} (d:Nat) (ad:Option Addr) (l c:Nat) (h:P.underlying t=some (.slice e)):(Op.equalIn (d+1) t (.slice ad l c) (.slice none 0 0)).run P w = .ok ad.isNone w:=by
 cases ad<;>simp [Op.equalIn,run_underlying h]
theorem ZhI {t e:TypeId} (ad:Option Addr) (l c:Nat) (h:P.underlying t=some (.slice e)):(binOp .eql t (.slice ad l c) (.slice none 0 0)).run P w = .ok (.bool ad.isNone) w:=by
 simp only [binOp,Sem.run_bind,show (Op.equal t (.slice ad l c) (.slice none 0 0)).run P w = .ok ad.isNone w from Zll 9999 ad l c h,Result.andThen_ok,Sem.run_pure]
theorem Zv0 {x:X} {c:Bool} {m:Nat} {xs:Rr} {ok:Nat->Prop} (hc:ZT P (.isn x) o.op=true) (hRx:R w E n ok (.sl c m xs) (evX a x)) :
 ∃ b:Bool,(b=true->xs=[])/\(execOp a.eval o).run P w = .ok (.value (.bool b)) w:=by
 simp only [R] at hRx;obtain ⟨ad,len,cap,q0,q1,_,_,q3⟩:=hRx;obtain ⟨dst,op,ty,pos,after,guard⟩:=o;simp only at hc;cases op<;>simp [ZT] at hc
 rename_i b t x' y _;obtain ⟨⟨⟨hb,hx'⟩,hy⟩,ht⟩:=hc;cases b<;>simp at hb
 split at hy
 case h_2=>cases hy
 have hu:∃ e,P.underlying t=some (.slice e):=by
  split at ht
  . exact ⟨_,by assumption⟩
  . cases ht
 obtain ⟨e,hu⟩:=hu;refine ⟨ad.isNone,λhb=>?_,?_⟩
 . rcases q3 with q3 | ⟨b0,off,q3,_⟩
   . exact q3
   . rw [q3] at hb;cases hb
 . have hev:a.eval x' = .slice ad len cap:=by rw [Zh hx' a,q0]
   have hk:∀ v:Value,a.eval (.const v)=v:=λ_=>rfl;have hg:∀ y:Operand,(eqGuard .eql t x' y (.slice ad len cap) (.slice none 0 0)).run P w = .ok () w:=λ_=>rfl;simp only [execOp,hev,hk,Sem.run_bind,hg,Result.andThen_ok,ZhI ad len cap hu];rfl
end
def Zog (P:Program) (i:SI) (o:Oper):Bool :=
 match i with | .raw op ty=>ZDI op o.op && ty == o.type | .rv op _=>ZDI op o.op | .rb op _ _=>ZDI op o.op | i=>ZT P i o.op
def VN (P:Program) (ops:Array Oper) (io:Ins) (o:Oper):Bool :=
 decide (io.d=o.dst) && Zog P io.i o &&
  (match io.g,o.guard with
   | none,none=>true
   | some (t,w),some (j,w')=>w == w' && (match (ops[j]?).bind (·.dst) with | some t'=>t == t' | none=>false)
   | _,_=>false)
def ZaQ (P:Program) (ops:Array Oper):List Ins->List Oper->Bool
 | [],[]=>true
 | io :: r,o :: os=>VN P ops io o && ZaQ P ops r os
 | _,_=>false
section
variable {P:Program} {C:Cx} {E:Env} {σ : St} {a:Act} {w:World}
theorem ZeQ {g:Option (Nat × Bool)} (h:Sim C E σ a w) (i:SI):∀ p ∈ opG g i,geP p.1 σ.fr->R w E (ltn σ.n) (okS C E σ.hp) (rdG p.1 σ.fr p.2) (evX a p.2) :=
 λp _ hg=>YQ (Zy h.hs) h.fr hg p.2
theorem Za5 {d:Option Nat} {s:SV} {r:KT} {K:RK} {y:Value} {w':World} (hp:YE d s none σ r K) (h:Sim C E σ a w) (hs:∀ j b u,s≠.gd j b u) (hb:Below w.heap.size w w')
 (hR:R w' E (ltn σ.n) (okS C E σ.hp) s y):∃ σ',r σ' K/\Sim C E σ' (a.put d y) w':=by
 have hst:ZM w w' (okS C E σ.hp) (okS C E σ.hp):=Yd hb;cases d with
 | none=>exact ⟨σ,hp,YJ h hst (λ_ _=>Ele.rfl) (Nat.le_refl _) (Xz h.hs hb)⟩
 | some t =>
  simp only [YE] at hp;cases hm:Xw t σ.gs
  . rw [hm] at hp;cases hN:Nat.blt t σ.N
    . rw [hN] at hp;exact hp.elim
    . rw [hN] at hp;cases hgs:gdS s<;>rw [hgs] at hp
      case true=>exact hp.elim
      simp only [ZBb] at hp;refine ⟨_,hp,Xs h hst (λ_ _=>Ele.rfl) (Nat.le_refl _) (Xz h.hs hb) (λhh=>?_) (by simpa [Nat.blt_eq] using hN) hs hR⟩;rw [ZU.2 hh] at hm;cases hm
  . rw [hm] at hp;exact hp.elim
theorem Zfd {d:Option Nat} {s:SV} {r:KT} {K:RK} {y:Value} {w':World} (hp:YE d s none σ r K) (h:Sim C E σ a w) (hs:∀ j b u,s≠.gd j b u) (hh:HSim C E σ.hp (ltn σ.n) w') (hst:ZM w w' (okS C E σ.hp) (okS C E σ.hp))
 (hR:R w' E (ltn σ.n) (okS C E σ.hp) s y):∃ σ',r σ' K/\Sim C E σ' (a.put d y) w':=by
 cases d with
 | none=>exact ⟨σ,hp,YJ h hst (λ_ _=>Ele.rfl) (Nat.le_refl _) hh⟩
 | some t =>
  simp only [YE] at hp;cases hm:Xw t σ.gs
  . rw [hm] at hp;cases hN:Nat.blt t σ.N
    . rw [hN] at hp;exact hp.elim
    . rw [hN] at hp;cases hgs:gdS s<;>rw [hgs] at hp
      case true=>exact hp.elim
      simp only [ZBb] at hp;refine ⟨_,hp,Xs h hst (λ_ _=>Ele.rfl) (Nat.le_refl _) hh (λhh=>?_) (by simpa [Nat.blt_eq] using hN) hs hR⟩;rw [ZU.2 hh] at hm;cases hm
  . rw [hm] at hp;exact hp.elim
theorem UN {s:SV} {y:Value} {n ok} (h:R w E n ok s y):∀ j b u,s≠.gd j b u:=by rintro j b u rfl;simp only [R] at h
theorem Zz6 {o:Oper} {i:SI} {d:Option Nat} {s:SV} {r:KT} {K:RK} {next:Act->World->Prop} {Q:Exit->Act->World->Prop} (hd:o.dst=d) (hp:YE d s none σ r K) (hG:ZuO P o i none σ s) (h:Sim C E σ a w)
 (hn:∀ σ' E' a' w',r σ' K->Sim C E' σ' a' w'->next a' w'):o.wpq C.rd P a w next Q:=by
 refine hG C E (ltn σ.n) a w h.hs (ZeQ h i) trivial _ next Q λy w' ⟨hR,hb⟩=>?_;subst hd;obtain ⟨σ',h1,h2⟩:=Za5 hp h (UN hR) hb hR;exact hn σ' E _ w' h1 h2
theorem Zhd {t T:Nat} {c:Ls} {cs:Array Value} {r:KT} {K:RK} (hp:Zjj (some t) (some c) T σ r K) (h:Sim C E σ a w) (hR:RL w E (ltn σ.n) (okS C E σ.hp) c cs.toList) :
 ∃ E' σ',r σ' K/\Sim C E' σ' (a.put (some t) (.pointer (some ⟨w.heap.size,0,none⟩))) (w.alloc (.cells cs T)):=by
 simp only [Zjj] at hp;cases hm:Xw t σ.gs
 . rw [hm] at hp;cases hN:Nat.blt t σ.N
   . rw [hN] at hp;exact hp.elim
   . rw [hN] at hp;simp only [ZD7] at hp;obtain ⟨E',h1,h2,h3,h4⟩:=Zgu (q:=σ.n) (T:=T) h.hs (by simp [ltn]) hR;have hV:(λk=>ltn σ.n k\/k = σ.n)=ltn (σ.n+1):=by funext k;simp only [ltn,eq_iff_iff];omega
     rw [hV] at h3;refine ⟨E',_,hp,Xs h h4 h1 (by omega) h3 (λhh=>?_) (by simpa [Nat.blt_eq] using hN) (λ_ _ _ e=>by cases e) ?_⟩
     . rw [ZU.2 hh] at hm;cases hm
     . simp only [R,h2];exact ⟨by simp [ltn],trivial⟩
 . rw [hm] at hp;exact hp.elim
theorem Zhp {d:Option Nat} {m T:Nat} {xs:Rr} {r:KT} {K:RK} {v:Value} {w':World} (hp:Zsg d m xs T σ r K) (h:Sim C E σ a w) (hb:Below w.heap.size w w') (hv:ZD3 C E σ.hp (ltn σ.n) w w' m xs T v) :
 ∃ E' σ',r σ' K/\Sim C E' σ' (a.put d v) w':=by
 unfold Zsg at hp;split at hp
 case h_2=>cases hp
 rename_i t;cases hm:Xw t σ.gs
 . rw [hm] at hp;cases hN:Nat.blt t σ.N
   . rw [hN] at hp;exact hp.elim
   . rw [hN] at hp;simp only [Zsy] at hp;obtain ⟨E',h1,h2,h2',h3,h4⟩:=XA (q:=σ.n) (T:=T) h.hs (by simp [ltn]) hb hv;have hV:(λk=>ltn σ.n k\/k = σ.n)=ltn (σ.n+1):=by funext k;simp only [ltn,eq_iff_iff];omega
     rw [hV] at h3;refine ⟨E',_,hp,Xs h h4 h1 (by omega) h3 (λhh=>?_) (by simpa [Nat.blt_eq] using hN) (λ_ _ _ e=>by cases e) ?_⟩
     . rw [ZU.2 hh] at hm;cases hm
     . simp only [R,h2,h2'];refine ⟨by simp [ltn],by omega,trivial,?_⟩;rcases hv with ⟨_,a0,rfl⟩ | ⟨cap,cs,rfl,_⟩<;>rfl
 . rw [hm] at hp;exact hp.elim
theorem Xg:∀ {c:Ls} {ys:LZ} {n ok},Yu c=true->RL w E n ok c ys->∀ y ∈ ys,y.oneCell'=true
 | [],ys,_,_,_,h=>by simp only [RL] at h;subst h;intro y hy;simp at hy
 | s :: c,ys,n,ok,ha,h=>by
  simp only [Yu] at ha;cases h1:Zbd s
  . simp [h1] at ha
  . simp only [h1,cond_true] at ha;simp only [RL] at h;obtain ⟨y,r,rfl,h2,h3⟩:=h;intro z hz;simp at hz;rcases hz with rfl | hz
    . exact ZDm h2 h1
    . exact Xg ha h3 z hz
theorem XU:∀ (l:Ls) (o:Nat) (m:Ls),(ZJ l o m).length=l.length
 | [],0,[]=>rfl
 | [],0,_ :: _=>rfl
 | [],_+1,_=>rfl
 | _ :: _,0,[]=>rfl
 | _ :: l,0,_ :: m=>by simp [ZJ,XU l 0 m]
 | _ :: l,o+1,m=>by simp [ZJ,XU l o m]
theorem Zal:∀ (l l':Ls) (o:Nat) (c:Ls),o+c.length<=l.length->ZJ (l ++ l') o c=ZJ l o c ++ l'
 | [],l',0,[],_=>by cases l'<;>rfl
 | [],_,0,_ :: _,h=>by simp at h
 | [],_,_+1,_,h=>by simp at h
 | _ :: _,_,0,[],_=>rfl
 | x :: l,l',0,c :: m,h=>by simp only [List.cons_append,ZJ];rw [Zal l l' 0 m (by simp at h;omega)]
 | x :: l,l',o+1,m,h=>by simp only [List.cons_append,ZJ];rw [Zal l l' o m (by simp at h;omega)]
theorem Zbv:∀ (l l':Ls) (o:Nat) (c:Ls),ZJ (l ++ l') (l.length+o) c=l ++ ZJ l' o c
 | [],l',o,c=>by simp
 | x :: l,l',o,c=>by rw [List.cons_append,List.length_cons,show l.length+1+o=(l.length+o)+1 from by omega];simp only [ZJ,List.cons_append,Zbv l l' o c]
theorem Up {m o:Nat} {c:Ls}:∀ {xs:Rr} {j:Nat} {row:Ls},xs[j]? = some row->(∀ r ∈ xs,r.length=m)->o+c.length<=m ->
 (xs.set j (ZJ row o c)).flatten=ZJ xs.flatten (j * m+o) c
 | [],_,_,h,_,_=>by simp at h
 | x :: xs,0,row,h,hr,ho=>by
  simp at h;subst h;simp only [List.set_cons_zero,List.flatten_cons,Nat.zero_mul,Nat.zero_add];rw [Zal _ _ _ _ (by rw [hr x (by simp)];exact ho)]
 | x :: xs,j+1,row,h,hr,ho=>by
  simp at h;have:=Up (o:=o) (c:=c) h (λr hq=>hr r (by simp [hq])) ho;simp only [List.set_cons_succ,List.flatten_cons,this];have hx:=hr x (by simp);rw [show (j+1) * m+o=x.length+(j * m+o) from by rw [hx,Nat.add_mul];omega,Zbv]
theorem XL {l zs:LZ} {o N:Nat} (h1:o+zs.length<=N) (h2:N<=l.length):(ZP l o zs).take N=ZP (l.take N) o zs:=by
 apply List.ext_getElem?;intro j;rw [Yp _ _ _ _ (by simp;omega),List.getElem?_take,Yp _ _ _ _ (by omega),List.getElem?_take];by_cases h:j < N
 . simp [h]
 . simp only [if_neg h];rw [if_neg (by omega)]
theorem Zlf {pn:Bool} {res:SV} {hp':Lh} {n':Nat} {E':Env} {w':World} {y:Value} {d:Option Nat} {r:KT} {K:RK} {next:Act->World->Prop} {Q:Exit->Act->World->Prop} (hp:cmK pn res hp' n' d σ r K) (h:Sim C E σ a w)
 (hE:∀ k,k < σ.n->Ele E E' k k) (hn0:σ.n<=n') (hh:HSim C E' hp' (ltn n') w') (hR:R w' E' (ltn n') (okS C E' hp') res y) (hs:ZM w w' (okS C E σ.hp) (okS C E' hp'))
 (hn:∀ σ' E' a' w',r σ' K->Sim C E' σ' a' w'->next a' w')
 (hq:∀ s σ' E' w' y,K (.pan s) σ'->Sim C E' σ' a w'->R w' E' (ltn σ'.n) (okS C E' σ'.hp) s y->Q (.panic [{ v:=y,recovered:=false }]) a w') :
 ∀ o:Oper,o.dst=d->ZaU o a next Q (Zwo pn y) w':=by
 intro o hod;have hsim:Sim C E' ⟨σ.fr,hp',n',σ.N,σ.gs⟩ a w':=YJ h hs hE hn0 hh;cases pn
 . simp only [cmK] at hp;obtain ⟨σ',k1,k2⟩:=Za5 hp hsim (UN hR) (Below.refl _ _) hR;subst hod;exact hn σ' E' _ w' k1 k2
 . exact hq res _ E' w' y hp hsim hR
theorem Ze7 {f:FuncId} {args:Ls} {vs:LZ} {d:Option Nat} {r:KT} {K:RK} {next:Act->World->Prop} {Q:Exit->Act->World->Prop} (hp:ZdW P f args d σ r K) (h:Sim C E σ a w) (hR:RL w E (ltn σ.n) (okS C E σ.hp) args vs)
 (hn:∀ σ' E' a' w',r σ' K->Sim C E' σ' a' w'->next a' w')
 (hq:∀ s σ' E' w' y,K (.pan s) σ'->Sim C E' σ' a w'->R w' E' (ltn σ'.n) (okS C E' σ'.hp) s y->Q (.panic [{ v:=y,recovered:=false }]) a w') :
 Z4 P f=true/\∀ o:Oper,o.dst=d->Calls P f vs.toArray w (ZaU o a next Q):=by
 obtain ⟨hp0,n0,args0,Zz,ρ,hc,h1,h2,h3,h4,h5⟩:=hp;refine ⟨hc.bd,λoo hod=>(Zku ρ h.hs hc h1 h2 h3 h4 hR).mono λe w' ⟨o,E',y,k1,k2,k3,k4,k5,k6⟩=>?_⟩;rw [k6];exact Zlf (h5 o k1) h k2 (by omega) k3 k4 k5 hn hq oo hod
set_option maxHeartbeats 1000000 in
theorem VQ:∀ {l r:Ls},Yu l=true->Yu r=true->Yu (l ++ r)=true
 | [],_,_,h=>h
 | s :: l,r,h,h'=>by
  simp only [List.cons_append,Yu] at h ⊢;cases h1:Zbd s
  . simp [h1] at h
  . simp only [h1,cond_true] at h ⊢;exact VQ h h'
section
variable {hp:Lh} {n:Nat->Prop} {o:Oper}
theorem V2 {c:Bool} {p:Prop} (h:Zfq c p):c=true/\p:=by cases c;exact h.elim;exact ⟨rfl,h⟩
def cpD (sx:SV) (k v m i L:Nat) (xs:Rr):Prop:=(sx = .mr k v/\i=0/\L=xs.length)\/sx = .ms k v m i L
def cpS (sy:SV) (k v m:Nat) (xs ys:Rr):Prop:=ZfD m sy=some ys\/(sy = .mr k v/\ys=xs)\/∃ i' l',sy = .ms k v m i' l'/\i'+l'<=xs.length/\ys=(xs.drop i').take l'
theorem Zlo {d:Option Nat} {k v m i L:Nat} {xs:Rr} {T:TypeId} {s:SV} {σ : St} {r:KT} {K:RK} (h:Zuw d k v m i L xs T s σ r K):∃ ys,cpS s k v m xs ys/\CPY d k v m i L xs ys T σ r K:=by
 unfold Zuw at h;split at h
 . rename_i c m' ys;obtain ⟨h1,h2⟩:=V2 h;exact ⟨ys,.inl (by simp only [ZfD,h1,Zie]),h2⟩
 . exact ⟨[],.inl (by simp only [ZfD]),h⟩
 . obtain ⟨h1,h2⟩:=V2 h;obtain ⟨h3,h4⟩:=Yt h1;have:=Nat.eq_of_beq_eq_true h3;subst this;have:=Nat.eq_of_beq_eq_true h4;subst this;exact ⟨xs,.inr (.inl ⟨rfl,rfl⟩),h2⟩
 . rename_i k' v' m' i' l';obtain ⟨h1,h0,h2⟩:=V2 h;obtain ⟨h5,h6⟩:=Yt h1;obtain ⟨h3,h4⟩:=Yt h5;have:=Nat.eq_of_beq_eq_true h3;subst this;have:=Nat.eq_of_beq_eq_true h4;subst this;have:=Nat.eq_of_beq_eq_true h6;subst this;exact ⟨_,.inr (.inr ⟨i',l',rfl,h0,rfl⟩),h2⟩
 . exact h.elim
theorem Zu4 {d:Option Nat} {m:Nat} {sx sy:SV} {σ : St} {r:KT} {K:RK} (h:ZAI d m sx sy σ r K) :
 ∃ k v i L xs ys T,cpD sx k v m i L xs/\lkh k σ.hp = .row v m xs T/\cpS sy k v m xs ys/\CPY d k v m i L xs ys T σ r K:=by
 unfold ZAI at h;split at h
 . rename_i k v;unfold Zwy at h;split at h
   case h_2=>exact h.elim
   rename_i v' m' xs T hk;obtain ⟨h1,h2⟩:=V2 h;obtain ⟨h3,h4⟩:=Yt h1;have:=Nat.eq_of_beq_eq_true h3;subst this;have:=Nat.eq_of_beq_eq_true h4;subst this;obtain ⟨ys,h5,h6⟩:=Zlo h2;exact ⟨k,v,0,xs.length,xs,ys,T,.inl ⟨rfl,rfl,rfl⟩,hk,h5,h6⟩
 . rename_i k v m' i l;obtain ⟨h0,hq⟩:=V2 h;clear h;have:=Nat.eq_of_beq_eq_true h0;subst this;unfold Zwy at hq;split at hq
   case h_2=>exact hq.elim
   rename_i v' m' xs T hk;obtain ⟨h1,h2⟩:=V2 hq;obtain ⟨h3,h4⟩:=Yt h1;have:=Nat.eq_of_beq_eq_true h3;subst this;have:=Nat.eq_of_beq_eq_true h4;subst this;obtain ⟨ys,h5,h6⟩:=Zlo h2;exact ⟨k,v,i,l,xs,ys,T,.inr rfl,hk,h5,h6⟩
 . exact h.elim
theorem Vx {m:Nat}:∀ {xs:Rr} (i:Nat),(∀ r ∈ xs,r.length=m)->(xs.take i).flatten=xs.flatten.take (i * m)
 | [],i,_=>by simp
 | x :: xs,0,_=>by simp
 | x :: xs,i+1,h=>by
  have hx:=h x (by simp);rw [List.take_succ_cons,List.flatten_cons,List.flatten_cons,Vx i (λr hr=>h r (by simp [hr])),List.take_append,List.take_of_length_le (l:=x) (by rw [hx,Nat.add_mul];omega),hx];congr 2;rw [Nat.add_mul];omega
theorem Zbt {m:Nat}:∀ {xs:Rr} (i:Nat),(∀ r ∈ xs,r.length=m)->(xs.drop i).flatten=xs.flatten.drop (i * m)
 | [],i,_=>by simp
 | x :: xs,0,_=>by simp
 | x :: xs,i+1,h=>by
  have hx:=h x (by simp);rw [List.drop_succ_cons,List.flatten_cons,Zbt i (λr hr=>h r (by simp [hr])),List.drop_append,List.drop_of_length_le (l:=x) (by rw [hx,Nat.add_mul];omega),hx,List.nil_append];congr 1;rw [Nat.add_mul];omega
theorem Zcp {P:Program} {w w':World} {y:Value} {m len N:Nat} {cs:LZ} (h:UT w y m len cs) (hN:N<=len) (hw:∀ a,w'.cell? a=w.cell? a):(Builtin.firstCells m N y).run P w' = .ok (cs.take (N * m)).toArray w':=by
 obtain ⟨a,cap,rfl,_,hl,h⟩:=h;have hle:N * m<=len * m:=Nat.mul_le_mul_right m hN;rcases h with rfl | ⟨b,off,rfl,h⟩
 . have:cs=[]:=by simpa using hl
   subst this;have hN0:N=0:=by omega
   subst hN0;cases a with
   | none=>simp [Builtin.firstCells]
   | some a=>simpa using run_firstCells_some w' m 0 a 0 cap [] (by simp) (λj v hj=>by simp at hj)
 . exact run_firstCells_some w' m N _ len cap _ (by rw [List.length_take,hl];omega) (λj v hj=>by
    rw [Y7,hw];have hj':j < N * m:=by have:=(List.getElem?_eq_some_iff.1 hj).1;simp at this;omega
    rw [List.getElem?_take_of_lt hj'] at hj;exact h j v hj)
theorem Zf1 {hp hp':Lh} {n:Nat->Prop} (h:HSim C E hp n w) (hl:∀ j,lkh j hp'=lkh j hp):HSim C E hp' n w/\ZM w w (okS C E hp) (okS C E hp'):=by
 have e:okS C E hp'=okS C E hp:=by funext b;simp only [okS,hl]
 exact ⟨⟨λk hk=>by rw [hl];exact h.kn k hk,λk=>by rw [hl,e];exact h.bk k,λk k' b h1 h2=>by rw [hl] at h1 h2;exact h.dj k k' b h1 h2,λk b h1=>by rw [hl] at h1;exact h.lo k b h1,h.kp,h.pin⟩,λb hb _=>⟨by rw [e];exact hb,rfl⟩⟩
theorem ZtS {n ok:Nat->Prop} {k v m i l:Nat} {xs:Rr} {T:TypeId} {y:Value} (hb:Yr w E n ok k (.row v m xs T)) (hR:R w E n ok (.ms k v m i l) y) (hl:i+l<=xs.length) :
 ∃ cs,UT w y m l cs/\RL w E n ok ((xs.drop i).take l).flatten cs/\∀ r ∈ (xs.drop i).take l,r.length=m:=by
 simp only [R] at hR;obtain ⟨_,_,a,len,cap,g1,g2,rfl⟩:=hR;simp only [Yr] at hb;have hrl:∀ {zs:Rr},(∀ r ∈ zs,r.length=m)->∀ r ∈ (zs.drop i).take l,r.length=m:=λh r hr=>h r (List.mem_of_mem_drop (List.mem_of_mem_take hr));rcases hb with ⟨_,⟨rfl,a0,h⟩ | ⟨b,cap',cs,h1,h2,h3,⟨h4,_⟩,h5,h6,h7⟩⟩
 . have hl0:l=0:=by simp at hl;omega
   subst hl0;exact ⟨[],⟨_,_,rfl,Nat.zero_le _,by simp,.inl rfl⟩,by simp [RL],λr hr=>by simp at hr⟩
 . rw [h1] at g1;simp at g1;obtain ⟨rfl,rfl,rfl⟩:=g1;have e1:((xs.drop i).take l).flatten=(xs.flatten.drop (i * m)).take (l * m):=by
    rw [Vx l (λr hr=>h6 r (List.mem_of_mem_drop hr)),Zbt i h6]
   refine ⟨(((cs.toList.take (xs.length * m)).drop (i * m)).take (l * m)),?_,by rw [e1];exact X8 _ (Vb _ h7),hrl h6⟩;by_cases hl0:l=0
   . subst hl0;exact ⟨_,_,rfl,Nat.zero_le _,by simp,.inl rfl⟩
   . rw [if_neg (by omega)];have hmm:i * m+l * m<=xs.length * m:=by rw [<- Nat.add_mul];exact Nat.mul_le_mul_right m hl
     have hmc:xs.length * m<=cap' * m:=Nat.mul_le_mul_right m h4;refine ⟨_,_,rfl,by omega,?_,.inr ⟨b,i * m,by simp [Y7],λj c hj=>?_⟩⟩
     . simp only [List.length_take,List.length_drop,Array.length_toList,h3];omega
     . rw [cell_of_row _ _ _ _ _ _ h2];have hj':j < l * m:=by have:=(List.getElem?_eq_some_iff.1 hj).1;simp at this;omega
       rw [List.getElem?_take_of_lt hj',List.getElem?_drop,List.getElem?_take_of_lt (by omega)] at hj;simpa using hj
theorem ZnZ {m k v i L:Nat} {T:TypeId} {x y:X} {sx sy:SV} {xs ys:Rr} (hc:ZT P (.cpy m x y) o.op=true) (hh:HSim C E hp n w) (hkk:lkh k hp = .row v m xs T) (hD:cpD sx k v m i L xs) (hRx:R w E n (okS C E hp) sx (evX a x))
 (hS:cpS sy k v m xs ys) (hRy:R w E n (okS C E hp) sy (evX a y)) (h1:∀ c ∈ ys,Yu c=true) (hL:i+L<=xs.length) :
 ∃ w',(execOp a.eval o).run P w = .ok (.value (.int .i64 (min L ys.length:Nat))) w'/\HSim C E ((k,.row v m (xs.take i ++ (ys.take (min L ys.length) ++ xs.drop (i+min L ys.length))) T) :: hp) n w' /\
  ZM w w' (okS C E hp) (okS C E ((k,.row v m (xs.take i ++ (ys.take (min L ys.length) ++ xs.drop (i+min L ys.length))) T) :: hp)):=by
 have hb:=hh.bk k;rw [hkk] at hb;have hsrc:∃ cy,UT w (evX a y) m ys.length cy/\RL w E n (okS C E hp) ys.flatten cy/\∀ r ∈ ys,r.length=m:=by
  rcases hS with h | ⟨rfl,rfl⟩ | ⟨i',l',rfl,h2,rfl⟩
  . exact VW hRy h
  . simp only [R] at hRy;rw [hRy.2.2.1];exact Zay hb
  . obtain ⟨cs,q1,q2,q3⟩:=ZtS hb hRy h2;have:((xs.drop i').take l').length=l':=by rw [List.length_take,List.length_drop];omega
    rw [this];exact ⟨cs,q1,q2,q3⟩
 obtain ⟨cy,y1,y2,y3⟩:=hsrc;generalize hN:min L ys.length=N;have hNL:N<=L:=by omega
 have hNy:N<=ys.length:=by omega
 have hcyl:cy.length=ys.length * m:=by rw [ZO y2];exact Wa y3
 have hNm:N * m<=ys.length * m:=Nat.mul_le_mul_right m hNy;have hcn:(cy.take (N * m)).length=N * m:=by rw [List.length_take,hcyl];omega
 have hf:=Zcp (P:=P) (w':=w) y1 hNy (λ_=>rfl);have hone:∀ u ∈ cy,u.oneCell'=true:=by
  have:Yu ys.flatten=true:=by
   clear hN hNy hNm hcyl hcn hf y1 y2 y3 hS
   induction ys with
   | nil=>rfl
   | cons c ys ih=>rw [List.flatten_cons];exact VQ (h1 c (by simp)) (ih (λc hc=>h1 c (by simp [hc])))
  exact Xg this y2
 have hdst:∃ ad cx,evX a x = .slice ad L cx/\(N≠0->∃ b cap cs,E.hv k v = .slice (some ⟨b,0,none⟩) xs.length cap/\ad=some ⟨b,i * m,none⟩/\w.heap[b]? = some (.cells cs T (0,0)) /\
  cs.size=cap * m/\(xs.length<=cap/\cap≠0)/\xs.length<=9223372036854775807/\(∀ r ∈ xs,r.length=m)/\RL w E n (okS C E hp) xs.flatten (cs.toList.take (xs.length * m))):=by
  simp only [Yr] at hb;rcases hD with ⟨rfl,rfl,rfl⟩ | rfl
  . simp only [R] at hRx;rcases hb with ⟨_,⟨q0,a0,q1⟩ | ⟨b,cap,cs,q1,q2⟩⟩
    . exact ⟨a0,0,by rw [hRx.2.2.1,q1,q0];rfl,λh=>absurd (by rw [q0] at hNL;simpa using hNL) h⟩
    . exact ⟨_,cap,by rw [hRx.2.2.1,q1],λ_=>⟨b,cap,cs,q1,by simp,q2⟩⟩
  . simp only [R] at hRx;obtain ⟨_,_,a0,len,cap,g1,g2,g3⟩:=hRx;refine ⟨_,_,g3,λh=>?_⟩;rcases hb with ⟨_,⟨q0,a1,q1⟩ | ⟨b,cap',cs,q1,q2,q3,q4,q5⟩⟩
    . rw [q0] at hL;simp at hL;omega
    . rw [q1] at g1;simp at g1;obtain ⟨rfl,rfl,rfl⟩:=g1;exact ⟨b,cap',cs,q1,by rw [if_neg (by omega)];simp [Y7],q2,q3,q4,q5⟩
 obtain ⟨ad,cx,hx,hdst⟩:=hdst;obtain ⟨dst,op,ty,pos,after,guard⟩:=o;cases op<;>simp [ZT] at hc
 rename_i c;obtain ⟨callee,as,ts⟩:=c;cases callee<;>try (simp at hc;done)
 rename_i bi;cases bi<;>try (simp at hc;done)
 simp only at hc;split at hc
 case h_2=>cases hc
 rename_i x' y' t e1 e2;simp only [Bool.and_eq_true] at hc;obtain ⟨⟨c1,c2⟩,c3⟩:=hc;split at c3
 case h_2=>cases c3
 rename_i e hu;simp only [beq_iff_eq] at c3;have has:as.map a.eval = #[evX a x,evX a y]:=by apply Array.toList_inj.1;simp [e1,Zh c1 a,Zh c2 a]
 have hrun:∀ w',(match ad with | some b=>storeCells b (cy.take (N * m)) 0 | none=>pure ()).run P w = .ok () w'->(Builtin.copy_ ts ty #[evX a x,evX a y]).run P w = .ok (goInt N) w':=λw' hw'=>by
  have hmin:Nat.min ys.length L=N:=by rw [<- hN];exact Nat.min_comm _ _
  obtain ⟨ay,capy,hye,_,_⟩:=y1;rw [hye] at hf;rw [hx,hye];have hszr:(sizeOf e).run P w = .ok m w:=Yb c3;cases ad with
  | none =>
   simp only [Sem.run_pure] at hw';cases hw'
   simp [Builtin.copy_,e2,Sem.run_bind,run_underlying hu,Builtin.lenOf,hszr,hmin,hf]
  | some ad =>
   simp [Builtin.copy_,e2,Sem.run_bind,run_underlying hu,Builtin.lenOf,hszr,hmin,hf,hw']
 have hval:∀ w',(Builtin.copy_ ts ty #[evX a x,evX a y]).run P w = .ok (goInt N) w'->(execOp a.eval ⟨dst,.call ⟨.builtin .copy,as,ts⟩,ty,pos,after,guard⟩).run P w = .ok (.value (.int .i64 N)) w':=λw' h=>by
  simp [execOp,resolve,has,invoke,builtin,h];rfl
 by_cases hN0:N=0
 . subst hN0;have hnil:(match ad with | some b=>storeCells b (cy.take (0 * m)) 0 | none=>pure ()).run P w = .ok () w:=by
    cases ad<;>simp [storeCells]
   have hre:∀ j,lkh j ((k,.row v m (xs.take i ++ (ys.take 0 ++ xs.drop (i+0))) T) :: hp)=lkh j hp:=λj=>by
    rw [Zu];split
    . rename_i hj;subst hj;rw [hkk];simp
    . rfl
   obtain ⟨q1,q2⟩:=Zf1 hh hre;exact ⟨w,hval w (hrun w hnil),q1,q2⟩
 . obtain ⟨b,cap,cs,g1,rfl,g2,g3,g4,g5,g6,g7⟩:=hdst hN0;have hiN:i * m+N * m<=xs.length * m:=by rw [<- Nat.add_mul];exact Nat.mul_le_mul_right m (by omega)
   have hcap:xs.length * m<=cap * m:=Nat.mul_le_mul_right m g4.1;have g3':cs.toList.length=cap * m:=by rw [Array.length_toList];exact g3
   obtain ⟨w',s1,s2⟩:=Y3 (P:=P) (cy.take (N * m)) (w:=w) (b:=b) (o:=i * m) (i:=0) (cs:=cs.toList) (T:=T) (by simpa using g2) (by rw [hcn,g3'];omega) (λu hu'=>hone u (List.mem_of_mem_take hu'));have hlens:∀ r ∈ xs.take i ++ (ys.take N ++ xs.drop (i+N)),r.length=m:=λr hr=>by
    rcases List.mem_append.1 hr with hr | hr
    . exact g6 r (List.mem_of_mem_take hr)
    . rcases List.mem_append.1 hr with hr | hr
      . exact y3 r (List.mem_of_mem_take hr)
      . exact g6 r (List.mem_of_mem_drop hr)
   have hlen:(xs.take i ++ (ys.take N ++ xs.drop (i+N))).length=xs.length:=by
    simp only [List.length_append,List.length_take,List.length_drop];omega
   have hocc:∀ b',occ E k (.row v m (xs.take i ++ (ys.take N ++ xs.drop (i+N))) T) b'↔occ E k (lkh k hp) b':=λb'=>by rw [hkk];rfl
   have his:E.iss k=v+1:=by simp only [Yr] at hb;exact hb.1
   obtain ⟨q1,q2⟩:=XZ hh (hb:=.row v m (xs.take i ++ (ys.take N ++ xs.drop (i+N))) T) hocc (by rw [hkk];exact ⟨_,_,g1,g4.2⟩) s2 (λhst=>by
    simp only [Yr];refine ⟨his,.inr ⟨b,cap,_,by rw [hlen];exact g1,s2.here,by simp [Z5,g3],by rw [hlen];exact g4,by rw [hlen];exact g5,hlens,?_⟩⟩;rw [hlen,List.flatten_append,List.flatten_append,Vx i g6,Vx N y3,Zbt (i+N) g6];rw [List.toList_toArray,Nat.add_zero,XL (by rw [hcn];omega) (by rw [g3'];omega),VT _ _ _ (by rw [hcn,List.length_take,g3'];omega),hcn,<- Nat.add_mul];refine ZL hst.c (λ_ _=>Ele.rfl) (λ_ h=>h) _ _ ?_
    exact Yj (X8 _ g7) (Yj (X8 _ y2) (Vb _ g7)))
   exact ⟨w',hval w' (hrun w' s1),q1,q2⟩
theorem ZnJ {d:Option Nat} {k v m N:Nat} {xs:Rr} {T:TypeId} {σ : St} {r:KT} {K:RK} (h:ZCB d k v m xs N T σ r K):(d=none/\r ⟨σ.fr,(k,.row v m xs T) :: σ.hp,σ.n,σ.N,σ.gs⟩ K) \/
 ∃ t,d=some t/\t ∉ σ.gs/\t < σ.N/\r ⟨(t,.v (.int .i64 N)) :: σ.fr,(k,.row v m xs T) :: σ.hp,σ.n,σ.N,σ.gs⟩ K:=by
 unfold ZCB at h;split at h
 . rename_i t;cases hm:Xw t σ.gs<;>cases hN:Nat.blt t σ.N<;>rw [hm,hN] at h<;>first | exact h.elim | skip
   exact .inr ⟨t,rfl,λhh=>(by rw [ZU.2 hh] at hm;cases hm),by simpa [Nat.blt_eq] using hN,h⟩
 . exact .inl ⟨rfl,h⟩
theorem Znq {d:Option Nat} {k v m:Nat} {xs:Rr} {T:TypeId} {σ : St} {r:KT} {K:RK} (h:ZAJ d k v m xs T σ r K):∃ t,d=some t/\t ∉ σ.gs/\t < σ.N/\r ⟨(t,.mr k v) :: σ.fr,(k,.row v m xs T) :: σ.hp,σ.n,σ.N,σ.gs⟩ K:=by
 unfold ZAJ at h;split at h
 . rename_i t;cases hm:Xw t σ.gs<;>cases hN:Nat.blt t σ.N<;>rw [hm,hN] at h<;>first | exact h.elim | skip
   exact ⟨t,rfl,λhh=>(by rw [ZU.2 hh] at hm;cases hm),by simpa [Nat.blt_eq] using hN,h⟩
 . exact h.elim
def APO (m b:Nat) (s:SV) (k v v':Nat) (xs xs' ys:Rr):Prop :=
 (∀ c ∈ ys,Yu c=true)/\((s = .mr k v/\v'=v+1/\xs'=xs ++ ys/\(xs.length+ys.length) * b<=140737488355328)\/∃ i,s = .ms k v m 0 i/\v'=v/\xs'=xs.take i ++ ys/\xs.length=i+ys.length/\0 < ys.length)
theorem ZuT {b:Nat} {d:Option Nat} {m:Nat} {s:SV} {yo:Option Rr} {T:TypeId} {σ : St} {r:KT} {K:RK} (h:ZAQ b d m s yo T σ r K) :
 ∃ k v xs ys t v' xs',yo=some ys/\lkh k σ.hp = .row v m xs T/\APO m b s k v v' xs xs' ys /\
  d=some t/\t ∉ σ.gs/\t < σ.N/\r ⟨(t,.mr k v') :: σ.fr,(k,.row v' m xs' T) :: σ.hp,σ.n,σ.N,σ.gs⟩ K:=by
 unfold ZAQ at h;split at h
 case h_2=>exact h.elim
 rename_i ys;unfold ZC2 at h;split at h
 case h_3=>exact h.elim
 . rename_i k v;unfold ZD9 at h;split at h
   case h_2=>exact h.elim
   rename_i v' m' xs T' hk;cases hc:We (Nat.beq m m') (We (Nat.beq v v') (Nat.beq T T'))
   . rw [hc] at h;exact h.elim
   rw [hc] at h;simp only [ZCW] at h;obtain ⟨c1,c2⟩:=Yt hc;obtain ⟨c2,c3⟩:=Yt c2;have:=Nat.eq_of_beq_eq_true c1;subst this;have:=Nat.eq_of_beq_eq_true c2;subst this;have:=Nat.eq_of_beq_eq_true c3;subst this;obtain ⟨q1,q2,q3⟩:=h;obtain ⟨t,e1,e2,e3,e4⟩:=Znq q3;exact ⟨k,v,xs,ys,t,_,_,rfl,hk,⟨q1,.inl ⟨rfl,rfl,rfl,q2⟩⟩,e1,e2,e3,e4⟩
 . rename_i k v m2 j i;unfold ZEf at h;split at h
   case h_2=>exact h.elim
   rename_i v' m' xs T' hk;cases hc:We (We (Nat.beq m m2) (Nat.beq j 0)) (We (Nat.beq m m') (We (Nat.beq v v') (Nat.beq T T')))
   . rw [hc] at h;exact h.elim
   rw [hc] at h;simp only [ZCD] at h;obtain ⟨c0,c1⟩:=Yt hc;obtain ⟨d1,d2⟩:=Yt c0;obtain ⟨c1,c2⟩:=Yt c1;obtain ⟨c2,c3⟩:=Yt c2;have:=Nat.eq_of_beq_eq_true d1;subst this;have:=Nat.eq_of_beq_eq_true d2;subst this;have:=Nat.eq_of_beq_eq_true c1;subst this;have:=Nat.eq_of_beq_eq_true c2;subst this;have:=Nat.eq_of_beq_eq_true c3;subst this;obtain ⟨q1,q2,q3,q4⟩:=h;obtain ⟨t,e1,e2,e3,e4⟩:=Znq q4;exact ⟨k,v,xs,ys,t,_,_,rfl,hk,⟨q1,.inr ⟨i,rfl,rfl,rfl,q2,q3⟩⟩,e1,e2,e3,e4⟩
theorem Zsr {m b k v:Nat} {T:TypeId} {x y:X} {sy:SV} {xs ys:Rr} (hc:ZT P (.appm m b T x y) o.op=true) (hh:HSim C E hp n w) (hkk:lkh k hp = .row v m xs T) (hRx:R w E n (okS C E hp) (.mr k v) (evX a x)) (hRy:R w E n (okS C E hp) sy (evX a y))
 (hy:ZfD m sy=some ys) (h1:∀ c ∈ ys,Yu c=true) (hlim:(xs.length+ys.length) * b<=140737488355328) :
 ∃ y' w' E',(execOp a.eval o).run P w = .ok (.value y') w'/\(∀ k,n k->Ele E E' k k)/\HSim C E' ((k,.row (v+1) m (xs ++ ys) T) :: hp) n w'/\ZM w w' (okS C E hp) (okS C E' ((k,.row (v+1) m (xs ++ ys) T) :: hp)) /\
  R w' E' n (okS C E' ((k,.row (v+1) m (xs ++ ys) T) :: hp)) (.mr k (v+1)) y':=by
 obtain ⟨dst,op,ty,pos,after,guard⟩:=o;cases op<;>simp [ZT] at hc
 rename_i c;obtain ⟨callee,as,ts⟩:=c;cases callee<;>try (simp at hc;done)
 rename_i bi;cases bi<;>try (simp at hc;done)
 simp only [Bool.and_eq_true,beq_iff_eq,Nat.blt_eq] at hc;obtain ⟨⟨⟨⟨⟨hc,hsz⟩,hby⟩,hb0⟩,hz⟩,hm0⟩:=hc;split at hz
 case h_2=>cases hz
 rename_i z hz';simp only [beq_iff_eq] at hz;split at hc
 case h_2=>cases hc
 rename_i x' y' t t' e1 e2;simp only [Bool.and_eq_true,beq_iff_eq] at hc;obtain ⟨⟨⟨rfl,c1⟩,c2⟩,c3⟩:=hc;have c3':P.underlying t=some (.slice T):=by split at c3<;>simp_all
 have has:as.map a.eval = #[evX a x,evX a y]:=by apply Array.toList_inj.1;simp [e1,Zh c1 a,Zh c2 a]
 have hts:ts = #[t,t]:=by apply Array.toList_inj.1;simpa using e2
 obtain ⟨cy,y1,y2,y3⟩:=VW hRy hy;have hone:∀ u ∈ cy,u.oneCell'=true:=by
  have:Yu ys.flatten=true:=by
   clear y1 y2 y3 hy hlim
   induction ys with
   | nil=>rfl
   | cons c ys ih=>rw [List.flatten_cons];exact VQ (h1 c (by simp)) (ih (λc hc=>h1 c (by simp [hc])))
  exact Xg this y2
 have hlim2:xs.length+ys.length<=140737488355328:=Nat.le_trans (Nat.le_mul_of_pos_right _ hb0) hlim;have hcy:cy.length=ys.length * m:=by rw [ZO y2];exact Wa y3
 have hb:=hh.bk k;have hshow:=Zay (by rw [hkk] at hb;exact hb);simp only [R] at hRx;obtain ⟨hnk,hvi,hxv,_⟩:=hRx;obtain ⟨i,hi⟩:∃ i,P.info? T=some i:=by
  unfold XT at hsz;cases hq:P.info? T with
  | none=>simp [hq] at hsz
  | some i=>exact ⟨i,rfl⟩
 have hszi:i.size=m:=by simpa [XT,hi] using hsz
 have hbyi:i.bytes=b:=by simpa [W8,hi] using hby
 have hzi:i.zero=some z:=by simpa [YN,hi] using hz'
 have fin:∀ (y':Value) (w':World),(Builtin.append_ #[t,t] ty #[evX a x,evX a y]).run P w = .ok y' w'->y'.oneCell'=true->w'.os=w.os->w'.tape=w.tape->w'.output=w.output->w.heap.size<=w'.heap.size ->
  (∀ b,b < w.heap.size->¬ occ E k (lkh k hp) b->w'.heap[b]? = w.heap[b]?) ->
  ((xs ++ ys=[]/\∃ a,y' = .slice a 0 0)\/∃ b cap cs,y' = .slice (some ⟨b,0,none⟩) (xs ++ ys).length cap/\(occ E k (lkh k hp) b\/w.heap.size<=b)/\w'.heap[b]? = some (.cells cs T (0,0))/\cs.size=cap * m/\((xs ++ ys).length<=cap/\cap≠0)/\(xs ++ ys).length<=9223372036854775807 /\
   (∀ r ∈ xs ++ ys,r.length=m)/\RL w E n (okS C E hp) (xs ++ ys).flatten (cs.toList.take ((xs ++ ys).length * m))) ->
  ∃ y' w' E',(execOp a.eval ⟨dst,.call ⟨.builtin .append,as,ts⟩,ty,pos,after,guard⟩).run P w = .ok (.value y') w'/\(∀ k,n k->Ele E E' k k)/\HSim C E' ((k,.row (v+1) m (xs ++ ys) T) :: hp) n w'/\ZM w w' (okS C E hp) (okS C E' ((k,.row (v+1) m (xs ++ ys) T) :: hp)) /\
   R w' E' n (okS C E' ((k,.row (v+1) m (xs ++ ys) T) :: hp)) (.mr k (v+1)) y':=λy' w' hrun ho1 q1 q2 q3 q4 q5 q6=>by
  obtain ⟨E',g1,g2,g3,g4,g5,g6⟩:=Zhg hh hkk q1 q2 q3 q4 q5 q6;exact ⟨y',w',E',by simp [execOp,resolve,has,hts,invoke,builtin,hrun],g1,g5,g6,by simp only [R];exact ⟨g4,by omega,g2.symm,ho1⟩⟩
 rw [hkk] at hb;simp only [Yr] at hb;obtain ⟨his,hb⟩:=hb;have hsz':∀ w,(sizeOf T).run P w = .ok m w:=λw=>Yb hsz;by_cases h0:ys=[]
 . subst h0;have hcy0:cy=[]:=by simpa using hcy
   subst hcy0;have hf:=Yh (P:=P) (w':=w) y1 (λ_=>rfl);obtain ⟨ay,capy,hye,hcy',_,_⟩:=y1;refine fin (evX a x) w ?_ ?_ rfl rfl rfl (Nat.le_refl _) (λ_ _ _=>rfl) ?_
   . obtain ⟨cx,⟨ax,capx,hxe,hxl,_,hxs⟩,_⟩:=hshow;rw [hye] at hf;rw [hxv,hxe,hye];simp only [List.length_nil] at hf;cases ax<;>simp [Builtin.append_,Sem.run_bind,run_underlying c3',hsz',Builtin.lenOf,hf,storeCells,hxl]
   . rw [hxv];obtain ⟨cx,⟨ax,capx,hxe,_⟩,_⟩:=hshow;rw [hxe];rfl
   . rw [List.append_nil,hxv];rcases hb with hb | ⟨b',cap,cs,g1,g2,g3,g4,g5,g6,g7⟩
     . exact .inl hb
     . exact .inr ⟨b',cap,cs,g1,.inl (by rw [hkk];exact ⟨_,_,g1,g4.2⟩),g2,g3,g4,g5,g6,g7⟩
 . have hyl:ys.length≠0:=λe=>h0 (List.eq_nil_of_length_eq_zero e);obtain ⟨cx,x1,x2,x3⟩:=hshow;have hcx:cx.length=xs.length * m:=by rw [ZO x2];exact Wa x3
   have hlens:∀ r ∈ xs ++ ys,r.length=m:=λr hr=>by rcases List.mem_append.1 hr with h | h;exact x3 r h;exact y3 r h
   have hfx:=λw' (hw:∀ a,w'.cell? a=w.cell? a)=>Yh (P:=P) (w':=w') (by rw [hszi];exact x1:UT w (E.hv k v) i.size xs.length cx) hw;have hfy:=λw' (hw:∀ a,w'.cell? a=w.cell? a)=>Yh (P:=P) (w':=w') (by rw [hszi];exact y1:UT w (evX a y) i.size ys.length cy) hw;obtain ⟨ay,capy,hye,hcy',_,_⟩:=y1;obtain ⟨ax,capx,hxe,hxl,_,_⟩:=x1;rw [hxe] at hfx;rw [hye] at hfy;by_cases hfit:xs.length+ys.length<=capx
   ·
    rcases hb with ⟨g0,a0,g1⟩ | ⟨b',cap,cs,g1,g2,g3,g4,g5,g6,g7⟩
    . rw [hxe] at g1;simp at g1;omega
    . rw [hxe] at g1;simp at g1;obtain ⟨rfl,rfl⟩:=g1;have hle:xs.length * m+cy.length<=cs.toList.length:=by
       have e3:cs.toList.length=capx * m:=by rw [Array.length_toList];exact g3
       rw [hcy,e3,<- Nat.add_mul];exact Nat.mul_le_mul_right m hfit
      obtain ⟨w',s1,s2⟩:=Y3 (P:=P) cy (w:=w) (b:=b') (o:=xs.length * m) (i:=0) (cs:=cs.toList) (T:=T) (by simpa using g2) (by simpa using hle) hone;refine fin (.slice (some ⟨b',0,none⟩) (xs.length+ys.length) capx) w' ?_ rfl s2.os s2.tape s2.output (Nat.le_of_eq s2.size.symm) (λb hb hno=>s2.same b (λe=>by subst e;exact hno (by rw [hkk];exact ⟨_,_,hxe,g4.2⟩))) (.inr ⟨b',capx,(ZP cs.toList (xs.length * m) cy).toArray,by simp,.inl (by rw [hkk];exact ⟨_,_,hxe,g4.2⟩),by simpa using s2.here,by simp [Z5,g3],⟨by simpa using hfit,g4.2⟩,by simp;omega,hlens,?_⟩)
      . rw [hxv,hxe,hye];simp [Builtin.append_,Sem.run_bind,run_underlying c3',hsz',Builtin.lenOf,hfit,<- hszi,hfy w (λ_=>rfl),Y7];rw [hszi,s1];rfl
      . rw [List.flatten_append,List.length_append,Nat.add_mul,<- hcy];rw [List.toList_toArray,XL (Nat.le_refl _) hle];have e1:ZP (List.take (xs.length * m+cy.length) cs.toList) (xs.length * m) cy=List.take (xs.length * m) cs.toList ++ cy:=by
         rw [VT _ _ _ (by rw [List.length_take,Nat.min_eq_left hle];exact Nat.le_refl _),List.take_take,Nat.min_eq_left (by omega),List.drop_of_length_le (by rw [List.length_take,Nat.min_eq_left hle];exact Nat.le_refl _),List.append_nil]
        rw [e1];exact Yj g7 y2
   ·
    have hn':¬ (xs.length+ys.length<=capx):=hfit;have h63':¬ (9223372036854775807 < ((xs.length:Int)+(ys.length:Int))):=by omega
    have hfit':Builtin.nextslicecap (xs.length+ys.length) capx * i.bytes<=281474976710656:=growslice_fits (by omega) (by rw [hbyi];exact hlim);have h48':¬ (281474976710656 < Builtin.nextslicecap (xs.length+ys.length) capx * i.bytes):=by omega
    have hcap:xs.length+ys.length<=grownCap w (xs.length+ys.length) capx T:=by unfold grownCap;simp only [Question.cut];omega
    refine fin (.slice (some ⟨w.heap.size,0,none⟩) (xs.length+ys.length) (grownCap w (xs.length+ys.length) capx T)) (w.drew.alloc (.cells (cx.toArray ++ cy.toArray ++ Builtin.zeroCells z.cells (grownCap w (xs.length+ys.length) capx T - (xs.length+ys.length))) T)) ?_ rfl rfl rfl rfl
     (by have:=(Zaj.alloc (Nat.le_refl _) (.cells (cx.toArray ++ cy.toArray ++ Builtin.zeroCells z.cells (grownCap w (xs.length+ys.length) capx T - (xs.length+ys.length))) T):Below w.heap.size w _).size;exact this)
     (λb hb _=>(Zaj.alloc (Nat.le_refl _) _:Below w.heap.size w _).block b hb) (.inr ⟨w.heap.size,grownCap w (xs.length+ys.length) capx T,_,by rw [List.length_append],.inr (Nat.le_refl _),heap_alloc_new _ _,?_,⟨by simpa using hcap,by omega⟩,by simp;omega,hlens,?_⟩)
    . rw [hxv,hxe,hye];simp [Builtin.append_,run_underlying c3',sizeOf,typeInfo,zeroValue,hi,hzi,Builtin.lenOf,hn',h63',h48',Question.forced,hfx w.drew (λ_=>rfl),hfy w.drew (λ_=>rfl),newRow,grownCap];congr 2;apply Array.ext';simp [List.append_assoc]
    . simp only [Array.size_append,List.size_toArray,Builtin.zeroCells,Array.size_map,Array.size_range,hz,hcx,hcy];rw [<- Nat.add_mul,<- Nat.add_mul];congr 1;omega
    . have e:∀ Z:Array Value,List.take ((xs ++ ys).length * m) (cx.toArray ++ cy.toArray ++ Z).toList=cx ++ cy:=λZ=>by
       have e9:(cx.toArray ++ cy.toArray ++ Z).toList=(cx ++ cy) ++ Z.toList:=by simp
       rw [e9];exact List.take_left' (by rw [List.length_append,List.length_append,Nat.add_mul,hcx,hcy])
      rw [e,List.flatten_append];exact Yj x2 y2
theorem Zzl {m b k v i:Nat} {T:TypeId} {x y:X} {sy:SV} {xs ys:Rr} (hc:ZT P (.appm m b T x y) o.op=true) (hh:HSim C E hp n w) (hkk:lkh k hp = .row v m xs T) (hRx:R w E n (okS C E hp) (.ms k v m 0 i) (evX a x)) (hRy:R w E n (okS C E hp) sy (evX a y))
 (hy:ZfD m sy=some ys) (h1:∀ c ∈ ys,Yu c=true) (hlen:xs.length=i+ys.length) (hpos:0 < ys.length) :
 ∃ y' w' E',(execOp a.eval o).run P w = .ok (.value y') w'/\(∀ k,n k->Ele E E' k k)/\HSim C E' ((k,.row v m (xs.take i ++ ys) T) :: hp) n w'/\ZM w w' (okS C E hp) (okS C E' ((k,.row v m (xs.take i ++ ys) T) :: hp)) /\
  R w' E' n (okS C E' ((k,.row v m (xs.take i ++ ys) T) :: hp)) (.mr k v) y':=by
 obtain ⟨dst,op,ty,pos,after,guard⟩:=o;cases op<;>simp [ZT] at hc
 rename_i c;obtain ⟨callee,as,ts⟩:=c;cases callee<;>try (simp at hc;done)
 rename_i bi;cases bi<;>try (simp at hc;done)
 simp only [Bool.and_eq_true,beq_iff_eq,Nat.blt_eq] at hc;obtain ⟨⟨⟨⟨⟨hc,hsz⟩,hby⟩,hb0⟩,hz⟩,hm0⟩:=hc;split at hc
 case h_2=>cases hc
 rename_i x' y' t t' e1 e2;simp only [Bool.and_eq_true,beq_iff_eq] at hc;obtain ⟨⟨⟨rfl,c1⟩,c2⟩,c3⟩:=hc;have c3':P.underlying t=some (.slice T):=by split at c3<;>simp_all
 have has:as.map a.eval = #[evX a x,evX a y]:=by apply Array.toList_inj.1;simp [e1,Zh c1 a,Zh c2 a]
 have hts:ts = #[t,t]:=by apply Array.toList_inj.1;simpa using e2
 obtain ⟨cy,hsh,y2,y3⟩:=VW hRy hy;have hone:∀ u ∈ cy,u.oneCell'=true:=by
  have:Yu ys.flatten=true:=by
   clear hsh y2 y3 hy hlen hpos
   induction ys with
   | nil=>rfl
   | cons c ys ih=>rw [List.flatten_cons];exact VQ (h1 c (by simp)) (ih (λc hc=>h1 c (by simp [hc])))
  exact Xg this y2
 have hcyl:cy.length=ys.length * m:=by rw [ZO y2];exact Wa y3
 simp only [R] at hRx;obtain ⟨hnk,hvi,a0,len0,cap0,p1,p2,p3⟩:=hRx;have hb:=hh.bk k;rw [hkk] at hb;simp only [Yr] at hb;obtain ⟨his,hb⟩:=hb;rcases hb with ⟨g0,_⟩ | ⟨b',cap,cs,g1,g2,g3,g4,g5,g6,g7⟩
 . rw [g0] at hlen;simp at hlen;omega
 have p1':=p1;rw [p1] at g1;injection g1 with q1 q2 q3
 subst q1 q2 q3;have hsz':∀ w,(sizeOf T).run P w = .ok m w:=λw=>Yb hsz;rw [if_neg (show ¬ cap0 - 0=0 by omega)] at p3;have ex:evX a x = .slice (some ⟨b',0,none⟩) i cap0:=by
  rw [p3];simp [Addr.add]
 have hf:=Yh (P:=P) (w':=w) hsh (λ_=>rfl);obtain ⟨a2,cap2,ey,_⟩:=hsh;rw [ey] at hf;have hcsl:cs.toList.length=cap0 * m:=by rw [Array.length_toList];exact g3
 have hle:i * m+cy.length<=cs.toList.length:=by rw [hcyl,hcsl,<- Nat.add_mul];exact Nat.mul_le_mul_right m (by omega)
 obtain ⟨w',s1,s2⟩:=Y3 (P:=P) cy (w:=w) (b:=b') (o:=i * m) (i:=0) (cs:=cs.toList) (T:=T) (by simpa using g2) (by simpa using hle) hone;have hfit:i+ys.length<=cap0:=by omega
 have hrun:(Builtin.append_ #[t,t] ty #[evX a x,evX a y]).run P w = .ok (.slice (some ⟨b',0,none⟩) (i+ys.length) cap0) w':=by
  rw [ex,ey];simp only [Builtin.append_];simp [Sem.run_bind,run_underlying c3',hsz',Builtin.lenOf,hfit,hf,Y7];rw [s1];rfl
 have hxl:(xs.take i ++ ys).length=xs.length:=by simp;omega
 have hlens:∀ q ∈ xs.take i ++ ys,q.length=m:=λq hq=>by
  rcases List.mem_append.1 hq with hq | hq
  . exact g6 q (List.mem_of_mem_take hq)
  . exact y3 q hq
 have hocc:∀ b1,occ E k (.row v m (xs.take i ++ ys) T) b1↔occ E k (lkh k hp) b1:=λb1=>by rw [hkk];rfl
 obtain ⟨z1,z2⟩:=XZ hh (hb:=.row v m (xs.take i ++ ys) T) hocc (by rw [hkk];exact ⟨_,_,p1',g4.2⟩) s2 (λhst=>by
  simp only [Yr];refine ⟨his,.inr ⟨b',cap0,_,by rw [hxl];exact p1',s2.here,by simp [Z5,hcsl],by rw [hxl];exact g4,by rw [hxl];exact g5,hlens,?_⟩⟩;rw [hxl,hlen,List.flatten_append,List.toList_toArray,Nat.add_mul,<- hcyl,show i * m+0=i * m from rfl];have e1:(ZP cs.toList (i * m) cy).take (i * m+cy.length)=cs.toList.take (i * m) ++ cy:=by
   rw [XL (Nat.le_refl _) hle];rw [VT _ _ _ (by rw [List.length_take,Nat.min_eq_left hle];exact Nat.le_refl _),List.take_take,Nat.min_eq_left (by omega),List.drop_of_length_le (by rw [List.length_take,Nat.min_eq_left hle];exact Nat.le_refl _),List.append_nil]
  rw [e1];refine ZL hst.c (λ_ _=>Ele.rfl) (λ_ h=>h) _ _ (Yj ?_ y2);rw [Vx i g6];have:=X8 (i * m) g7;rw [List.take_take,Nat.min_eq_left (Nat.mul_le_mul_right m (by omega))] at this
  exact this)
 refine ⟨.slice (some ⟨b',0,none⟩) (i+ys.length) cap0,w',E,by simp [execOp,resolve,has,hts,invoke,builtin,hrun],λ_ _=>Ele.rfl,z1,z2,?_⟩;simp only [R];exact ⟨hnk,hvi,by rw [p1',hlen],rfl⟩
theorem ZlQ {m b k v v':Nat} {T:TypeId} {x y:X} {s sy:SV} {xs xs' ys:Rr} (hc:ZT P (.appm m b T x y) o.op=true) (hh:HSim C E hp n w) (hkk:lkh k hp = .row v m xs T) (hRx:R w E n (okS C E hp) s (evX a x)) (hRy:R w E n (okS C E hp) sy (evX a y))
 (hy:ZfD m sy=some ys) (ho:APO m b s k v v' xs xs' ys) :
 ∃ y' w' E',(execOp a.eval o).run P w = .ok (.value y') w'/\(∀ k,n k->Ele E E' k k)/\HSim C E' ((k,.row v' m xs' T) :: hp) n w'/\ZM w w' (okS C E hp) (okS C E' ((k,.row v' m xs' T) :: hp)) /\
  R w' E' n (okS C E' ((k,.row v' m xs' T) :: hp)) (.mr k v') y':=by
 obtain ⟨h1,⟨rfl,rfl,rfl,h2⟩ | ⟨i,rfl,rfl,rfl,h2,h3⟩⟩:=ho
 . exact Zsr hc hh hkk hRx hRy hy h1 h2
 . exact Zzl hc hh hkk hRx hRy hy h1 h2 h3
theorem APO.key {m b k v v':Nat} {s:SV} {xs xs' ys:Rr} (ho:APO m b s k v v' xs xs' ys):(∃ u,s = .mr k u)\/∃ u i,s = .ms k u m 0 i:=by
 obtain ⟨_,⟨rfl,_⟩ | ⟨i,rfl,_⟩⟩:=ho
 . exact .inl ⟨_,rfl⟩
 . exact .inr ⟨_,_,rfl⟩
end
theorem Zfk {o:Oper} {i:SI} {d:Option Nat} {r:KT} {K:RK} {next:Act->World->Prop} {Q:Exit->Act->World->Prop} (hd:d=o.dst) (hc:Zog P i o=true) (hp:stp P Y d i σ r K) (h:Sim C E σ a w)
 (hn:∀ σ' E' a' w',r σ' K->Sim C E' σ' a' w'->next a' w')
 (hq:∀ s σ' E' w' y,K (.pan s) σ'->Sim C E' σ' a w'->R w' E' (ltn σ'.n) (okS C E' σ'.hp) s y->Q (.panic [{ v:=y,recovered:=false }]) a w') (hY:Zdg P C Y):o.wpq C.rd P a w next Q:=by
 subst hd;unfold Zog at hc;have dflt:ZT P i o.op=true->Yw P none o.dst i σ r K->o.wpq C.rd P a w next Q:=λhc h'=>by
  obtain ⟨s,h1,h2⟩:=X2 hc h';exact Zz6 rfl h1 h2 h hn
 cases i<;>try (exact dflt hc hp)
 case rv op xs =>
  obtain ⟨s,h1,h2⟩:=hp;refine h1 o (W0 hc).symm C E σ.hp (ltn σ.n) a w next Q (λ_=>.inr (.inl rfl)) h.hs (λx _=>YQ (Zy h.hs) h.fr (g:=none) trivial x) λw' y k1 k2 k3=>?_;obtain ⟨σ',g1,g2⟩:=Zfd h2 h (UN k3) k1 k2 k3;exact hn σ' E _ w' g1 g2
 case rb op x xs =>
  obtain ⟨k,h1,s,g1,g2,g3,g4⟩:=hp;refine g3 o (W0 hc).symm C E σ.hp (ltn σ.n) a w next Q rfl h.hs (λx _=>YQ (Zy h.hs) h.fr (g:=none) trivial x) λw' y k1 k2 k3=>?_;have hS:=YJ h k2 (λ_ _=>Ele.rfl) (Nat.le_refl _) k1;obtain ⟨σ',q1,q2⟩:=Zfd (w:=w') (w':=w') g4 hS (UN k3) k1 (λb hb _=>⟨hb,rfl⟩) k3;exact hn σ' E _ w' q1 q2
 case box x m T =>
  simp only [stp,Zjj] at hp;split at hp
  . rename_i t c ht hcx;obtain ⟨dst,op,ty,pos,after,guard⟩:=o;simp only at ht hc;subst ht;cases op<;>simp [ZT] at hc
    obtain ⟨rfl,hx⟩:=hc;have hR:=YQ (Zy h.hs) h.fr (g:=none) trivial x;have hRc:=Zac hR hcx;obtain ⟨E',σ',h1,h2⟩:=Zhd (cs:=(evX a x).cells) (show Zjj (some t) (some c) T σ r K from hp) h hRc
    refine ZC (show (execOp a.eval _).run P w = .ok (.value (.pointer (some ⟨w.heap.size,0,none⟩))) (w.alloc (.cells (evX a x).cells T)) from by
     simp [execOp,Zh hx a,Instr.box,newVar,newRow]) (by simp) (hn σ' E' _ _ h1 h2)
  . cases hp
 case alloc z T =>
  simp only [stp] at hp;obtain ⟨dst,op,ty,pos,after,guard⟩:=o;cases dst with
  | none=>exact hp.elim
  | some t =>
   simp only at hc;cases op<;>simp [ZT] at hc
   obtain ⟨rfl,hz⟩:=hc;split at hz
   . rename_i zv hzv;have hzl:=WO hz;obtain ⟨E',σ',h1,h2⟩:=Zhd (cs:=zv.cells) hp h (by rw [hzl,ZcS];exact ZDj z)
     refine ZC (show (execOp a.eval _).run P w = .ok (.value (.pointer (some ⟨w.heap.size,0,none⟩))) (w.alloc (.cells zv.cells T)) from by
      simp [execOp,Instr.alloc,Sem.run_bind,WN hzv,newVar,newRow]) (by simp) (hn σ' E' _ _ h1 h2)
   . cases hz
 case st x y m =>
  simp only [stp,Zfe] at hp;split at hp
  . rename_i c hdn hcy;cases hk:chk c m
    . rw [hk] at hp;exact hp.elim
    . cases ho:Yu c
      . rw [hk,ho] at hp;exact hp.elim
      . rw [hk,ho] at hp;simp only [ZeP,stX] at hp;obtain ⟨dst,op,ty,pos,after,guard⟩:=o;simp only at hdn hc;subst hdn;cases op<;>simp [ZT] at hc
        rename_i t xa yv;obtain ⟨⟨hx,hy⟩,hsz⟩:=hc;have hRx:=YQ (Zy h.hs) h.fr (g:=none) trivial x;have hRy:=YQ (Zy h.hs) h.fr (g:=none) trivial y;have hRc:=Zac hRy hcy;have hlen:(evX a y).cells.size=m:=by
         have:=ZO hRc;rw [<- Array.length_toList,this];exact ZbS hk
        have h1:=Xg ho hRc;split at hp
        . rename_i k off hkx;unfold stC at hp;split at hp
          . rename_i l T hkk;cases hle:Nat.ble (off+m) l.length
            . rw [hle] at hp;exact hp.elim
            . rw [hle] at hp;simp only [ZAG] at hp;rw [hkx] at hRx;simp only [R] at hRx;have hb:=h.hs.bk k;rw [hkk] at hb;simp only [Yr] at hb;obtain ⟨cs,e1,e2⟩:=hb;have hcl:=ZO e2;have hle':off+m<=l.length:=Nat.le_of_ble_eq_true hle;obtain ⟨w',q1,q2⟩:=Wn (P:=P) (t:=t) (m:=m) (v:=evX a y) (o:=off) (cs:=cs.toList) (T:=T) hsz hlen (by simpa using e1) (by omega) h1;have hocc:∀ b,occ E k (.cells (ZJ l off c) T) b↔occ E k (lkh k σ.hp) b:=λb=>by rw [hkk];rfl
              obtain ⟨s1,s2⟩:=XZ h.hs (hb:=.cells (ZJ l off c) T) hocc (by rw [hkk];rfl) q2 (λhst=>by
               simp only [Yr]
               exact ⟨_,q2.here,by simpa using X6 off (ZL hst (λ_ _=>Ele.rfl) (λ_ h=>h) _ _ e2) (ZL hst (λ_ _=>Ele.rfl) (λ_ h=>h) _ _ hRc)⟩)
              have hsim:=YJ h s2 (λ_ _=>Ele.rfl) (Nat.le_refl _) s1
              refine ZC (show (execOp a.eval _).run P w = .ok .skip w' from by
               simp only [execOp,Zh hx a,Zh hy a,hRx.2,Instr.storeAt,Instr.sureAddr,Sem.run_bind,Sem.run_pure,Result.andThen_ok,q1]) (by simp) (hn _ E _ _ hp hsim)
          . cases hp
        . rename_i k vv m' j off hkx;unfold stR at hp;split at hp
          . rename_i v' m'' xs T hkk;cases hm:We (Nat.beq m' m'') (Nat.beq vv v')
            . rw [hm] at hp;exact hp.elim
            . rw [hm] at hp;simp only [ZAW] at hp;obtain ⟨hm,hvv⟩:=Yt hm;have:=Nat.eq_of_beq_eq_true hm;subst this;have:=Nat.eq_of_beq_eq_true hvv;subst this;obtain ⟨row,r1,r2,r3⟩:=hp;rw [hkx] at hRx;simp only [R] at hRx;obtain ⟨_,_,b,len,cap,g1,g2⟩:=hRx;have hb:=h.hs.bk k;rw [hkk] at hb;simp only [Yr] at hb;rcases hb with ⟨hi0,⟨hb,_⟩ | ⟨b',cap',cs,q1,q2,q3,⟨q4,q4'⟩,q5,q6,q7⟩⟩
              . rw [hb] at r1;simp at r1
              . rw [g1] at q1;simp at q1;obtain ⟨rfl,rfl,rfl⟩:=q1;have hjl:j < xs.length:=(List.getElem?_eq_some_iff.1 r1).1;have hrow:row.length=m':=q6 row (List.mem_of_getElem? r1);have hcm:=ZbS hk;have hjm:j * m'+m'<=xs.length * m':=by
                 have:=Nat.mul_le_mul_right m' (show j+1<=xs.length from hjl);rw [Nat.add_mul,Nat.one_mul] at this;exact this
                have hcapm:xs.length * m'<=cap * m':=Nat.mul_le_mul_right m' q4;obtain ⟨w',p1,p2⟩:=Wn (P:=P) (t:=t) (m:=m) (v:=evX a y) (o:=j * m'+off) (cs:=cs.toList) (T:=T) hsz hlen (by simpa using q2) (by simp only [Array.length_toList,q3];omega) h1;have hocc:∀ b',occ E k (.row vv m' (xs.set j (ZJ row off c)) T) b'↔occ E k (lkh k σ.hp) b':=λb'=>by rw [hkk];rfl
                obtain ⟨s1,s2⟩:=XZ h.hs (hb:=.row vv m' (xs.set j (ZJ row off c)) T) hocc (by rw [hkk];exact ⟨_,_,g1,q4'⟩) p2 (λhst=>by
                 simp only [Yr];refine ⟨hi0,.inr ⟨b,cap,_,by simpa using g1,p2.here,?_,by simpa using ⟨q4,q4'⟩,by simpa using q5,λrr hrr=>?_,?_⟩⟩
                 . simp [Z5,q3]
                 . rcases List.mem_or_eq_of_mem_set hrr with hrr | rfl
                   . exact q6 rr hrr
                   . rw [XU,hrow]
                 . rw [Up r1 q6 (by omega),List.length_set];rw [XL (by rw [show (evX a y).cells.toList.length=m from by simpa using hlen];omega) (by simp [q3];omega)]
                   exact X6 _ (ZL hst (λ_ _=>Ele.rfl) (λ_ h=>h) _ _ q7) (ZL hst (λ_ _=>Ele.rfl) (λ_ h=>h) _ _ hRc))
                have hsim:=YJ h s2 (λ_ _=>Ele.rfl) (Nat.le_refl _) s1
                refine ZC (show (execOp a.eval _).run P w = .ok .skip w' from by
                 simp only [execOp,Zh hx a,Zh hy a,g2,Instr.storeAt,Instr.sureAddr,Sem.run_bind,Sem.run_pure,Result.andThen_ok,p1]) (by simp) (hn _ E _ _ r3 hsim)
          . cases hp
        . cases hp
  . cases hp
 case cln m b T x y =>
  simp only [stp,ZuN] at hp;split at hp
  case h_2=>cases hp
  case h_3=>cases hp
  case h_4=>cases hp
  rename_i ys hxs hys;obtain ⟨hlim,hp⟩:=hp;obtain ⟨v,w',e1,e2,e3⟩:=ZmM hc (YQ (Zy h.hs) h.fr (g:=none) trivial x) (YQ (Zy h.hs) h.fr (g:=none) trivial y) hxs hys hlim;obtain ⟨E',σ',h1,h2⟩:=Zhp hp h e2 e3;exact ZC e1 (by simp) (hn σ' E' _ _ h1 h2)
 case cpy m x y =>
  simp only [stp] at hp;obtain ⟨k,v,i,L,xs,ys,T,q1,q2,q3,q4,q5,q6⟩:=Zu4 hp;obtain ⟨w',e1,e2,e3⟩:=ZnZ hc h.hs q2 q1 (YQ (Zy h.hs) h.fr (g:=none) trivial x) q3 (YQ (Zy h.hs) h.fr (g:=none) trivial y) q4 q5;rcases ZnJ q6 with ⟨g1,g2⟩ | ⟨t,g1,g2,g3,g4⟩
  . have hS:=YJ h e3 (λ_ _=>Ele.rfl) (Nat.le_refl _) e2;exact ZC e1 (by simp) (hn _ E _ _ g2 (by rw [g1];exact hS))
  . have hS:=Xs h e3 (λ_ _=>Ele.rfl) (Nat.le_refl _) e2 g2 g3 (s:=.v (.int .i64 (min L ys.length:Nat))) (λ_ _ _ e=>by cases e) (by simp only [R];rfl);rw [<- g1] at hS;exact ZC e1 (by simp) (hn _ E _ _ g4 hS)
 case appm m b T x y =>
  simp only [stp] at hp;obtain ⟨k,v,xs,ys,t,v',xs',q2,q3,q4,q6,q7,q8,q9⟩:=ZuT hp;have hRx:=YQ (Zy h.hs) h.fr (g:=none) trivial x;obtain ⟨y',w',E',e1,e2,e3,e4,e5⟩:=ZlQ hc h.hs q3 hRx (YQ (Zy h.hs) h.fr (g:=none) trivial y) q2 q4;have hS:=Xs h e4 e2 (Nat.le_refl _) e3 q7 q8 (λ_ _ _ e=>by cases e) e5;rw [<- q6] at hS;exact ZC e1 (by simp) (hn _ E' _ _ q9 hS)
 case mks m b z T x =>
  simp only [stp,ZBf] at hp;split at hp
  case h_2=>cases hp
  rename_i kd n hx;obtain ⟨k,rfl,hlim,hp⟩:=hp;have hRx:=YQ (Zy h.hs) h.fr (g:=none) trivial x;rw [hx] at hRx;simp only [R] at hRx;obtain ⟨v,w',e1,e2,e3⟩:=Zf5 (C:=C) (E:=E) (hp:=σ.hp) (n:=ltn σ.n) (w:=w) hc hRx hlim;obtain ⟨E',σ',h1,h2⟩:=Zhp hp h e2 e3;exact ZC e1 (by simp) (hn σ' E' _ _ h1 h2)
 case isn x =>
  simp only [stp,ZEn] at hp;split at hp
  case h_2=>cases hp
  rename_i c m xs hx;have hRx:=YQ (Zy h.hs) h.fr (g:=none) trivial x;rw [hx] at hRx;have hrun:=Zv0 hc hRx;obtain ⟨bb,k1,k2⟩:=hrun;obtain ⟨σ',h1,h2⟩:=Za5 (hp bb k1) h (λ_ _ _ e=>by cases e) (Below.refl _ _) (show R w E (ltn σ.n) (okS C E σ.hp) (.v (.bool bb)) (.bool bb) by simp [R]);exact ZC k2 (by simp) (hn σ' E _ _ h1 h2)
 case callm f as =>
  have hR:RL w E (ltn σ.n) (okS C E σ.hp) (U6 (rdG none σ.fr) as) (as.map (evX a)):=Zah as λx _=>YQ (Zy h.hs) h.fr (g:=none) trivial x;obtain ⟨as',ts,e1,e2⟩:=Zjr hc;have he:as'.map a.eval=(as.map (evX a)).toArray:=by apply Array.toList_inj.1;simp [YS e2 a]
  obtain ⟨hbd,hcall⟩:=Ze7 hp h hR hn hq;refine Zb7 (f:=f) (vs:=(as.map (evX a)).toArray) (w':=w) ?_ (hcall o rfl);simp [execOp,e1,resolve,Act.eval,Deferred.ofValue,invoke,he,Xe hbd]
 case calvm x as =>
  have hR:RL w E (ltn σ.n) (okS C E σ.hp) (U6 (rdG none σ.fr) as) (as.map (evX a)):=Zah as λx _=>YQ (Zy h.hs) h.fr (g:=none) trivial x;have hRx:=YQ (Zy h.hs) h.fr (g:=none) trivial x;obtain ⟨y,as',ts,e1,e2,e3⟩:=ZkI hc;have he:as'.map a.eval=(as.map (evX a)).toArray:=by apply Array.toList_inj.1;simp [YS e3 a]
  simp only [stp,Zim] at hp;split at hp
  . rename_i f caps hx;simp only [hx,R] at hRx;obtain ⟨cs,k1,k2⟩:=hRx;have he2:(as.map (evX a)).toArray ++ cs=(as.map (evX a) ++ cs.toList).toArray:=by apply Array.toList_inj.1;simp
    obtain ⟨hbd,hcall⟩:=Ze7 hp h (Yj hR k2) hn hq;refine Zb7 (f:=f) (vs:=(as.map (evX a) ++ cs.toList).toArray) (w':=w) ?_ (hcall o rfl);simp [execOp,e1,resolve,Zh e2 a,k1,Deferred.ofValue,invoke,he,he2,Xe hbd]
  . rename_i k hx;simp only [hx,R] at hRx;obtain ⟨k1,k2⟩:=hRx;obtain ⟨fn,tmps,assign,body,q1,q2⟩:=hY C Sub.rfl k _ _ _ _ hp E w _ h.hs k1 hR;refine ZC (x:=.round (E.β k) fn tmps assign body) (w':=w) ?_ (by simp) ?_
    . simp [execOp,e1,resolve,Zh e2 a,k2,Deferred.ofValue,invoke,he,q1]
    . refine (Zbs.mono q2 λe w' ⟨oo,E',y,r1,r2,r3,r4,r5,r6,r7⟩=>?_);rw [r7];exact Zlf r1 h r2 r3 r4 r5 r6 hn hq _ rfl
  . cases hp
 case raw op ty =>
  simp only [Bool.and_eq_true,beq_iff_eq] at hc;exact hp o C E a w next Q rfl (W0 hc.1).symm hc.2.symm h hn hq
end
def ExQ (C:Cx) (Q:Exit->Act->World->Prop) (e:Ex) (σ : St) (E:Env) (a:Act) (w:World):Prop :=
 match e with
 | .n=>Q .normal a w
 | .ex i=>Q (.exit i) a w
 | .ret=>Q .ret a w
 | .pan s=>∀ y,R w E (ltn σ.n) (okS C E σ.hp) s y->Q (.panic [{ v:=y,recovered:=false }]) a w
def LkQ (C:Cx) (K:Ex->St->Prop) (Q:Exit->Act->World->Prop):Prop:=∀ e σ,K e σ->∀ E a w,Sim C E σ a w->ExQ C Q e σ E a w
section
variable {P:Program} {C:Cx}
theorem Zbw {E:Env} {σ : St} {a:Act} {w:World} {o:Oper} {io:Ins} {ops:Array Oper} {r:KT} {K:RK} {next:Act->World->Prop} {Q:Exit->Act->World->Prop} {j:Nat} {wt:Bool}
 (hc:VN P ops io o=true) (hg:io.g=some (j,wt)) (hb:(∃ b,lk j σ.fr = .v (.bool b))\/∃ j' b' b,lk j σ.fr = .gd j' b' (.v (.bool b))) (hp:Yw P (some (j,wt)) io.d io.i σ r K) (h:Sim C E σ a w)
 (hn:∀ σ' E' a' w',r σ' K->Sim C E' σ' a' w'->next a' w'):if Region.wanted o (yielded ops a.tmps) then o.wpq C.rd P a w next Q else next (a.put o.dst undef) w:=by
 obtain ⟨d,i,g,af⟩:=io;simp only at hg;subst hg;simp only [VN,Bool.and_eq_true,decide_eq_true_eq] at hc;obtain ⟨⟨hd,hc⟩,hgd⟩:=hc;subst hd;have hci:ZT P i o.op=true:=by
  cases i<;>first | exact hc | (simp [Yw,pv,WC] at hp)
 split at hgd
 . rename_i h1 h2;cases h1
 . rename_i t w1 j' w' h1 h2;simp only [Option.some.injEq,Prod.mk.injEq] at h1;obtain ⟨rfl,rfl⟩:=h1;simp only [Bool.and_eq_true,beq_iff_eq] at hgd;obtain ⟨rfl,hgd⟩:=hgd;have hdst:(ops[j']?).bind (·.dst)=some j:=by
    split at hgd
    . rename_i t' ht';simp at hgd;subst hgd;exact ht'
    . cases hgd
   obtain ⟨s,k1,k2⟩:=X2 hci hp;have hFR:=h.fr j;have hsz:=h.sz;have hwant:Region.wanted o (yielded ops a.tmps)=true↔ge σ.fr j wt:=by
    simp only [Region.wanted,h2,yielded,hdst,Option.bind_some];rcases hb with ⟨b,hb⟩ | ⟨j0,b0,b,hb⟩
    . rw [hb] at hFR;have hv:a.tmps.getD j undef = .bool b:=hFR;have hv':a.tmps[j]? = some (.bool b):=by
       cases hq:a.tmps[j]?<;>simp [hq] at hv
       . cases hv
       . exact congrArg some hv
      simp only [hv',beq_iff_eq,Option.some.injEq];exact ⟨λe=>.base (by rw [hb,e]),λe=>ZDr e hb⟩
    . rw [hb] at hFR;obtain ⟨f1,f2⟩:=hFR;by_cases hge:ge σ.fr j0 b0
      . have hv:a.tmps.getD j undef = .bool b:=by have:=f1 hge;simpa only [R] using this
        have hv':a.tmps[j]? = some (.bool b):=by
         cases hq:a.tmps[j]?<;>simp [hq] at hv
         . cases hv
         . exact congrArg some hv
        simp only [hv',beq_iff_eq,Option.some.injEq];exact ⟨λe=>.step (by rw [hb,e]) hge,λe=>by have:=(Zi0 e hb).2;simpa using this⟩
      . have hv:=f2 hge;have hv':a.tmps[j]? = none\/a.tmps[j]? = some undef:=by
         cases hq:a.tmps[j]?<;>simp [hq] at hv
         . exact .inl rfl
         . exact .inr (congrArg some hv)
        constructor
        . intro e;rcases hv' with hv' | hv'<;>simp [hv',undef] at e
        . intro e;exact absurd (Zi0 e hb).1 hge
   cases hdd:o.dst with
   | none=>rw [hdd] at k1;simp [YE] at k1
   | some t =>
    rw [hdd] at k1;simp only [YE] at k1;cases hm:Xw t σ.gs
    . cases hN:Nat.blt t σ.N
      . rw [hm,hN] at k1;exact k1.elim
      . cases htj:Nat.beq t j
        . rw [hm,hN,htj] at k1;simp only [ZD0] at k1;have htg:t ∉ σ.gs:=λhh=>by rw [ZU.2 hh] at hm;cases hm
          have htj':t≠j:=λe=>by subst e;rw [nbr] at htj;cases htj
          have hN':t < σ.N:=by simpa [Nat.blt_eq] using hN
          split
          . rename_i hw;have hge:=hwant.1 hw;refine k2 C E (ltn σ.n) a w h.hs (ZeQ h i) hge _ next Q λy w' ⟨hR,hbel⟩=>?_;rw [hdd];exact hn _ E _ w' k1 (Zhr h hbel htg htj' hN' (λ_=>hR) (λhh=>absurd hge hh))
          . rename_i hw;have hge:¬ ge σ.fr j wt:=λhh=>hw (hwant.2 hh);exact hn _ E _ w k1 (Zhr h (Below.refl _ _) htg htj' hN' (λhh=>absurd hh hge) (λ_=>rfl))
        . rw [hm,hN,htj] at k1;exact k1.elim
    . rw [hm] at k1;exact k1.elim
 . cases hgd
theorem Zcs {E:Env} {σ : St} {a:Act} {w:World} {ops:Array Oper} {io:Ins} {o:Oper} {r:KT} {K:RK} {next:Act->World->Prop} {Q:Exit->Act->World->Prop} (hc:VN P ops io o=true) (hr:st1 P Y io σ r K) (h:Sim C E σ a w)
 (hn':∀ σ' E' a' w',r σ' K->Sim C E' σ' a' w'->next a' w')
 (hq:∀ s σ' E' w' y,K (.pan s) σ'->Sim C E' σ' a w'->R w' E' (ltn σ'.n) (okS C E' σ'.hp) s y->Q (.panic [{ v:=y,recovered:=false }]) a w') (hY:Zdg P C Y):if Region.wanted o (yielded ops a.tmps) then o.wpq C.rd P a w next Q else next (a.put o.dst undef) w:=by
 obtain ⟨d,i,g,af⟩:=io;rcases g with _ | ⟨j,wt⟩
 . simp only [st1] at hr;have hg:(⟨d,i,none,af⟩:Ins).g=none:=rfl;have hgo:o.guard=none:=by
    have hc1:=hc;simp only [VN,Bool.and_eq_true] at hc1;have:=hc1.2;cases hq:o.guard<;>simp [hq] at this ⊢
   rw [if_pos (by simp [Region.wanted,hgo])];have hc1:=hc;simp only [VN,Bool.and_eq_true,decide_eq_true_eq] at hc1;exact Zfk hc1.1.1 hc1.1.2 hr h hn' hq hY
 . simp only [st1,gK] at hr;have hg:(⟨d,i,some (j,wt),af⟩:Ins).g=some (j,wt):=rfl;split at hr
   . rename_i b hb;have hc1:=hc;simp only [VN,Bool.and_eq_true,decide_eq_true_eq] at hc1;have hw:Region.wanted o (yielded ops a.tmps)=(b == wt):=by
      have h3:=hc1.2;split at h3
      . rename_i e _;cases e
      . rename_i t w1 j' w' e1 e2;simp only [Option.some.injEq,Prod.mk.injEq] at e1;obtain ⟨rfl,rfl⟩:=e1;simp only [Bool.and_eq_true,beq_iff_eq] at h3;obtain ⟨rfl,h3⟩:=h3;have hdst:(ops[j']?).bind (·.dst)=some j:=by
         split at h3
         . rename_i t' ht';simp at h3;subst h3;exact ht'
         . cases h3
        have hFR:=h.fr j;rw [hb] at hFR;have hv:a.tmps.getD j undef = .bool b:=hFR;have hv':a.tmps[j]? = some (.bool b):=by
         cases hq:a.tmps[j]?<;>simp [hq] at hv
         . cases hv
         . exact congrArg some hv
        simp only [Region.wanted,e2,yielded,hdst,Option.bind_some,hv'];rfl
      . cases h3
     rcases hr with ⟨rfl,hr⟩ | ⟨hne,hr⟩ | hr
     . rw [hw];simp only [BEq.rfl,if_true];exact Zfk hc1.1.1 hc1.1.2 hr h hn' hq hY
     . rw [hw,if_neg (by simpa using hne)];obtain ⟨σ',h1,h2⟩:=Za5 hr h (λ_ _ _ e=>by cases e) (Below.refl _ _) (y:=undef) (by simp [R]);rw [hc1.1.1] at h2;exact hn' σ' E _ w h1 h2
     . exact Zbw hc hg (.inl ⟨b,hb⟩) hr h hn'
   . rename_i j' b' b hb;exact Zbw hc hg (.inr ⟨j',b',b,hb⟩) hr h hn'
   . cases hr
theorem ZdS (hY:Zdg P C Y) {ops:Array Oper} {Q:Exit->Act->World->Prop} {K:RK} (hK:LkQ C K Q):∀ (l:List Ins) (os:List Oper),ZaQ P ops l os=true ->
 ∀ (σ : St) E a w,rx P Y l σ K->Sim C E σ a w->UG C.rd P ops Q os a w
 | [],[],_,σ,E,a,w,hr,h=>hK .n σ hr E a w h
 | io :: l,o :: os,hc,σ,E,a,w,hr,h=>by
  simp only [ZaQ,Bool.and_eq_true] at hc;have ih:=ZdS hY hK l os hc.2;have hn:∀ σ' E' a' w',rx P Y l σ' K->Sim C E' σ' a' w'->UG C.rd P ops Q os a' w':=λσ' E' a' w' h1 h2=>ih σ' E' a' w' h1 h2;have key:=Zcs (next:=UG C.rd P ops Q os) hc.1 hr h (λσ' E' a' w' h1 h2=>hn σ' E' a' w' h1 h2) (λs σ' E' w' y h1 h2 h3=>hK (.pan s) σ' h1 E' a w' h2 y h3) hY;exact key
 | [],_ :: _,h,_,_,_,_,_,_=>by simp [ZaQ] at h
 | _ :: _,[],h,_,_,_,_,_,_=>by simp [ZaQ] at h
end
end Go.Sx
