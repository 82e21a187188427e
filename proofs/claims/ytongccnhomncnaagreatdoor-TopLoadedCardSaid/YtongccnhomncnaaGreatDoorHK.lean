/- Walks and plain laws that lead to the given statement, part 11 of 20. -/
import Derived.Test.YtongccnhomncnaaGreatDoorHJ
import Derived.Test.YtongccnhomncnaaGreatDoorRows
import Derived.Test.YtongccnhomncnaaGreatDoorTie
import Derived.Test.YtongccnhomncnaaGreatDoorCards
import Derived.SevenTiedAt
import Derived.LaidMore
import Derived.ProofKit
import Derived.JoinedOf
set_option maxRecDepth 100000
set_option maxHeartbeats 4000000
set_option linter.all false
namespace Go.Proofs.YtongccnhomncnaaGreatDoor
open Go Go.Sx Go.Azalai Go.ChangeShapes Go.WideShapes Go.RowKit
theorem Ve {α : Type} {rep:α->Ls} {q:Ls->Prop} (hq:∀ r,q r->∃ a,r=rep a):∀ {xs:Rr},(∀ r ∈ xs,q r)->∃ l:List α,xs=l.map rep
 | [],_=>⟨[],rfl⟩
 | x :: xs,h=>by
  obtain ⟨a,rfl⟩:=hq x (h x (by simp));obtain ⟨l,rfl⟩:=Ve (xs:=xs) hq (λr hr=>h r (by simp [hr]));exact ⟨a :: l,rfl⟩
theorem ZbB {f:Nat} {l:Ls} (h:Shp Tryz.prog (f+1) 3 l):∃ n:Int,l=[.v (.int .i64 n)]/\(Lit.int .i64 n).wf=true:=by
 rw [Shp,Tryz.underlying3] at h;exact h
theorem W5 {f:Nat} {l:Ls} (h:Shp Tryz.prog (f+2) 27 l):∃ w:Span,l=Ze w:=by
 rw [Shp,Tryz.underlying27] at h;simp only [Ziy] at h;obtain ⟨_,_,rfl,_,h0,_,_,rfl,_,h1,rfl⟩:=h;obtain ⟨a0,rfl,_⟩:=ZbB (f:=f+0) h0;obtain ⟨a1,rfl,_⟩:=ZbB (f:=f+0) h1;exact ⟨⟨a0,a1⟩,rfl⟩
theorem ZBo {f:Nat} {l:Ls} (h:Shp Tryz.prog (f+3) 222 l):∃ w:Well,l=Zg w:=by
 rw [Shp,Tryz.underlying222] at h;simp only [Ziy] at h;obtain ⟨_,_,rfl,_,h0,_,_,rfl,_,h1,_,_,rfl,_,h2,_,_,rfl,_,h3,_,_,rfl,_,h4,_,_,rfl,_,h5,_,_,rfl,_,h6,rfl⟩:=h;obtain ⟨a0,rfl,_⟩:=ZbB (f:=f+1) h0;obtain ⟨a1,rfl,_⟩:=ZbB (f:=f+1) h1;obtain ⟨a2,rfl,_⟩:=ZbB (f:=f+1) h2;obtain ⟨a3,rfl⟩:=W5 (f:=f+0) h3;obtain ⟨a4,rfl,_⟩:=ZbB (f:=f+1) h4;obtain ⟨a5,rfl⟩:=W5 (f:=f+0) h5;obtain ⟨a6,rfl,_⟩:=ZbB (f:=f+1) h6
 exact ⟨⟨a0,a1,a2,a3,a4,a5,a6⟩,rfl⟩
theorem Zsz:Tryz.prog.cellsOf 222=9:=by kernel_rfl
theorem shp22 {f:Nat} {l:Ls} (h:Shp Tryz.prog (f+4) 22 l):∃ ds:List Well,l=[.sl false 9 (ds.map Zg)]/\ds.length<=9223372036854775807:=by
 rw [Shp,Tryz.underlying22] at h;obtain ⟨xs,rfl,hl,hx⟩:=h;obtain ⟨ws,rfl⟩:=Ve (rep:=Zg) (λr h=>ZBo (f:=f) h.2) hx;rw [Zsz];exact ⟨ws,rfl,by simpa using hl⟩
theorem ZCk {f:Nat} {l:Ls} (h:Shp Tryz.prog (f+3) 219 l):∃ w:Gate,l=Zi w:=by
 rw [Shp,Tryz.underlying219] at h;simp only [Ziy] at h;obtain ⟨_,_,rfl,_,h0,_,_,rfl,_,h1,rfl⟩:=h;obtain ⟨a0,rfl⟩:=W5 (f:=f+0) h0;obtain ⟨a1,rfl⟩:=W5 (f:=f+0) h1;exact ⟨⟨a0,a1⟩,rfl⟩
theorem ZrU:Tryz.prog.cellsOf 219=4:=by kernel_rfl
theorem ZBE {f:Nat} {l:Ls} (h:Shp Tryz.prog (f+4) 185 l):∃ ds:List Gate,l=[.sl false 4 (ds.map Zi)]/\ds.length<=9223372036854775807:=by
 rw [Shp,Tryz.underlying185] at h;obtain ⟨xs,rfl,hl,hx⟩:=h;obtain ⟨ws,rfl⟩:=Ve (rep:=Zi) (λr h=>ZCk (f:=f) h.2) hx;rw [ZrU];exact ⟨ws,rfl,by simpa using hl⟩
theorem ZC7 {f:Nat} {l:Ls} (h:Shp Tryz.prog (f+5) 187 l):∃ w:Leg,l=Zr w:=by
 rw [Shp,Tryz.underlying187] at h;simp only [Ziy] at h;obtain ⟨_,_,rfl,_,h0,_,_,rfl,_,h1,_,_,rfl,_,h2,_,_,rfl,_,h3,rfl⟩:=h;obtain ⟨a0,rfl,_⟩:=ZbB (f:=f+3) h0;obtain ⟨a1,rfl,_⟩:=ZbB (f:=f+3) h1;obtain ⟨a2,rfl⟩:=W5 (f:=f+2) h2;obtain ⟨a3,rfl,_⟩:=ZBE (f:=f+0) h3;exact ⟨⟨a0,a1,a2,a3⟩,rfl⟩
theorem ZoJ:Tryz.prog.cellsOf 187=5:=by kernel_rfl
theorem shp23 {f:Nat} {l:Ls} (h:Shp Tryz.prog (f+6) 23 l):∃ ds:List Leg,l=[.sl false 5 (ds.map Zr)]/\ds.length<=9223372036854775807:=by
 rw [Shp,Tryz.underlying23] at h;obtain ⟨xs,rfl,hl,hx⟩:=h;obtain ⟨ws,rfl⟩:=Ve (rep:=Zr) (λr h=>ZC7 (f:=f) h.2) hx;rw [ZoJ];exact ⟨ws,rfl,by simpa using hl⟩
theorem shp25 {f:Nat} {l:Ls} (h:Shp Tryz.prog (f+7) 25 l):∃ w:Land,l=Yo w:=by
 rw [Shp,Tryz.underlying25] at h;simp only [Ziy] at h;obtain ⟨_,_,rfl,_,h0,_,_,rfl,_,h1,rfl⟩:=h;obtain ⟨a0,rfl,_⟩:=shp22 (f:=f+2) h0;obtain ⟨a1,rfl,_⟩:=shp23 (f:=f+0) h1;exact ⟨⟨a0,a1⟩,rfl⟩
theorem shp29 {f:Nat} {l:Ls} (h:Shp Tryz.prog (f+3) 29 l):∃ w:Breed,l=Cm.breedL w:=by
 rw [Shp,Tryz.underlying29] at h;simp only [Ziy] at h;obtain ⟨_,_,rfl,_,h0,_,_,rfl,_,h1,_,_,rfl,_,h2,_,_,rfl,_,h3,_,_,rfl,_,h4,_,_,rfl,_,h5,_,_,rfl,_,h6,_,_,rfl,_,h7,_,_,rfl,_,h8,_,_,rfl,_,h9,rfl⟩:=h;obtain ⟨a0,rfl,_⟩:=ZbB (f:=f+1) h0;obtain ⟨a1,rfl,_⟩:=ZbB (f:=f+1) h1;obtain ⟨a2,rfl⟩:=W5 (f:=f+0) h2;obtain ⟨a3,rfl⟩:=W5 (f:=f+0) h3;obtain ⟨a4,rfl⟩:=W5 (f:=f+0) h4;obtain ⟨a5,rfl⟩:=W5 (f:=f+0) h5;obtain ⟨a6,rfl⟩:=W5 (f:=f+0) h6
 obtain ⟨a7,rfl⟩:=W5 (f:=f+0) h7;obtain ⟨a8,rfl,_⟩:=ZbB (f:=f+1) h8;obtain ⟨a9,rfl⟩:=W5 (f:=f+0) h9;exact ⟨⟨a0,a1,a2,a3,a4,a5,a6,a7,a8,a9⟩,rfl⟩
theorem shp4 {f:Nat} {l:Ls} (h:Shp Tryz.prog (f+1) 4 l):∃ n:Bool,l=[B n]:=by
 rw [Shp,Tryz.underlying4] at h;exact h
theorem shp31 {f:Nat} {l:Ls} (h:Shp Tryz.prog (f+3) 31 l):∃ w:Camel,l=Cm.camelL w:=by
 rw [Shp,Tryz.underlying31] at h;simp only [Ziy] at h;obtain ⟨_,_,rfl,_,h0,_,_,rfl,_,h1,_,_,rfl,_,h2,_,_,rfl,_,h3,rfl⟩:=h;obtain ⟨a0,rfl⟩:=W5 (f:=f+0) h0;obtain ⟨a1,rfl⟩:=W5 (f:=f+0) h1;obtain ⟨a2,rfl⟩:=W5 (f:=f+0) h2;obtain ⟨a3,rfl⟩:=shp4 (f:=f+1) h3;exact ⟨⟨a0,a1,a2,a3⟩,rfl⟩
theorem ZvJ:Tryz.prog.cellsOf 27=2:=by kernel_rfl
theorem shp97 {f:Nat} {l:Ls} (h:Shp Tryz.prog (f+3) 97 l):∃ ds:List Span,l=[.sl false 2 (ds.map Ze)]/\ds.length<=9223372036854775807:=by
 rw [Shp,Tryz.underlying97] at h;obtain ⟨xs,rfl,hl,hx⟩:=h;obtain ⟨ws,rfl⟩:=Ve (rep:=Ze) (λr h=>W5 (f:=f) h.2) hx;rw [ZvJ];exact ⟨ws,rfl,by simpa using hl⟩
theorem ZBZ:Tryz.prog.cellsOf 3=1:=by kernel_rfl
theorem ZDp {f:Nat} {l:Ls} (h:Shp Tryz.prog (f+2) 35 l):∃ ds:List Int,l=[.sl false 1 (ds.map Zk)]/\ds.length<=9223372036854775807:=by
 rw [Shp,Tryz.underlying35] at h;obtain ⟨xs,rfl,hl,hx⟩:=h;obtain ⟨ws,rfl⟩:=Ve (rep:=Zk) (λr h=>by obtain ⟨n,rfl,_⟩:=ZbB (f:=f) h.2;exact ⟨n,rfl⟩) hx;rw [ZBZ];exact ⟨ws,rfl,by simpa using hl⟩
theorem ZB2 {f:Nat} {l:Ls} (h:Shp Tryz.prog (f+4) 139 l):∃ w:Scene,l=Zl w:=by
 rw [Shp,Tryz.underlying139] at h;simp only [Ziy] at h;obtain ⟨_,_,rfl,_,h0,_,_,rfl,_,h1,_,_,rfl,_,h2,_,_,rfl,_,h3,rfl⟩:=h;obtain ⟨a0,rfl⟩:=W5 (f:=f+1) h0;obtain ⟨a1,rfl⟩:=W5 (f:=f+1) h1;obtain ⟨a2,rfl,_⟩:=shp97 (f:=f+0) h2;obtain ⟨a3,rfl,_⟩:=ZDp (f:=f+1) h3;exact ⟨⟨a0,a1,a2,a3⟩,rfl⟩
theorem Zo6:Tryz.prog.cellsOf 139=6:=by kernel_rfl
theorem shp32 {f:Nat} {l:Ls} (h:Shp Tryz.prog (f+5) 32 l):∃ ds:List Scene,l=[.sl false 6 (ds.map Zl)]/\ds.length<=9223372036854775807:=by
 rw [Shp,Tryz.underlying32] at h;obtain ⟨xs,rfl,hl,hx⟩:=h;obtain ⟨ws,rfl⟩:=Ve (rep:=Zl) (λr h=>ZB2 (f:=f) h.2) hx;rw [Zo6];exact ⟨ws,rfl,by simpa using hl⟩
theorem shp34 {f:Nat} {l:Ls} (h:Shp Tryz.prog (f+8) 34 l):∃ w:Season,l=Zv w:=by
 rw [Shp,Tryz.underlying34] at h;simp only [Ziy] at h;obtain ⟨_,_,rfl,_,h0,_,_,rfl,_,h1,_,_,rfl,_,h2,_,_,rfl,_,h3,_,_,rfl,_,h4,_,_,rfl,_,h5,_,_,rfl,_,h6,_,_,rfl,_,h7,_,_,rfl,_,h8,_,_,rfl,_,h9,_,_,rfl,_,h10,_,_,rfl,_,h11,_,_,rfl,_,h12,rfl⟩:=h;obtain ⟨a0,rfl⟩:=shp25 (f:=f+0) h0;obtain ⟨a1,rfl⟩:=W5 (f:=f+5) h1;obtain ⟨a2,rfl⟩:=shp29 (f:=f+4) h2;obtain ⟨a3,rfl⟩:=shp31 (f:=f+4) h3;obtain ⟨a4,rfl,_⟩:=ZbB (f:=f+6) h4
 obtain ⟨a5,rfl,_⟩:=ZbB (f:=f+6) h5;obtain ⟨a6,rfl,_⟩:=ZbB (f:=f+6) h6;obtain ⟨a7,rfl,_⟩:=ZbB (f:=f+6) h7;obtain ⟨a8,rfl,_⟩:=ZbB (f:=f+6) h8;obtain ⟨a9,rfl,_⟩:=ZbB (f:=f+6) h9;obtain ⟨a10,rfl,_⟩:=ZbB (f:=f+6) h10;obtain ⟨a11,rfl,_⟩:=ZbB (f:=f+6) h11;obtain ⟨a12,rfl,_⟩:=shp32 (f:=f+2) h12;exact ⟨⟨a0,a1,a2,a3,a4,a5,a6,a7,a8,a9,a10,a11,a12⟩,rfl⟩
theorem shp37 {f:Nat} {l:Ls} (h:Shp Tryz.prog (f+3) 37 l):∃ w:Plan,l=ZQ w:=by
 rw [Shp,Tryz.underlying37] at h;simp only [Ziy] at h;obtain ⟨_,_,rfl,_,h0,_,_,rfl,_,h1,_,_,rfl,_,h2,rfl⟩:=h;obtain ⟨a0,rfl,_⟩:=ZDp (f:=f+0) h0;obtain ⟨a1,rfl,_⟩:=ZbB (f:=f+1) h1;obtain ⟨a2,rfl,_⟩:=ZbB (f:=f+1) h2;exact ⟨⟨a0,a1,a2⟩,rfl⟩
theorem Tryz.own:ownKnob Tryz.prog.godebug=none:=by kernel_rfl
theorem Tryz.laidOut:laidOutB Tryz.prog=true:=by kernel_rfl
theorem tyB34:tyB Tryz.prog 20 34=true:=by kernel_rfl
theorem tyB37:tyB Tryz.prog 20 37=true:=by kernel_rfl
theorem gNone:Tryz.prog.globalNamed "azalai/load.none" = some 0:=by kernel_rfl
theorem tNone:(Tryz.prog.globals[0]?).map (·.type)=some 27:=by kernel_rfl
theorem ZAh {W:World} (h:laidMetH Tryz.prog Rows.topLoadedRow.laid W):GS W Tr:=by
 rw [MakeChecks.laidMetH_plain _ _ _ (by kernel_rfl)] at h;obtain ⟨ps,⟨g0,t0,cs0,f0,p0,q0,hg0,ht0,hv0,hd0,_⟩,_,_⟩:=h;obtain rfl:=Option.some.inj (gNone.symm.trans hg0);obtain rfl:=Option.some.inj (tNone.symm.trans ht0);obtain ⟨y0,y1,n,hx,hl,h0,h1⟩:=trod_struct2 Tryz.underlying27 hd0;obtain ⟨k0,e0,e0',_⟩:=DataW.trod_int Tryz.underlying3 h0;obtain ⟨k1,e1,e1',_⟩:=DataW.trod_int Tryz.underlying3 h1;have c3:Tryz.prog.cellsOf 3=1:=by kernel_rfl
 have c27:Tryz.prog.cellsOf 27=2:=by kernel_rfl
 subst e0';subst e1';simp only [Prod.mk.injEq] at hx;have hx1:=hx.1;simp only [Rows.laid_azalai_load_none,DataW.agg.injEq,List.cons.injEq,DataW.lit.injEq,Lit.int.injEq,true_and,and_true] at hx1;obtain ⟨rfl,rfl⟩:=hx1;have e:cs0 = #[.int .i64 0,.int .i64 0]:=by
  obtain ⟨l⟩:=cs0;simp only at hl e0 e1;rw [c27] at hl;rw [c3] at e0 e1
  match l,hl with
  | [a,b],_ =>
   simp at e0 e1;rw [e0,e1]
 subst e;have hc:=λoff=>World.var?_cell hg0 hv0 off;intro g l hg
 match g,hg with
 | 0,hg =>
  have hg:some [SV.v (.int .i64 0),SV.v (.int .i64 0)]=some l:=hg;cases hg
  refine ⟨?_,trivial,(.int .i64 0 :: [.int .i64 0]),λw' E n ok'=>?_,λ_=>trivial,λj c hj=>?_⟩
  . have:=hc 0;unfold World.cell? at this;by_cases hs:0 < W.heap.size
    . exact hs
    . rw [Array.getElem?_eq_none (by omega)] at this;simp at this
  . simp [RL,R]
  . have:=hc j;rw [Nat.zero_add,this,<- hj]
    match j with
    | 0=>rfl
    | 1=>rfl
    | j+2=>rfl
theorem ZaZ (os:Os) (started:os.Started) (H:Type) (enc:TypeId × Value->H) :
 ReturnsInHanded {} Tryz.checked os 3 .any (λw args=>(Rows.topLoadedSpec.pre enc Tryz.prog Tryz.f3 [] false w args/\laidMetH Tryz.prog Rows.topLoadedRow.laid w)/\sizedMet enc Tryz.prog Tryz.f3 (OpenSpec.ofChange Rows.topLoadedSpec) false w args) (Rows.topLoadedSpec.post enc Tryz.prog Tryz.f3 false true false false):=by
 refine returnsInHanded_of_change_and (C:=Tryz.checked) (X:=λw _=>laidMetH Tryz.prog Rows.topLoadedRow.laid w) (λ_ _ _ hh h=>h.of_heap hh) Tryz.own started (by kernel_rfl) Tryz.func3
  (ChangeSpec.witness_shaped (enc:=enc) (C:=Tryz.checked) (os:=os) (X:=λw _=>laidMetH Tryz.prog Rows.topLoadedRow.laid w) false (World.doorLaid Tryz.prog 400 os) #[.agg #[.slice none 0 0,.slice none 0 0,.int .i64 0,.int .i64 0,.int .i64 0,.int .i64 0,.int .i64 0,.int .i64 0,.int .i64 0,.int .i64 0,.int .i64 0,.int .i64 0,.int .i64 0,.int .i64 0,.int .i64 0,.int .i64 0,.int .i64 0,.int .i64 0,.int .i64 0,.int .i64 0,.int .i64 0,.int .i64 0,.int .i64 0,.int .i64 0,.int .i64 0,.int .i64 0,.int .i64 0,.bool false,.int .i64 0,.int .i64 0,.int .i64 0,.int .i64 0,.int .i64 0,.int .i64 0,.int .i64 0,.int .i64 0,.slice none 0 0],.agg #[.slice none 0 0,.int .i64 0,.int .i64 0]] 8 rfl (World.shaped_of_RefB (by kernel_rfl) (by kernel_rfl)) (by kernel_rfl) (by kernel_rfl) (by kernel_rfl)
   (laidMetH_of_parts3 (fuel:=8) (laidMet_of_run' 8 (by kernel_rfl) (by kernel_rfl)) (by kernel_rfl) (by kernel_rfl))) ?_
 intro W base args ds gs before hval0 hW hcnd _ hL _;have hval:∀ (j:Nat) t v,Tryz.f3.params[j]? = some t->args[j]? = some v->Value.okWide Tryz.prog W .any base t v:=hval0;have hW':=hW;obtain ⟨p,q,hA0,hV,rfl,hfz,hnd⟩:=hW;have hA:DataW.TrodAll enc Tryz.prog W 0 (λ_=>true) true Tryz.f3.params.toList args.toList ds p:=hA0;rw [Tryz.params3] at hA hval;obtain ⟨v0,vs0,d0,ds0,p0,q0,ea0,rfl,rfl,h0,hA⟩:=trodAll_cons hA
 obtain ⟨v1,vs1,d1,ds1,p1,q1,rfl,rfl,rfl,h1,hA⟩:=trodAll_cons hA;obtain ⟨rfl,rfl,rfl⟩:=trodAll_nil hA;obtain ⟨rfl,rfl⟩:=trodVars_none hV;have hargs:args = #[v0,v1]:=Array.toList_inj.1 ea0;subst hargs;obtain ⟨l0,r0,s0⟩:=ZgU tyB34 (hval 0 34 v0 rfl rfl) h0;obtain ⟨l1,r1,s1⟩:=ZgU tyB37 (hval 1 37 v1 rfl rfl) h1;obtain ⟨x0,rfl⟩:=shp34 s0;obtain ⟨x1,rfl⟩:=shp37 s1;simp only [argV,Tryz.underlying34,Tryz.underlying37,List.headD_cons] at r0 r1
 refine ((Ld.loaded_ok x0 x1).run W Tr [v0,v1] (ZAh hL) (by simp only [RL];exact ⟨_,_,rfl,r0,_,_,rfl,r1,rfl⟩)).mono λe W' ⟨y,he,hy,hb⟩=>?_;simp only [R] at hy;subst hy;exact ⟨_,he,ZpJ (P:=Tryz.prog) Tryz.laidOut (by kernel_rfl) (by kernel_rfl) Tryz.underlying4 rfl rfl hW' hb⟩
end Go.Proofs.YtongccnhomncnaaGreatDoor
set_option linter.all false
namespace Go.Sx
open Go
def jc0 (P:Program) (f:FuncId) (fn:Func) (s:ChangeSpec) (c:OpenClaim):Bool:=c.wf (OpenSpec.ofChange s) && laidOutB P && mapsRowed P && fn.params.all (P.readableRec ·) && namedTie P c.named s.vars && (c.stops == []) && (P.stops == []) && (c.knobs == []) && (P.stopKnobs == [])
def jc1 (P:Program) (f:FuncId) (fn:Func) (s:ChangeSpec) (c:OpenClaim):Bool:=(c.inPlace == P.inPlace f)
def jc2 (P:Program) (f:FuncId) (fn:Func) (s:ChangeSpec) (c:OpenClaim):Bool:=(c.unfollowed == P.unfollowed f)
def jc3 (P:Program) (f:FuncId) (fn:Func) (s:ChangeSpec) (c:OpenClaim):Bool:=(c.recurses == P.recurses f)
def jc4 (P:Program) (f:FuncId) (fn:Func) (s:ChangeSpec) (c:OpenClaim):Bool:=(c.named == P.varsNamed f)
def jc5 (P:Program) (f:FuncId) (fn:Func) (s:ChangeSpec) (c:OpenClaim):Bool:=(c.maps == (fn.params.toList ++ s.plain.varTypes P).any (P.mapsRec ·)) && (c.ifaces == (fn.params.toList ++ s.plain.varTypes P).any (P.ifacesRec ·)) && (c.mapsOut == P.mapsAmong fn.resultTypes.toList) && (c.loops == (fn.params.toList ++ s.plain.varTypes P).any (P.loopsFrom ·)) && (c.wideKeys == (fn.params.toList ++ s.plain.varTypes P ++ fn.resultTypes.toList).any (P.wideKeysFrom ·))
def jc6 (P:Program) (f:FuncId) (fn:Func) (s:ChangeSpec) (c:OpenClaim):Bool:=s.vars.all (P.varReadable ·) && fn.resultTypes.all (λt=>P.readableRec t && decide (t < P.types.size)) && (c.ifacesOut == fn.resultTypes.toList.any (P.ifacesRec ·)) && (c.loopsOut == fn.resultTypes.toList.any (P.loopsFrom ·)) && (c.plainKeys == P.plainKeys) && c.shortTexts.isNone && P.stopsHeard
def jc7 (P:Program) (f:FuncId) (fn:Func) (s:ChangeSpec) (c:OpenClaim):Bool:=P.mayEnter && (c.lifted == P.liftsFinal) && (P.make == some c.make) && (c.kinds == (if c.domain.isEmpty then [] else fn.params.toList.map λt=>match P.underlying t with | some (.int k)=>some k | _=>none)) && (c.pinned == c.pinnedBy) && (c.veiled == (fn.params.toList ++ s.plain.varTypes P ++ fn.resultTypes.toList).any (P.veiledRec ·)) && c.veiledFits P fn.params.toList (fn.params.toList ++ s.plain.varTypes P ++ fn.resultTypes.toList)
theorem Zn3 {P:Program} {f:FuncId} {fn:Func} {s:ChangeSpec} {c:OpenClaim} (h0:jc0 P f fn s c=true) (h1:jc1 P f fn s c=true) (h2:jc2 P f fn s c=true) (h3:jc3 P f fn s c=true) (h4:jc4 P f fn s c=true) (h5:jc5 P f fn s c=true) (h6:jc6 P f fn s c=true) (h7:jc7 P f fn s c=true):joinedFacts P f fn s c=true:=by
 unfold jc0 jc1 jc2 jc3 jc4 jc5 jc6 jc7 at *;unfold joinedFacts;simp only [Bool.and_eq_true] at *;exact ⟨⟨⟨⟨⟨⟨⟨⟨⟨⟨⟨⟨⟨⟨⟨⟨⟨⟨⟨⟨⟨⟨⟨h0,h1⟩,h2⟩,h3⟩,h4⟩,h5.1.1.1.1⟩,h5.1.1.1.2⟩,h5.1.1.2⟩,h5.1.2⟩,h5.2⟩,h6.1.1.1.1.1.1⟩,h6.1.1.1.1.1.2⟩,h6.1.1.1.1.2⟩,h6.1.1.1.2⟩,h6.1.1.2⟩,h6.1.2⟩,h6.2⟩,h7.1.1.1.1.1.1⟩,h7.1.1.1.1.1.2⟩,h7.1.1.1.1.2⟩,h7.1.1.1.2⟩,h7.1.1.2⟩,h7.1.2⟩,h7.2⟩
end Go.Sx
