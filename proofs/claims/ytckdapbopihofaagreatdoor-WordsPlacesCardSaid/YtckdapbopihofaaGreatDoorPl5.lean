import Derived.Test.YtckdapbopihofaaGreatDoorRows
import Derived.Test.YtckdapbopihofaaGreatDoorCards
import Derived.Test.YtckdapbopihofaaGreatDoorTie
import Derived.ProofKit
import Derived.OpenShut
import Derived.LaidSub
import Derived.Deep.DeepHandedRow
import Derived.Lib.LaidTab
import Derived.Test.YtckdapbopihofaaGreatDoorPl4
/- The word of any place, any word's place, and the next one (WordsPlaces). A part of that proof: Row0, LawB, LawD, Inv, WordP, Word1, Word2, Word3, Word4, Aw3, Ref1, Ref2, Fin2, Ref3, Ref4, Ref5, Ref6, Ref7, Ref8, Ref9, Ref10. Conditions: none beyond the statement's own. By an AI agent; no person has read it. -/
set_option linter.unusedVariables false
set_option linter.unusedSimpArgs false
set_option maxRecDepth 8000
set_option maxHeartbeats 4000000
section
namespace Go.Clt
open Go Go.RowKit Go.Proofs Go.ChangeShapes Go.WideShapes
theorem own0:ownKnob Tryz.prog.godebug=none:=by kernel_rfl
theorem g32:Tryz.prog.globalNamed "math/bits.deBruijn32tab"=some 3:=by kernel_rfl
theorem g64:Tryz.prog.globalNamed "math/bits.deBruijn64tab"=some 0:=by kernel_rfl
theorem g10:Tryz.prog.globalNamed "internal/strconv.uint64pow10"=some 1:=by kernel_rfl
theorem t32:(Tryz.prog.globals[3]?).map (·.type)=some 313:=by kernel_rfl
theorem t64:(Tryz.prog.globals[0]?).map (·.type)=some 226:=by kernel_rfl
theorem t10:(Tryz.prog.globals[1]?).map (·.type)=some 301:=by kernel_rfl
theorem u313:Tryz.prog.underlying 313=some (.array 32 5):=by kernel_rfl
theorem u226:Tryz.prog.underlying 226=some (.array 64 5):=by kernel_rfl
theorem u301:Tryz.prog.underlying 301=some (.array 20 68):=by kernel_rfl
theorem u5:Tryz.prog.underlying 5=some (.int .u8):=by kernel_rfl
theorem u68:Tryz.prog.underlying 68=some (.int .u64):=by kernel_rfl
theorem u3:Tryz.prog.underlying 3=some (.int .i64):=by kernel_rfl
theorem u4:Tryz.prog.underlying 4=some .bool:=by kernel_rfl
theorem u9:Tryz.prog.underlying 9=some .string:=by kernel_rfl
theorem c313:Tryz.prog.cellsOf 313=32:=by kernel_rfl
theorem c226:Tryz.prog.cellsOf 226=64:=by kernel_rfl
theorem c301:Tryz.prog.cellsOf 301=20:=by kernel_rfl
theorem c5:Tryz.prog.cellsOf 5=1:=by kernel_rfl
theorem c68:Tryz.prog.cellsOf 68=1:=by kernel_rfl
def zs32:List Int:=[0,1,28,2,29,14,24,3,30,22,20,15,25,17,4,8,31,27,13,23,21,19,16,7,26,12,18,6,11,5,10,9]
def zs64:List Int:=Lib.deBruijn64tab.map Int.ofNat
def zs10:List Int:=(List.range 20).map fun j=>((10 ^ j:Nat):Int)
def laidL:List (String × DataW Unit):=[("math/bits.deBruijn32tab",Proofs.YtckdapbopihofaaGreatDoor.Rows.laid_math_bits_deBruijn32tab),("math/bits.deBruijn64tab",Proofs.YtckdapbopihofaaGreatDoor.Rows.laid_math_bits_deBruijn64tab),("internal/strconv.uint64pow10",Proofs.YtckdapbopihofaaGreatDoor.Rows.laid_internal_strconv_uint64pow10)]
theorem laidL_is:laidL=[("math/bits.deBruijn32tab",Lib.tabData .u8 zs32),("math/bits.deBruijn64tab",Lib.tabData .u8 zs64),("internal/strconv.uint64pow10",Lib.tabData .u64 zs10)]:=by kernel_rfl
theorem laid_of {W:World} (h:laidMetH Tryz.prog laidL W):Laid W:=by
 rw [MakeChecks.laidMetH_plain _ _ _ (by kernel_rfl),laidL_is] at h;have h32:Lib.TabIs Tryz.prog W "math/bits.deBruijn32tab" .u8 zs32:=Lib.tabIs_of_head (rest:=_) g32 t32 u313 u5 c5 c313 h
 have h64:Lib.TabIs Tryz.prog W "math/bits.deBruijn64tab" .u8 zs64:=
  Lib.tabIs_of_head (rest:=[]) g64 t64 u226 u5 c5 c226 (h.filter fun x=>x.1== "math/bits.deBruijn64tab")
 have h10:Lib.TabIs Tryz.prog W "internal/strconv.uint64pow10" .u64 zs10:=
  Lib.tabIs_of_head (rest:=[]) g10 t10 u301 u68 c68 c301 (h.filter fun x=>x.1== "internal/strconv.uint64pow10")
 refine ⟨?_,fun j hj=>?_,fun j hj=>?_,?_⟩
 ·have:=h32.cell g32 0 (by decide);unfold World.cell? at this
  have hlt:3<W.heap.size:=by
   rcases Eq7 3 W.heap.size with h|h
   ·exact h
   ·rw [show W.heap[(⟨3,0,none⟩:Addr).block]?=none from Array.getElem?_eq_none h] at this
    cases this
  omega
 ·have:=h64.cell g64 j (by show j<64;exact hj);rw [this];have hl:j<Lib.deBruijn64tab.length:=hj;simp [zs64,Ek2,hl]
 ·have:=h10.cell g10 j (by show j<20;exact hj);rw [this];simp [zs10,Ek2,hj]
 ·unfold Lib.TabIs World.var? at h10;rw [g10] at h10;change (match W.heap[1]? with|some (.cells cs _ _)=>some cs|_=>none)=_ at h10
  cases hh:W.heap[1]? with
  |none=>rw [hh] at h10;cases h10
  |some o=>
   rw [hh] at h10
   cases o with
   |cells cs a b=>
    simp only [Option.some.injEq] at h10;rw [h10];exact ⟨a,b,rfl⟩
   |_=>cases h10
theorem kept_of {W W':World} (h:Chg [] W W') (may:MemPlace→Prop):W.keptBut W' may:=by
 refine ⟨h.os,h.output,fun i hi=>?_⟩;rw [h.same i hi (by simp)]
 cases W.heap[i]? with
 |none=>rfl
 |some o=>
  cases o with
  |cells c t fr=>exact ⟨rfl,rfl,rfl,fun _ _=>rfl⟩
  |map es clock=>exact .inr ⟨rfl,rfl⟩
  |_=>rfl
theorem Dl1 {H:Type} {enc:TypeId × Value→H} {f:Func} {s:ChangeSpec} {apart fresh handsOn again:Bool} {W W':World} {args:Array Value} {v:Value} {ds gs:List (DataW H)}
  (hW:DataW.Whole enc Tryz.prog f.params.toList s.vars apart W args.toList ds gs [])
  (hres:∀ (b:Nat) (sp:Nat→Bool) (hd:Bool),DataW.TrodAll enc Tryz.prog W' b sp hd f.resultTypes.toList (v.resultList f.resultTypes.size) (s.fn H (ds++gs)).results [])
  (hargs:∀ sp:Nat→Bool,DataW.TrodAll enc Tryz.prog W' 0 sp true f.params.toList args.toList (s.fn H (ds++gs)).args [])
  (hvars:∀ sp:Nat→Bool,DataW.TrodVars enc Tryz.prog W' sp s.vars (s.fn H (ds++gs)).vars [])
  (hk:Chg [] W W')
  (hok:∀ (j:Nat) (t:TypeId) (r:Value),f.resultTypes[j]?=some t→(v.resultList f.resultTypes.size)[j]?=some r→Value.okWide Tryz.prog W' .any 0 t r):
  s.post enc Tryz.prog f apart fresh handsOn again W args v W':=by
 refine ⟨ds,gs,[],[],[],[],hW,hres _ _ _,hargs _,hvars _,kept_of hk _,fun _=>?_⟩
 refine ⟨hok,_,_,([]++[])++[],⟨[]++[],[],trodAll_append (hargs _) (hres _ _ _),hvars _,rfl,?_,?_⟩,?_⟩
 ·intro b off hp;cases hp
 ·intro ha;exact List.nodup_nil
 ·intro p hp _;cases hp
def Du6 (l:List Value):Obj→Obj
 | .cells _ t frozen=>.cells l.toArray t frozen
 |o=>o
noncomputable def laidWorld (os:Os):World:=
 { World.holding Tryz.prog os ⟨#[], #[],[]⟩ with heap:=(((World.holding Tryz.prog os ⟨#[], #[],[]⟩).heap.modify 0 (Du6 (zs64.map fun z=>Value.int .u8 z))).modify 1 (Du6 (zs10.map fun z=>Value.int .u64 z))).modify 3 (Du6 (zs32.map fun z=>Value.int .u8 z)) }
theorem laid_met (os:Os) (args:Array Value):laidMet Tryz.prog laidL ((laidWorld os).forCall (fun _ _=>0) ⟨#[],args,[]⟩).memory:=
 laidMet_of_run' 8 (by kernel_rfl) (by kernel_rfl)
end Go.Clt
end
section
namespace Go.Clt
open Go Go.RowKit
structure MetOk (f:List Nat) (s k:Nat):Prop where
 inj:∀ a b v,S9 (Q9 f s k) a=some v→S9 (Q9 f s k) b=some v→a=b
 all:∀ i,i<(Q9 f s k).length→∃ c,c<k∧S9 (Q9 f s k) (Ay0 f s c)=some (i:Int)
theorem Cv1 (f:List Nat) (s:Nat):∀ k,MetOk f s k
 |0=>⟨fun a b v h=>(by cases h),fun i hi=>absurd hi (Nat.not_lt_zero _)⟩
 |k+1=>by
  obtain ⟨h1,h2⟩:=Cv1 f s k
  by_cases hs:(S9 (Q9 f s k) (Ay0 f s k)).isSome=true
  ·have e:Q9 f s (k+1)=Q9 f s k:=by rw [Q9,Ek1 hs]
   refine ⟨by rw [e];exact h1,fun i hi=>?_⟩;rw [e] at hi ⊢;obtain ⟨c,hc,hv⟩:=h2 i hi;exact ⟨c,by omega,hv⟩
  ·have e:Q9 f s (k+1)=Ba4 (Q9 f s k) (Ay0 f s k) ((Q9 f s k).length:Nat):=by rw [Q9,Ek0 hs]
   have hn:S9 (Q9 f s k) (Ay0 f s k)=none:=by
    cases hm:S9 (Q9 f s k) (Ay0 f s k) with
    |none=>rfl
    |some v=>rw [hm] at hs;simp at hs
   have hlt:∀ a v,S9 (Q9 f s k) a=some v→v<((Q9 f s k).length:Nat):=fun a v h=>(An8 f s k _ (P4 h)).2
   have hl:(Q9 f s (k+1)).length=(Q9 f s k).length+1:=by rw [e,Bg6,Ek1 hn]
   refine ⟨fun a b v ha hb=>?_,fun i hi=>?_⟩
   ·rw [e,Z3] at ha hb
    by_cases ca:a=Ay0 f s k
    ·by_cases cb:b=Ay0 f s k
     ·rw [ca,cb]
     ·rw [Ek1 ca] at ha;rw [Ek0 cb] at hb;have:=hlt b v hb;injection ha with ha
      omega
    ·rw [Ek0 ca] at ha
     by_cases cb:b=Ay0 f s k
     ·rw [Ek1 cb] at hb;have:=hlt a v ha;injection hb with hb
      omega
     ·rw [Ek0 cb] at hb;exact h1 a b v ha hb
   ·rw [hl] at hi
    by_cases hi2:i<(Q9 f s k).length
    ·obtain ⟨c,hc,hv⟩:=h2 i hi2;exact ⟨c,by omega,Cl5 f s k _ _ hv⟩
    ·have:i=(Q9 f s k).length:=by omega
     subst this;exact ⟨k,by omega,by rw [e,Z3,Ek1 J]⟩
theorem Bk4 (f:List Nat) (s c k:Nat) (h:c<k):S9 (Q9 f s k) (Ay0 f s c)=some ((Ar8 f s c:Nat):Int):=by
 obtain ⟨v,hv⟩:=Bk6 f s c;have h0:=An8 f s (c+1) _ (P4 hv);have h1:=Cv0 f s _ v (k - (c+1)) (c+1) hv;rw [show c+1+(k - (c+1))=k from by omega] at h1;rw [h1];unfold Ar8;rw [hv,Eo1];simp only at h0;rw [Int.toNat_of_nonneg h0.1]
theorem Dy3 (f:List Nat) (s b c:Nat):Ar8 f s b=Ar8 f s c↔Ay0 f s b=Ay0 f s c:=by
 have hb:=Bk4 f s b (b+c+1) (by omega);have hc:=Bk4 f s c (b+c+1) (by omega)
 constructor
 ·intro h;rw [h] at hb;exact (Cv1 f s (b+c+1)).inj _ _ _ hb hc
 ·intro h;rw [h,hc] at hb;injection hb with hb
  omega
theorem Bk5 (f:List Nat) (s k i:Nat) (h:i<(Q9 f s k).length):∃ c,c<k∧Ar8 f s c=i:=by
 obtain ⟨c,hc,hv⟩:=(Cv1 f s k).all i h;rw [Bk4 f s c k hc] at hv;injection hv with hv
 exact ⟨c,hc,by omega⟩
theorem Dm3 (f:List Nat) (s b i:Nat) (h:i<Ar8 f s b):∃ c,c<b∧Ar8 f s c=i:=by
 have hb:=Dd7 f s b (b+1) (by omega)
 by_cases hs:(S9 (Q9 f s b) (Ay0 f s b)).isSome=true
 ·have e:Q9 f s (b+1)=Q9 f s b:=by rw [Q9,Ek1 hs]
  rw [e] at hb;exact Bk5 f s b i (by omega)
 ·have e:Q9 f s (b+1)=Ba4 (Q9 f s b) (Ay0 f s b) ((Q9 f s b).length:Nat):=by rw [Q9,Ek0 hs]
  have:=Bg6 (Q9 f s b) (Ay0 f s b) ((Q9 f s b).length:Nat);rw [← e] at this;exact Bk5 f s b i (by split at this<;>omega)
theorem Dt7 (f:List Nat) (s:Nat):(T7 f s).2=(Q9 f s 256).length:=by
 unfold T7;generalize Q9 f s 256=z;rfl
theorem Al9 (f:List Nat) (s b:Nat) (h:b<256):(T7 f s).1.getD b 0=Ar8 f s b:=by
 unfold T7;rw [Ek2,El8,Em7 h];rfl
structure BlkOk (S:List Nat):Prop where
 same:∀ b c,b<256→c<256→((F6 S).1.getD b 0=(F6 S).1.getD c 0↔∀ s∈S,s.testBit b=s.testBit c)
 all:∀ i,i<(F6 S).2→∃ b,b<256∧(F6 S).1.getD b 0=i
 rise:∀ b i,b<256→i<(F6 S).1.getD b 0→∃ c,c<b∧(F6 S).1.getD c 0=i
theorem Bc7 (S:List Nat):BlkOk S:=by
 suffices H:∀ (R:List Nat),BlkOk R.reverse by have:=H S.reverse;rwa [List.reverse_reverse] at this
 intro R
 induction R with
 |nil=>
  have hz:∀ b,b<256→(F6 []).1.getD b 0=0:=fun b hb=>by
   unfold F6;rw [Eq8,Ek2,Es4,Ek1 hb];rfl
  refine ⟨fun b c hb hc=>?_,fun i hi=>?_,fun b i hb hi=>?_⟩
  ·show (F6 []).1.getD b 0=(F6 []).1.getD c 0↔_;rw [hz b hb,hz c hc];simp
  ·have:i=0:=by
    change i<1 at hi;omega
   exact ⟨0,by omega,by rw [this];exact hz 0 (by omega)⟩
  ·have:=hz b hb;change i<(F6 []).1.getD b 0 at hi;omega
 |cons s R ih=>
  have e:F6 ((s::R).reverse)=T7 (F6 R.reverse).1 s:=by
   unfold F6;rw [List.reverse_cons,En9,Eq1,Eq8]
  refine ⟨fun b c hb hc=>?_,fun i hi=>?_,fun b i hb hi=>?_⟩
  ·rw [e,Al9 _ _ _ hb,Al9 _ _ _ hc,Dy3];unfold Ay0;rw [Er8,Int.ofNat_inj,ih.same b c hb hc]
   constructor
   ·rintro ⟨h1,h2⟩ x hx;rw [Eu4,Eo4] at hx
    rcases hx with rfl|hx
    ·exact h2
    ·exact h1 x (Eu4.2 hx)
   ·intro h;exact ⟨fun x hx=>h x (Eu4.2 (Em8 _ (Eu4.1 hx))),h s (Eu4.2 (Em1 ..))⟩
  ·rw [e,Dt7] at hi;obtain ⟨c,hc,hv⟩:=Bk5 (F6 R.reverse).1 s 256 i hi;exact ⟨c,hc,by rw [e,Al9 _ _ _ hc];exact hv⟩
  ·rw [e,Al9 _ _ _ hb] at hi;obtain ⟨c,hc,hv⟩:=Dm3 _ s b i hi;exact ⟨c,hc,by rw [e,Al9 _ _ _ (by omega)];exact hv⟩
theorem Do4 {s:Nat} (h:∃ b,b<256∧s.testBit b=true):L8 s<256∧s.testBit (L8 s)=true∧∀ c,c<L8 s→s.testBit c=false:=by
 unfold L8
 cases hf:(List.range 256).find? fun b=>s.testBit b with
 |none=>
  obtain ⟨b,hb,hv⟩:=h;have:=List.find?_eq_none.1 hf b (Em9.2 hb);exact absurd hv this
 |some v=>
  rw [Eo1];have h1:=List.find?_some hf;have h2:=List.mem_of_find?_eq_some hf;refine ⟨Em9.1 h2,h1,fun c hc=>?_⟩;obtain ⟨_,xs,ys,h3,h4⟩:=List.find?_eq_some_iff_append.1 hf
  have hl:xs.length=v:=by
   have h5:(List.range 256)[xs.length]?=some v:=by rw [h3];simp
   have:=Em7 (n:=256) (i:=xs.length) (by
    have:=congrArg List.length h3
    simp at this;omega)
   rw [this] at h5;injection h5
  have h6:(List.range 256)[c]?=some c:=Em7 (by have:=Em9.1 h2;omega)
  have h7:xs[c]?=some c:=by
   rw [h3,Em6 (by omega)] at h6;exact h6
  have:=h4 c (List.mem_of_getElem? h7)
  simpa using this
theorem Av1 (f:List Nat) (i b:Nat):(K3 f 256 i).testBit b=(decide (b<256) && decide (f.getD b 0=i)):=by
 unfold K3;rw [Ai1,El4];simp [Er4,Em9]
theorem Bl3 (S:List Nat) {i:Nat} (h:i<(F6 S).2):L8 (K3 (F6 S).1 256 i)<256∧(F6 S).1.getD (L8 (K3 (F6 S).1 256 i)) 0=i∧∀ c,c<L8 (K3 (F6 S).1 256 i)→(F6 S).1.getD c 0≠i:=by
 obtain ⟨b,hb,hv⟩:=(Bc7 S).all i h;obtain ⟨h1,h2,h3⟩:=Do4 (s:=K3 (F6 S).1 256 i) ⟨b,hb,by rw [Av1,El2 hb,El2 hv];rfl⟩;rw [Av1] at h2;simp only [Ek6,Em0] at h2;refine ⟨h1,h2.2,fun c hc hce=>?_⟩;have:=h3 c hc;rw [Av1,El2 (by omega),El2 hce] at this
 cases this
def dval (l:List UInt8):Nat:=l.foldl (fun a d=>10*a+(d.toNat - 48)) 0
theorem Ef1:∀ p,p<1000→dval (Ce8 p)=p:=by decide+kernel
theorem Ef4:∀ p,p<1000→(Ce8 p).all (fun d=>decide (48≤d.toNat) && decide (d.toNat≤57))=true:=by decide+kernel
theorem dec_ne:∀ p,p<1000→(Ce8 p).isEmpty=false:=by decide+kernel
theorem Du7 {α:Type} {z:α}:∀ {a b x y:List α},z∉a→z∉b→a++z::x=b++z::y→a=b∧x=y
 |[],[],x,y,_,_,h=>by simpa using h
 |[],c::b,x,y,_,hb,h=>by simp at h;exact absurd h.1 (by rintro rfl;exact hb (Em1 ..))
 |c::a,[],x,y,ha,_,h=>by simp at h;exact absurd h.1 (by rintro rfl;exact ha (Em1 ..))
 |c::a,e::b,x,y,ha,hb,h=>by
  simp only [Ek7,Eu7] at h;obtain ⟨h1,h2⟩:=Du7 (fun hm=>ha (Em8 _ hm)) (fun hm=>hb (Em8 _ hm)) h.2;exact ⟨by rw [h.1,h1],h2⟩
theorem Ef3 {p:Nat} (h:p<1000):(32:UInt8)∉Ce8 p:=fun hm=>by
 have:=Er5.1 (Ef4 p h) _ hm
 revert this;decide
theorem Af7 (p:Nat) (l:List Nat):P1 (p::l)=Ce8 p++32::P1 l:=by unfold P1;rw [Eo0];simp
theorem Ci0:∀ {a b:List Nat},(∀ x∈a,x<1000)→(∀ x∈b,x<1000)→P1 a=P1 b→a=b
 |[],[],_,_,_=>rfl
 |[],p::b,_,_,h=>by rw [Af7] at h;have:=congrArg List.length h;simp [P1] at this
 |p::a,[],_,_,h=>by rw [Af7] at h;have:=congrArg List.length h;simp [P1] at this
 |p::a,q::b,ha,hb,h=>by
  rw [Af7,Af7] at h;have hp:=ha p (Em1 ..);have hq:=hb q (Em1 ..);obtain ⟨h1,h2⟩:=Du7 (Ef3 hp) (Ef3 hq) h;have h3:=congrArg dval h1;rw [Ef1 p hp,Ef1 q hq] at h3;rw [h3,Ci0 (fun x hx=>ha x (Em8 _ hx)) (fun x hx=>hb x (Em8 _ hx)) h2]
theorem Cs7 {a:List Nat} (ha:∀ x∈a,x<1000):P1 a≠[102,105,114,115,116]:=fun h=>by
 cases a with
 |nil=>cases h
 |cons p r=>
  rw [Af7] at h;have hp:=ha p (Em1 ..);have h1:=dec_ne p hp;have h2:=Er5.1 (Ef4 p hp)
  cases hd:Ce8 p with
  |nil=>rw [hd] at h1;cases h1
  |cons c t=>
   rw [hd] at h h2;injection h with h3
   have:=h2 c (Em1 ..);rw [h3] at this
   revert this;decide
end Go.Clt
end
section
namespace Go.Clt
open Go Go.RowKit
theorem Eh4 (k:Kn) (q:Wst) (b x:Nat):x∈W9 k q b↔x<q.S.length∧(q.S.getD x 0).testBit b=true∧0<k.first x:=by
 unfold W9 Bf5;rw [Er4,Bl6,O3,Em9,Em0];refine and_congr_right fun hx=>?_
 have:(Ay5 q.S (Z2 k.first q.S.length) b).getD x 0=if (q.S.getD x 0).testBit b=false then 0 else k.first x:=by
  unfold Ay5;rw [Ek2,Ep2,Ek4 (by rw [O3];exact hx),En4,Eo1];have:=Ax0 k.first q.S.length x hx
  rw [Ek2,Ek4 (by rw [O3];exact hx),Eo1] at this;rw [this]
 rw [this]
 cases (q.S.getD x 0).testBit b
 ·simp
 ·simp
theorem next_mem (q:Wst) (l:List Nat) (b x:Nat):x∈Ar7 q l b↔x<q.S.length∧(q.S.getD x 0).testBit b=true∧∃ p,p∈l∧0<(q.G.getD p Q6) x:=by
 unfold Ar7 goF;rw [Er4,Em9,Er1];simp only [Ek6,Em0]
 constructor
 ·rintro ⟨h1,p,h2,h3,h4⟩;exact ⟨h1,h4,p,h2,h3⟩
 ·rintro ⟨h1,h4,p,h2,h3⟩;exact ⟨h1,p,h2,h3,h4⟩
def Aj5 (E:DE) (n:Nat) (s:List Nat) (b:Nat):List Nat:=if n=0 then W9 E.k E.q b else Ar7 E.q s b
theorem Cq0 (E:DE) (l:List St) (n b:Nat):I1 E l n b=Aj5 E n (l.getD n default).l b:=rfl
def Ap4 (E:DE):List Nat→List Nat
 |[]=>[]
 |b::r=>r.foldl (Ar7 E.q) (W9 E.k E.q b)
theorem Av3 (E:DE) {w:List Nat} (h:w≠[]) (b:Nat):Ap4 E (w++[b])=Ar7 E.q (Ap4 E w) b:=by
 cases w with
 |nil=>exact absurd rfl h
 |cons c r=>show (r++[b]).foldl _ _=_;rw [En9];rfl
theorem Dq8 {E:DE} {b c:Nat} (hf:E.f=(F6 E.q.S).1) (hb:b<256) (hc:c<256) (h:E.f.getD b 0=E.f.getD c 0) (n:Nat) (s:List Nat):Aj5 E n s b=Aj5 E n s c:=by
 rw [hf] at h;have hs:=((Bc7 E.q.S).same b c hb hc).1 h
 have hj:∀ j,(E.q.S.getD j 0).testBit b=(E.q.S.getD j 0).testBit c:=fun j=>by
  by_cases hj:j<E.q.S.length
  ·exact hs _ (G9 _ 0 j hj)
  ·rw [Ek2,El5 (by omega),Option.getD_none,Nat.zero_testBit,Nat.zero_testBit]
 unfold Aj5
 split
 ·unfold W9
  congr 1
  unfold Ay5
  congr 1
  funext j x
  rw [hj]
 ·unfold Ar7 goF
  congr 1
  funext i
  congr 1
  funext p
  rw [hj]
structure DX (E:DE) (D:DS):Prop where
 pos:0<D.l.length
 zm:(D.l.getD 0 default).meant=decide (0<E.k.void)
 zw:(D.l.getD 0 default).word=[]
 st:∀ i,0<i→i<D.l.length→S9 D.met (P1 (D.l.getD i default).l)=some (i:Int)∧(D.l.getD i default).meant=Cy0 E.k E.q (D.l.getD i default).l∧(D.l.getD i default).l=Ap4 E (D.l.getD i default).word∧(D.l.getD i default).word≠[]
 pv:∀ i,0<i→i<D.l.length→∀ x∈(D.l.getD i default).l,x<E.q.S.length
 mg:∀ a v,S9 D.met a=some v→a=Cn5∨∃ i:Nat,0<i∧i<D.l.length∧v=(i:Int)∧a=P1 (D.l.getD i default).l
 nx:∀ i,i<D.l.length→∀ m,m<(D.l.getD i default).next.length→0<(D.l.getD i default).next.getD m 0∧(D.l.getD i default).next.getD m 0<D.l.length∧(D.l.getD ((D.l.getD i default).next.getD m 0) default).l=Aj5 E i (D.l.getD i default).l (E.bytes.getD m 0)
theorem Ei2 (D:DS) (n v i:Nat) (hn:n<D.l.length):(N5 D n v).l.getD i default=if n=i then { D.l.getD n default with next:=(D.l.getD n default).next++[v] } else D.l.getD i default:=by
 unfold N5;dsimp only;rw [Ai9 _ _ _ _ _ hn]
 by_cases h:n=i
 ·rw [Ek1 h,Ek1 h.symm]
 ·rw [Ek0 h,Ek0 (fun x=>h x.symm)]
theorem add_same (D:DS) (n v i:Nat) (hn:n<D.l.length):((N5 D n v).l.getD i default).l=(D.l.getD i default).l∧((N5 D n v).l.getD i default).word=(D.l.getD i default).word∧((N5 D n v).l.getD i default).meant=(D.l.getD i default).meant:=by
 rw [Ei2 D n v i hn]
 split
 ·rename_i h;subst h;exact ⟨rfl,rfl,rfl⟩
 ·exact ⟨rfl,rfl,rfl⟩
theorem add_x {E:DE} {D:DS} {n b v:Nat} (h:DX E D) (hn:n<D.l.length) (hb:E.bytes.getD (D.l.getD n default).next.length 0=b) (hv0:0<v) (hv:v<D.l.length) (hl:(D.l.getD v default).l=Aj5 E n (D.l.getD n default).l b):DX E (N5 D n v):=by
 have len:(N5 D n v).l.length=D.l.length:=by simp [N5]
 have hs:=fun i=>add_same D n v i hn
 have hm:(N5 D n v).met=D.met:=rfl
 refine ⟨by rw [len];exact h.pos,by rw [(hs 0).2.2];exact h.zm,by rw [(hs 0).2.1];exact h.zw,fun i h0 hi=>?_,fun i h0 hi=>?_,fun a u ha=>?_,fun i hi m hmn=>?_⟩
 ·rw [(hs i).1,(hs i).2.1,(hs i).2.2,hm];rw [len] at hi;exact h.st i h0 hi
 ·rw [(hs i).1];rw [len] at hi;exact h.pv i h0 hi
 ·rw [hm] at ha
  rcases h.mg a u ha with h1|⟨i,h1,h2,h3,h4⟩
  ·exact .inl h1
  ·exact .inr ⟨i,h1,by rw [len];exact h2,h3,by rw [(hs i).1];exact h4⟩
 ·rw [len] at hi ⊢;rw [(hs _).1,(hs i).1];have hg:=Ei2 D n v i hn
  by_cases hin:n=i
  ·subst hin;rw [Ek1 J] at hg;have hg:((N5 D n v).l.getD n default).next=(D.l.getD n default).next++[v]:=by rw [hg]
   rw [hg] at hmn ⊢
   by_cases hm2:m<(D.l.getD n default).next.length
   ·rw [Ek2,Em6 hm2,← Ek2];exact h.nx n hi m hm2
   ·have:m=(D.l.getD n default).next.length:=by rw [Ek5,Ep0] at hmn;omega
    subst this;rw [hb,Ek2,Em2 (El1 _),Ev0];exact ⟨hv0,hv,hl⟩
  ·rw [Ek0 hin] at hg;rw [hg] at hmn ⊢;exact h.nx i hi m hmn
theorem snoc_x {E:DE} {D:DS} {n b:Nat} (hq:E.q.S.length≤1000) (h:DX E D) (hn:n<D.l.length) (hno:S9 D.met (P1 (I1 E D.l n b))=none):
  DX E { D with met:=Ba4 D.met (P1 (I1 E D.l n b)) (D.l.length:Nat),l:=D.l++[Ab0 E D.l n b] }:=by
 have hg:∀ i,i<D.l.length→(D.l++[Ab0 E D.l n b]).getD i default=D.l.getD i default:=fun i hi=>Aq6 hi
 have hlast:(D.l++[Ab0 E D.l n b]).getD D.l.length default=Ab0 E D.l n b:=by rw [Z5 _ _ _ _ (El1 _),Ek1 J]
 have hlen:(D.l++[Ab0 E D.l n b]).length=D.l.length+1:=by simp
 have hnew:Ap4 E ((D.l.getD n default).word++[b])=I1 E D.l n b:=by
  rw [Cq0];unfold Aj5
  by_cases h0:n=0
  ·rw [Ek1 h0,h0,h.zw];rfl
  ·rw [Ek0 h0];obtain ⟨_,_,h3,h4⟩:=h.st n (by omega) hn;rw [Av3 E h4,← h3]
 refine ⟨by show 0<(D.l++_).length;omega,by rw [hg 0 h.pos];exact h.zm,by rw [hg 0 h.pos];exact h.zw,fun i h0 hi=>?_,fun i h0 hi=>?_,fun a u ha=>?_,fun i hi m hmn=>?_⟩
 ·change i<(D.l++[Ab0 E D.l n b]).length at hi;show S9 (Ba4 D.met _ _) _=_∧_;rw [Z3]
  by_cases hc:i<D.l.length
  ·dsimp only;rw [hg i hc];obtain ⟨h1,h2⟩:=h.st i h0 hc;rw [Ek0 (by intro he;rw [he,hno] at h1;cases h1)];exact ⟨h1,h2⟩
  ·have:i=D.l.length:=by omega
   subst this;dsimp only;rw [hlast];rw [Ek1 (show P1 (Ab0 E D.l n b).l=P1 (I1 E D.l n b) from rfl)];exact ⟨rfl,rfl,hnew.symm,by show (D.l.getD n default).word++[b]≠[];simp⟩
 ·change i<(D.l++[Ab0 E D.l n b]).length at hi;dsimp only
  by_cases hc:i<D.l.length
  ·rw [hg i hc];exact h.pv i h0 hc
  ·have:i=D.l.length:=by omega
   subst this;rw [hlast];exact (Ah2 E D.l n b).1
 ·change S9 (Ba4 D.met _ _) a=_ at ha;rw [Z3] at ha
  by_cases hc:a=P1 (I1 E D.l n b)
  ·rw [Ek1 hc] at ha;injection ha with ha
   exact .inr ⟨D.l.length,h.pos,by show _<(D.l++_).length;omega,ha.symm,by dsimp only;rw [hlast];exact hc⟩
  ·rw [Ek0 hc] at ha
   rcases h.mg a u ha with h1|⟨i,h1,h2,h3,h4⟩
   ·exact .inl h1
   ·exact .inr ⟨i,h1,by show _<(D.l++_).length;omega,h3,by dsimp only;rw [hg i h2];exact h4⟩
 ·change i<(D.l++[Ab0 E D.l n b]).length at hi;dsimp only at hmn ⊢
  by_cases hc:i<D.l.length
  ·rw [hg i hc] at hmn ⊢;obtain ⟨h1,h2,h3⟩:=h.nx i hc m hmn;rw [hg _ h2];exact ⟨h1,by omega,h3⟩
  ·have:i=D.l.length:=by omega
   subst this;rw [hlast] at hmn;exact absurd hmn (Nat.not_lt_zero _)
theorem Ce4 {E:DE} {n b:Nat} {D:DS} (h:(L0 E n D b).full=false):D.full=false:=by
 unfold L0 at h;change (R4 E D (P1 (I1 E D.l n b)) (Ab0 E D.l n b)).2.full=false at h;unfold R4 at h
 cases hm:S9 D.met (P1 (I1 E D.l n b)) with
 |some v=>rw [hm] at h;exact h
 |none=>
  rw [hm] at h;simp only [] at h
  split at h
  ·cases h
  ·exact h
theorem Dp0 {E:DE} {D:DS} {n b:Nat} (hq:E.q.S.length≤1000) (h:DX E D) (hn:n<D.l.length) (hb:E.bytes.getD (D.l.getD n default).next.length 0=b) (hf:(L0 E n D b).full=false):DX E (L0 E n D b):=by
 have hlt:∀ x∈I1 E D.l n b,x<1000:=fun x hx=>by have:=(Ah2 E D.l n b).1 x hx;omega
 unfold L0 at hf ⊢;change (R4 E D (P1 (I1 E D.l n b)) (Ab0 E D.l n b)).2.full=false at hf;dsimp only;unfold R4 at hf ⊢
 cases hm:S9 D.met (P1 (I1 E D.l n b)) with
 |some v=>
  simp only []
  rcases h.mg _ _ hm with h1|⟨i,h1,h2,h3,h4⟩
  ·exact absurd h1 (Cs7 hlt)
  ·have h5:=Ci0 hlt (fun x hx=>by have:=h.pv i h1 h2 x hx;omega) h4;rw [h3,Ek9];exact add_x h hn hb h1 h2 (by rw [← h5,Cq0])
 |none=>
  rw [hm] at hf;simp only [] at hf ⊢
  split at hf
  ·cases hf
  ·rename_i hbu
   rw [Ek0 hbu];have hx:=snoc_x hq h hn hm;have hg:(D.l++[Ab0 E D.l n b]).getD n default=D.l.getD n default:=Aq6 hn;have hlast:(D.l++[Ab0 E D.l n b]).getD D.l.length default=Ab0 E D.l n b:=by rw [Z5 _ _ _ _ (El1 _),Ek1 J]
   refine add_x (b:=b) hx (by show _<(D.l++_).length;rw [Ek5];omega) (by dsimp only;rw [hg];exact hb) h.pos (by show _<(D.l++_).length;simp) ?_;dsimp only;rw [hlast,hg];rfl
theorem Ay9 {E:DE} {n:Nat}:∀ (l:List Nat) (D:DS),(l.foldl (L0 E n) D).full=false→D.full=false
 |[],D,h=>h
 |b::r,D,h=>Ce4 (Ay9 r _ h)
theorem Bm8 {E:DE} {n:Nat} (hq:E.q.S.length≤1000) (hby:∀ b∈E.bytes,b<256):∀ (r p:List Nat) (D:DS),E.bytes=p++r→DInv E D n p.length→DX E D→n<D.l.length→(r.foldl (L0 E n) D).full=false→
  DX E (r.foldl (L0 E n) D)∧DInv E (r.foldl (L0 E n) D) n E.bytes.length∧D.l.length≤(r.foldl (L0 E n) D).l.length
 |[],p,D,he,hi,hx,hn,hf=>⟨hx,by rw [he,Ep1];exact hi,El1 _⟩
 |b::r,p,D,he,hi,hx,hn,hf=>by
  have h1:=Ay9 r _ hf;have hbm:b<256:=hby b (by rw [he];simp);have hlen:=hi.nx n hn;rw [Ek0 (Nat.lt_irrefl _),Ek1 J] at hlen;have hx2:=Dp0 hq hx hn (by rw [hlen,he,Ek2,Em2 (El1 _),Ev0];rfl) h1;obtain ⟨hi2,hle⟩:=Co1 hi hn hbm;obtain ⟨a1,a2,a3⟩:=Bm8 hq hby r (p++[b]) _ (by rw [he];simp) (by rw [Ek5];exact hi2) hx2 (by omega) hf;exact ⟨a1,a2,En6 hle a3⟩
theorem Bv7 {E:DE} (hq:E.q.S.length≤1000) (hby:∀ b∈E.bytes,b<256):∀ (f n:Nat) (D:DS),DInv E D n 0→DX E D→(U8 E f n D).full=false→DX E (U8 E f n D)
 |0,n,D,hi,hx,hf=>hx
 |f+1,n,D,hi,hx,hf=>by
  rw [U8] at hf ⊢
  by_cases hc:n<D.l.length∧D.full=false
  ·rw [Ek1 hc] at hf ⊢;have h1:=Ap1 E f (n+1) _ hf;obtain ⟨a1,a2,a3⟩:=Bm8 hq hby E.bytes [] D rfl hi hx hc.1 h1;exact Bv7 hq hby f (n+1) _ a2.go a1 hf
  ·rw [Ek0 hc] at hf ⊢;exact hx
theorem D0_x {E:DE} (h:(D0 E).full=false):DX E (D0 E):=by
 have e:D0 E=⟨[st0 E],[(Cn5,0)],false⟩:=by
  unfold D0 R4 at h ⊢;simp only [Ai6] at h ⊢
  split at h
  ·cases h
  ·rename_i hb;rw [Ek0 hb];rfl
 rw [e];have no:∀ i,0<i→i<[st0 E].length→False:=fun i h0 hi=>by simp at hi;omega
 refine ⟨by simp,rfl,rfl,fun i h0 hi=>(no i h0 hi).elim,fun i h0 hi=>(no i h0 hi).elim,fun a u ha=>.inl ?_,fun i hi m hm=>?_⟩
 ·rw [Z4] at ha
  split at ha
  ·rename_i hc;exact hc
  ·cases ha
 ·have:i=0:=by simp at hi;omega
  subst this;exact absurd hm (Nat.not_lt_zero _)
theorem Do9 {E:DE} (hq:E.q.S.length≤1000) (hby:∀ b∈E.bytes,b<256) (hf:(O5 E).full=false):DX E (O5 E):=by
 rw [Au7] at hf ⊢;exact Bv7 hq hby _ 0 _ (D0_inv E) (D0_x (Ap1 E _ _ _ hf)) hf
structure DLaw (E:DE) (l:List St):Prop where
 zm:(l.getD 0 default).meant=decide (0<E.k.void)
 zw:(l.getD 0 default).word=[]
 st:∀ i,0<i→i<l.length→(l.getD i default).meant=Cy0 E.k E.q (l.getD i default).l∧(l.getD i default).l=Ap4 E (l.getD i default).word∧(l.getD i default).word≠[]
 nx:∀ i,i<l.length→∀ b,b<256→0<J7 E l i b∧J7 E l i b<l.length∧(l.getD (J7 E l i b) default).l=Aj5 E i (l.getD i default).l b
theorem dfa_law {k:Kn} {q:Wst} {budget:Nat} {l:List St} (hq:q.S.length≤1000) (h:Dp2 k q budget=some l) (hg:DGood (Bv9 k q budget) l):DLaw (Bv9 k q budget) l:=by
 unfold Dp2 at h;dsimp only at h;generalize hE:Bv9 k q budget=E at*;have hEq:E.q=q:=by rw [← hE];rfl
 have hEf:E.f=(F6 E.q.S).1:=by rw [← hE];rfl
 have hEb:E.bytes=Ak1 E.f E.nB:=by rw [← hE];rfl
 have hEn:E.nB=(F6 E.q.S).2:=by rw [← hE];rfl
 split at h
 ·cases h
 rename_i hf
 have hf:(O5 E).full=false:=by simpa using hf
 have hX:=Do9 (by rw [hEq];exact hq) hg.by_ hf;generalize O5 E=D at*;injection h with h
 have hlen:l.length=D.l.length:=by rw [← h,Cl8]
 have hs:∀ i,i<l.length→sameSt (l.getD i default) (D.l.getD i default):=fun i hi=>by rw [← h];exact Bb5 D.l i (by omega)
 have hs0:=hs 0 hg.pos
 refine ⟨by rw [hs0.2.2.2];exact hX.zm,by rw [hs0.2.1];exact hX.zw,fun i h0 hi=>?_,fun i hi b hb=>?_⟩
 ·have h1:=hs i hi;obtain ⟨_,h2,h3,h4⟩:=hX.st i h0 (by omega);rw [h1.1,h1.2.1,h1.2.2.2];exact ⟨h2,h3,h4⟩
 ·have h1:=hs i hi;have hfb:=hg.fv b hb;have hnl:=hg.nx i hi;rw [h1.2.2.1] at hnl;obtain ⟨a1,a2,a3⟩:=hX.nx i (by omega) (E.f.getD b 0) (by rw [hnl];exact hfb);have he:J7 E l i b=(D.l.getD i default).next.getD (E.f.getD b 0) 0:=by unfold J7;rw [h1.2.2.1]
  rw [he,hlen,(hs _ (by omega)).1,a3,h1.1];refine ⟨a1,a2,?_⟩;have hle:=Bl3 E.q.S (i:=E.f.getD b 0) (by rw [← hEn];exact hfb);rw [← hEf] at hle
  have hby:E.bytes.getD (E.f.getD b 0) 0=L8 (K3 E.f 256 (E.f.getD b 0)):=by
   rw [hEb];unfold Ak1;rw [Ek2,El8,Em7 hfb];rfl
  rw [hby];exact Dq8 hEf hle.1 hb hle.2.1 i _
theorem run_snoc (E:DE) (l:List St) (L:List Nat) (b:Nat):Bw2 E l (L++[b])=J7 E l (Bw2 E l L) b:=by
 unfold Bw2;rw [En9];rfl
theorem run_law {E:DE} {l:List St} (hg:DGood E l) (h:DLaw E l):∀ L:List Nat,(∀ b∈L,b<256)→L≠[]→0<Bw2 E l L∧Bw2 E l L<l.length∧(l.getD (Bw2 E l L) default).l=Ap4 E L:=by
 suffices H:∀ R:List Nat,(∀ b∈R,b<256)→R≠[]→0<Bw2 E l R.reverse∧Bw2 E l R.reverse<l.length∧(l.getD (Bw2 E l R.reverse) default).l=Ap4 E R.reverse by
  intro L hL hne;have:=H L.reverse (fun b hb=>hL b (Eu4.1 hb)) (by simpa using hne)
  rwa [List.reverse_reverse] at this
 intro R
 induction R with
 |nil=>intro _ h;exact absurd rfl h
 |cons b r ih=>
  intro hb _;rw [List.reverse_cons,run_snoc];have hb0:=hb b (Em1 ..)
  by_cases hr:r=[]
  ·subst hr;obtain ⟨a1,a2,a3⟩:=h.nx 0 hg.pos b hb0;exact ⟨a1,a2,a3⟩
  ·obtain ⟨i1,i2,i3⟩:=ih (fun x hx=>hb x (Em8 _ hx)) hr;obtain ⟨a1,a2,a3⟩:=h.nx _ i2 b hb0;refine ⟨a1,a2,?_⟩;rw [a3,Av3 E (by simpa using hr),i3];unfold Aj5;rw [Ek0 (by omega)]
theorem Dz9 {E:DE} {l:List St} (hg:DGood E l) (h:DLaw E l) (L:List Nat) (hL:∀ b∈L,b<256):(l.getD (Bw2 E l L) default).meant=if L.length=0 then decide (0<E.k.void) else Cy0 E.k E.q (Ap4 E L):=by
 by_cases h0:L.length=0
 ·rw [Ek1 h0,Eq6 h0];exact h.zm
 ·rw [Ek0 h0];obtain ⟨a1,a2,a3⟩:=run_law hg h L hL (fun he=>h0 (by rw [he];rfl));rw [(h.st _ a1 a2).1,a3]
end Go.Clt
end
namespace Go.Clt
open Go Go.RowKit Go.Proofs
section
section
variable {n:Nat} {e:Env} {w:World} {t:TypeId} {p:String} {af:Array Edge} {dst:Option Tmp} {g:Option (Nat × Bool)}
theorem Ah3 {f:FuncId} {x:Operand} {nm:String} {xs:Array Operand} {ts:Array TypeId} {vs:List Value} {ty:TypeId} {v:Value} (hx:ev e x=some (.iface ty v)) (hp:evs e xs.toList=some vs)
  (hm:∀ w,(callMethod (.iface ty v) nm vs.toArray).run P w= .ok (.enter f (#[v]++vs.toArray)) w):
  Enters P n e ⟨dst,.call { callee:=.invoke x nm,args:=xs,argTypes:=ts },t,p,af,g⟩ w f (#[v]++vs.toArray):=fun a ha=>by
 have h1:(#[Value.iface ty v]++vs.toArray).extract 1 (#[Value.iface ty v]++vs.toArray).size=vs.toArray:=by
  apply Array.ext';simp
 have h2:(#[Value.iface ty v]++vs.toArray)[0]?=some (.iface ty v):=by simp
 simp only [execOp,resolve,ha.ev hx,U7 ha hp,Sem.run_bind,Sem.run_pure,Result.andThen_ok,invoke];rw [h2,h1];exact hm w
end
theorem mBytes (v:Value) (w:World):(callMethod (.iface 31 v) "Bytes" #[]).run P w= .ok (.enter 22 #[v]) w:=by kernel_rfl
theorem mStates (v:Value) (w:World):(callMethod (.iface 31 v) "States" #[]).run P w= .ok (.enter 15 #[v]) w:=by kernel_rfl
theorem mMeant (v a:Value) (w:World):(callMethod (.iface 31 v) "Meant" #[a]).run P w= .ok (.enter 18 #[v,a]) w:=by kernel_rfl
theorem mNext (v a b:Value) (w:World):(callMethod (.iface 31 v) "Next" #[a,b]).run P w= .ok (.enter 16 #[v,a,b]) w:=by kernel_rfl
theorem Bd0 {φ:World→Prop} {n:Nat} {e:Env} {t:TypeId} {p:String} {af:Array Edge} {dst:Option Tmp} {g:Option (Nat × Bool)} {ty el:TypeId} {x:Operand} {v:Value} (hu:P.underlying ty=some (.pointer el)) (hx:ev e x=some v):Does P n e ⟨dst,.makeInterface ty x,t,p,af,g⟩ φ (.iface ty v):=fun a w ha _=>by
 simp [execOp,ha.ev hx,Instr.makeInterface,run_underlying hu]
theorem u31:P.underlying 31=some (.pointer 86):=by kernel_rfl
end
def Br4 (l:List St):List Int:=l.map fun s=>if s.meant then 1 else 0
def Ai5 (E:DE) (l:List St) (v:List Int) (i:Nat) (s:Int) (b:Nat):Int:=Av6 [s,v.getD (J7 E l i b) 0]
def Dz1 (E:DE) (l:List St) (v:List Int) (i:Nat):Int:=E.bytes.foldl (Ai5 E l v i) 0
def Dm6 (E:DE) (l:List St) (v:List Int):List Int:=(List.range l.length).map (Dz1 E l v)
def X3 (E:DE) (l:List St):Nat→List Int
 |0=>Br4 l
 |k+1=>Dm6 E l (X3 E l k)
def Ca2 (E:DE) (l:List St) (v:List Int) (i:Nat) (s:Int):List Int:=(List.range l.length).map fun x=>if x<i then Dz1 E l v x else if x=i then s else 0
theorem Bg5 (E:DE) (l:List St) (v:List Int) (i:Nat) (s:Int):(Ca2 E l v i s).length=l.length:=by simp [Ca2]
theorem outI_get (E:DE) (l:List St) (v:List Int) (i:Nat) (s:Int) (h:i<l.length):(Ca2 E l v i s).getD i 0=s:=by
 simp [Ca2,Ek2,h]
theorem outI_set (E:DE) (l:List St) (v:List Int) (i:Nat) (s s':Int):(Ca2 E l v i s).set i s'=Ca2 E l v i s':=by
 apply Em4;intro j;simp only [Ca2,En1,El8,Eo2,Eq4]
 by_cases hj:i=j
 ·subst hj
  by_cases h:i<l.length
  ·simp [h]
  ·simp [El5 (l:=List.range l.length) (i:=i) (by simp;omega),h]
 ·simp only [Ek0 hj]
  by_cases h:j<l.length
  ·simp [h,show ¬ j=i from fun h=>hj h.symm]
  ·simp [El5 (l:=List.range l.length) (i:=j) (by simp;omega)]
theorem Dx4 (E:DE) (l:List St) (v:List Int) (i:Nat):Ca2 E l v i (Dz1 E l v i)=Ca2 E l v (i+1) 0:=by
 unfold Ca2;apply Eq3;intro x _
 by_cases h1:x<i
 ·rw [Ek1 h1,Ek1 (by omega)]
 ·rw [Ek0 h1]
  by_cases h2:x=i
  ·rw [Ek1 h2,Ek1 (by omega),h2]
  ·rw [Ek0 h2,Ek0 (by omega)];split<;>rfl
theorem Dx3 (E:DE) (l:List St) (v:List Int):Ca2 E l v 0 0=List.replicate l.length 0:=by
 unfold Ca2;rw [Et9];refine ⟨by simp,fun x hx=>?_⟩;obtain ⟨y,_,rfl⟩:=Eo9.1 hx;rw [Ek0 (by omega)];split<;>rfl
theorem outI_all (E:DE) (l:List St) (v:List Int):Ca2 E l v l.length 0=Dm6 E l v:=by
 unfold Ca2 Dm6;apply Eq3;intro x hx;rw [Ek1 (Em9.1 hx)]
theorem Ai4 (E:DE) (l:List St) (v:List Int) (i:Nat):∀ (r:List Nat) (s:Int),0≤s∧s≤9223372036854775807→0≤r.foldl (Ai5 E l v i) s∧r.foldl (Ai5 E l v i) s≤9223372036854775807
 |[],s,h=>h
 |b::r,s,h=>Ai4 E l v i r _ (X7 _)
theorem Bn3 (E:DE) (l:List St):∀ k,(X3 E l k).length=l.length∧rangeOk (X3 E l k)
 |0=>⟨by simp [X3,Br4],fun x hx=>by
   obtain ⟨s,_,rfl⟩:=Eo9.1 hx
   split<;>omega⟩
 |k+1=>⟨by simp [X3,Dm6],fun x hx=>by
   obtain ⟨i,_,rfl⟩:=Eo9.1 hx
   exact Ai4 E l _ i _ 0 (by omega)⟩
def Ac4 (l:List St) (i:Nat):List Int:=(List.range l.length).map fun x=>if x<i∧(l.getD x default).meant=true then 1 else 0
theorem Bu2 (l:List St) (i:Nat):(Ac4 l i).length=l.length:=by simp [Ac4]
theorem Cv3 (l:List St):Ac4 l 0=List.replicate l.length 0:=by
 unfold Ac4;rw [Et9];refine ⟨by simp,fun x hx=>?_⟩;obtain ⟨y,_,rfl⟩:=Eo9.1 hx;rw [Ek0 (by omega)]
theorem Dn3 (l:List St):Ac4 l l.length=Br4 l:=by
 apply Em4;intro j;simp only [Ac4,Br4,El8]
 by_cases h:j<l.length
 ·simp [h,Ek2]
 ·simp [El5 (l:=l) (i:=j) (by omega),El5 (l:=List.range l.length) (i:=j) (by simp;omega)]
theorem Dn2 (l:List St) (i:Nat) (h:(l.getD i default).meant=true):(Ac4 l i).set i 1=Ac4 l (i+1):=by
 apply Em4;intro j;simp only [Ac4,En1,El8,Eo2,Eq4]
 by_cases hj:i=j
 ·subst hj
  by_cases hl:i<l.length
  ·simp [hl,← List.getD_eq_getElem?_getD,h]
  ·simp [El5 (l:=List.range l.length) (i:=i) (by simp;omega),hl]
 ·simp only [Ek0 hj]
  by_cases hl:j<l.length
  ·simp only [Em7 hl,En4]
   congr 1
   by_cases h2:j<i
   ·simp [h2,show j<i+1 by omega]
   ·simp [h2,show ¬ j<i+1 by omega]
  ·simp [El5 (l:=List.range l.length) (i:=j) (by simp;omega)]
theorem Cv4 (l:List St) (i:Nat) (h:(l.getD i default).meant=false):Ac4 l i=Ac4 l (i+1):=by
 unfold Ac4;apply Eq3;intro x _
 by_cases h2:x=i
 ·subst h2;rw [Ek0 (by omega),Ek0 (by rw [h];simp)]
 ·have:(x<i)=(x<i+1):=propext ⟨fun _=>by omega,fun _=>by omega⟩;simp only [this]
structure CntM (F:Nat→Prop) (w:World) (pc p:Nat) (E:DE) (l:List St) (m:Nat) (Ab:Option Addr) (cb:Nat) (Al:Option Addr) (cl:Nat) (gs:List Nat):Prop where
 blk:Blk w pc [.iface 31 (.pointer (some ⟨p,0,none⟩)),.slice Ab E.bytes.length cb,.slice Al m cl] 107
 fp:F pc
 rb:Rd F w 1 Ab E.bytes.length (bys E.bytes)
 rl:Rd F w 1 Al m (Am8 l.length gs)
 gl:gs.length=m
 row:∀ i,i<m→F (gs.getD i 0)∧Blk w (gs.getD i 0) (I8 (X3 E l i)) 3
theorem CntM.q {F:Nat→Prop} {w w':World} {pc p:Nat} {E:DE} {l:List St} {m:Nat} {Ab:Option Addr} {cb:Nat} {Al:Option Addr} {cl:Nat} {gs:List Nat} {S:List Nat} (h:CntM F w pc p E l m Ab cb Al cl gs) (c:Chg S w w') (hS:∀ b∈S,¬ F b):CntM F w' pc p E l m Ab cb Al cl gs:=
 ⟨h.blk.q c (fun hm=>hS _ hm h.fp),h.fp,h.rb.q c hS,h.rl.q c hS,h.gl,fun i hi=>⟨(h.row i hi).1,(h.row i hi).2.q c (fun hm=>hS _ hm (h.row i hi).1)⟩⟩
theorem CntM.u {F:Nat→Prop} {w w':World} {pc p:Nat} {E:DE} {l:List St} {m:Nat} {Ab:Option Addr} {cb:Nat} {Al:Option Addr} {cl:Nat} {gs:List Nat} (h:CntM F w pc p E l m Ab cb Al cl gs) (c:Chg [] w w'):CntM F w' pc p E l m Ab cb Al cl gs:=h.q c (by simp)
def IsCnt (F:Nat→Prop) (w:World) (pc p:Nat) (E:DE) (l:List St) (m:Nat):Prop:=∃ Ab cb Al cl gs,CntM F w pc p E l m Ab cb Al cl gs
def Ck4 (E:DE) (l:List St) (v:List Int) (st:Nat):Int→List Nat→Int × Option Nat
 |k,[]=>(k,none)
 |k,b::r=>if v.getD (J7 E l st b) 0≤k then Ck4 E l v st (k - v.getD (J7 E l st b) 0) r else (k,some b)
def Cr7 (E:DE) (l:List St):Nat→Nat→Int→List Nat→List Nat
 |0,_,_,w=>w
 |n+1,st,k,w=>
  match Ck4 E l (X3 E l n) st k E.bytes with
  |(k',none)=>Cr7 E l n st k' w
  |(k',some b)=>Cr7 E l n (J7 E l st b) k' (w++[b])
theorem more_c (F F2:Nat→Prop) (pc p:Nat) (E:DE) (l:List St) (m:Nat) (Ab:Option Addr) (cb:Nat) (Al:Option Addr) (cl:Nat) (gs:List Nat) (w:World) (hFw:∀ x,F x→x<w.heap.size) (hFw2:∀ x,F2 x→x<w.heap.size) (hK:CntM F w pc p E l (m+1) Ab cb Al cl gs) (hD:IsDfa F2 w p E l) (hm:m≤2000):
  Calls P 87 #[.pointer (some ⟨pc,0,none⟩)] w (Ret fun u w'=>Chg [] w w'∧∃ b,u= .slice (some ⟨b,0,none⟩) l.length l.length∧w.heap.size≤b∧Blk w' b (I8 (X3 E l (m+1))) 3):=by
 have hC:=A8 [] w;have hg:=hD.good;have hle:=hg.le;have hnb:=hg.nb;have hbn:=hg.bl;have hby:=hg.by_;have hco:=Bn3 E l m;have hB0:=hK.blk;have hBv:=(hK.row m (by omega)).2;have hpc:=hFw _ hK.fp;have hvw:=hFw _ (hK.row m (by omega)).1;have hR:=hK.rb;have hAl:∃ g off,Al=some ⟨g,off,none⟩:=by obtain ⟨g,off,h,_⟩:=hK.rl.at_ (by omega);exact ⟨g,off,h⟩
 obtain ⟨g,off,rfl⟩:=hAl;have hcell:=(hK.rl.one (Ac3 l.length gs m (by rw [hK.gl];omega))).2;have hgl:=hK.gl;obtain ⟨bv,hbv⟩:∃ bv,bv=gs.getD m 0:=⟨_,rfl⟩;rw [← hbv] at hcell hBv hvw;have hcell2:w.cell? ⟨g,off+(((m+1:Nat):Int) - 1).toNat,none⟩=some (.slice (some ⟨bv,0,none⟩) l.length l.length):=by rw [show (((m+1:Nat):Int) - 1).toNat=m by omega];exact hcell
 try have hlR:=hR.lt
 refine D4 Tryz.func87 J J (Qd (Zc 1 J (Qa (C8 (S:=[]) 10 [(0,0),(0,1),(0,2),(0,3),(0,4),(0,5),(0,6),(0,7),(0,8),(0,9),(2,10),(2,11),(2,12)] mo (by kernel_rfl) ?_))));intro w1 hx1 hh1;have hC:=hC.s0 hx1;have hB0:=hB0.u hx1;refine Z 2 J (Fa Af3 J (D6 J (B3 o25 J ‹_› (by simp;done) (by rfl)) ?_));refine Z 2 J (Fa Af3 J (D6 J (B3 o25 J ‹_› (by simp;done) (by rfl)) ?_));refine Ln Tryz.underlying25 J (Su J J (by omega) (C9 J (B0 Cr6 J J (by omega) (by omega)) (Lc o24 J (show World.cell? _ _=_ from (Chg.cell ‹_› (by simp) hcell2)) ?_)));refine Zc 1 J (Qd (Z 1 J (Ln Tryz.underlying24 J (B5 J (O7 Dg6 zr3 J (cs:=I8 (List.replicate l.length 0)) (by omega) (by omega) (by show (madeCells #[_] (((l.length:Nat):Int).toNat*1)).toList=_;rw [Ek9,En8,T4];simp [I8])) ?_))));intro b2 w2 hb2 hs2 hx2 hB2;have hC:=hC.s0 hx2;have hD:=hD.u (hx1.s0 hx2);have hB0:=hB0.u hx2;have hBv:=hBv.u (hx1.s0 hx2);have hR:=hR.u (hx1.s0 hx2);refine Zc 1 J (Qa (Qd ?_));have hb2w:w.heap.size≤b2:=by omega
 have hB2':Blk w2 b2 (I8 (Ca2 E l (X3 E l m) 0 0)) 3:=by rw [Dx3];assumption
 refine Z 1 J (Ln Tryz.underlying24 J (Zc 1 J (B2 (D8 (σ:=Nat) (fun i=>[(0,.pointer (some ⟨pc,0,none⟩)),(3,.slice (some ⟨bv,0,none⟩) l.length l.length),(4,.slice (some ⟨b2,0,none⟩) l.length l.length),(26,.int .i64 (l.length:Nat)),(27,.int .i64 i)]) (fun i wr=>Chg [] w wr∧IsDfa F2 wr p E l∧Blk wr pc [.iface 31 (.pointer (some ⟨p,0,none⟩)),.slice Ab E.bytes.length cb,.slice (some ⟨g,off,none⟩) (m+1) cl] 107∧Blk wr bv (I8 (X3 E l m)) 3∧Rd F wr 1 Ab E.bytes.length (bys E.bytes)∧Blk wr b2 (I8 (Ca2 E l (X3 E l m) i 0)) 3∧i≤l.length) (fun i wr=>l.length - i) 0 (sb J) ?_ ?_))))
 ·exact ⟨hC,hD,hB0,hBv,hR,hB2',El0 _⟩
 rintro i w9 ⟨hC,hD,hB0,hBv,hR,hBo,hi⟩
 try have hlR:=hR.lt
 refine Qd (Zc 1 J (Qa (A4 J (fun h1=>?_) (fun h1=>?_))))
 ·try simp at h1
  have hin:i<l.length:=by omega
  refine A7 (Qa (B2 (Qd (Zc 2 J (Qd (Z 2 J (Fa Cx3 J (Lb o44 J ‹_› (by rfl) ?_))))))))
  refine Ln Tryz.underlying44 J (Zc 1 J (B2 (D8 (σ:=Nat) (fun j=>[(0,.pointer (some ⟨pc,0,none⟩)),(3,.slice (some ⟨bv,0,none⟩) l.length l.length),(4,.slice (some ⟨b2,0,none⟩) l.length l.length),(26,.int .i64 (l.length:Nat)),(27,.int .i64 i),(5,.int .i64 i),(33,.slice Ab E.bytes.length cb),(34,.int .i64 (E.bytes.length:Nat)),(35,.int .i64 j)]) (fun j wr=>Chg [] w wr∧IsDfa F2 wr p E l∧Blk wr pc [.iface 31 (.pointer (some ⟨p,0,none⟩)),.slice Ab E.bytes.length cb,.slice (some ⟨g,off,none⟩) (m+1) cl] 107∧Blk wr bv (I8 (X3 E l m)) 3∧Rd F wr 1 Ab E.bytes.length (bys E.bytes)∧Blk wr b2 (I8 (Ca2 E l (X3 E l m) i ((E.bytes.take j).foldl (Ai5 E l (X3 E l m) i) 0))) 3∧j≤E.bytes.length) (fun j wr=>E.bytes.length - j) 0 (sb J) ?_ ?_)))
  ·exact ⟨hC,hD,hB0,hBv,hR,hBo,El0 _⟩
  rintro j w8 ⟨hC,hD,hB0,hBv,hR,hBo,hj⟩
  try have hlR:=hR.lt
  refine Qd (Zc 1 J (Qa (A4 J (fun h2=>?_) (fun h2=>?_))))
  ·try simp at h2
   have hjn:j<E.bytes.length:=by omega
   have hb256:=hby _ (G9 E.bytes 0 j hjn);have hnl:=Y8 hg hin hb256;have hAb:∃ g2 off2,Ab=some ⟨g2,off2,none⟩:=by obtain ⟨g,off,h,_⟩:=hR.at_ (by omega);exact ⟨g,off,h⟩
   obtain ⟨g2,off2,hA2⟩:=hAb;have hcb:=(by rw [hA2] at hR;exact (hR.one (Au9 E.bytes j hjn)).2:w8.cell? ⟨g2,off2+j,none⟩=some (.int .u8 ((E.bytes.getD j 0:Nat):Int)));have hs0:=Ai4 E l (X3 E l m) i (E.bytes.take j) 0 (by omega);have hvn:=hco.2.get (J7 E l i (E.bytes.getD j 0));have hFn:∀ x∈[b2],¬ F x:=fun x hx h=>by have:=hFw x h;have:=Ek3.1 hx;omega
   have hFn2:∀ x∈[b2],¬ F2 x:=fun x hx h=>by have:=hFw2 x h;have:=Ek3.1 hx;omega
   subst hA2;refine A7 (Qa (B2 (Qd (C9 J (B0 Al4 J J (by omega) (by omega)) (Lc o5 J hcb (Zc 1 J (Qd (Z 2 J (Fa Ed9 J (Lb o105 J ‹_› (by rfl) ?_))))))))));refine Z 2 J (P0 J (Ah3 J J (mNext _ _ _)) (Bn0 F2 p E l i (E.bytes.getD j 0) hin hb256 _ hD) ?_);rintro _ w3 ⟨rfl,hx3⟩;refine Zc 5 J (C8 (S:=[]) 12 [(0,0),(0,1),(0,2),(0,3),(0,4),(0,5),(0,6),(0,7),(0,8),(0,9),(1,10),(1,11),(2,12),(2,13)] mo (by kernel_rfl) ?_);intro w4 hx4 hh4;have hBv:=hBv.u (hx3.s0 hx4);have hBo:=hBo.u (hx3.s0 hx4);have hCS4:=A8 ([]) w4;have hro:=hBo.rd (F:=fun _=>True) (sz:=1) (m:=l.length) (by rw [G0,En8];exact Bg5 _ _ _ _ _) trivial;have hco2:=(hro.one (J6 (Ca2 E l (X3 E l m) i ((E.bytes.take j).foldl (Ai5 E l (X3 E l m) i) 0)) i (by rw [Bg5];exact hin))).2;rw [outI_get _ _ _ _ _ hin] at hco2;have hrv:=hBv.rd (F:=fun _=>True) (sz:=1) (m:=l.length) (by rw [G0,En8];exact hco.1) trivial;have hcv:=(hrv.one (J6 (X3 E l m) (J7 E l i (E.bytes.getD j 0)) (by rw [hco.1];exact hnl))).2;refine Z 4 J (D6 J (B0 T8 J J (by omega) (by omega)) (D6 J (E0 o3 J hco2 (by simp;done)) ?_));refine Z 2 J (D6 J (B0 T8 J J (by omega) (by omega)) (D6 J (E0 o3 J hcv (by simp;done)) ?_));refine E2 J (B7 T8 Tryz.underlying24 zr3 J J J (by rfl)) ?_;intro b5 w5 hb5 hs5 hx5 hB5;have hz5:=hx5.size;have hD:=hD.u ((hx3.s0 hx4).s0 hx5);have hR:=hR.u ((hx3.s0 hx4).s0 hx5);have hBo:=hBo.u hx5;have hCS4:=hCS4.s0 hx5;refine ⟨hCS4,?_⟩;refine C5 J (C3 fb46 J) (Az9 [(E.bytes.take j).foldl (Ai5 E l (X3 E l m) i) 0,(X3 E l m).getD (J7 E l i (E.bytes.getD j 0)) 0] _ _ _ _ _ ‹_› J (by intro x hx;simp only [Eo4,List.not_mem_nil,or_false] at hx;rcases hx with rfl|rfl;exact hs0.2;exact hvn.2) (by simp)) ?_;rintro _ _ ⟨rfl,rfl⟩;refine ⟨hCS4,?_⟩;refine C9 J (B0 T8 J J (by omega) (by omega)) (Pb (cs':=(I8 (Ca2 E l (X3 E l m) i ((E.bytes.take (j+1)).foldl (Ai5 E l (X3 E l m) i) 0)))) sz3 J J hBo J J J (by rw [G0,Bg5,Ep4];omega) (by rw [Ek9,El6,Z9 _ _ _ (by rw [G0,Bg5];exact hin),Au3 _ _ _ 0 j hjn,← outI_set E l (X3 E l m) i ((E.bytes.take j).foldl (Ai5 E l (X3 E l m) i) 0) (Ai5 E l (X3 E l m) i ((E.bytes.take j).foldl (Ai5 E l (X3 E l m) i) 0) (E.bytes.getD j 0))];simp [I8,Et1,Ai5]) ?_);intro w7 hs7 hx7 hBo;have hC:=hC.step (((hx3.j hx4).j hx5).j hx7) (by simp<;>omega);have hD:=hD.q hx7 ‹_›;have hB0:=hB0.q (((hx3.j hx4).j hx5).j hx7) (by simp<;>omega);have hBv:=hBv.q (hx5.j hx7) (by simp<;>omega);have hR:=hR.q hx7 ‹_›;refine Qc (Qb (Ad J J (by omega) (Zc 1 J ⟨j+1,sb J,?_,?_⟩)));exact ⟨hC,hD,hB0,hBv,hR,hBo,hjn⟩;show E.bytes.length - (j+1)<E.bytes.length - j;omega
  ·try simp at h2
   have hjj:j=E.bytes.length:=by omega
   subst hjj;refine Xb (Qb (Ad J J (by omega) (Zc 1 J ⟨i+1,sb J,?_,?_⟩)));refine ⟨hC,hD,hB0,hBv,hR,?_,hin⟩;rw [En0 (El1 _)] at hBo;rw [← Dx4];exact hBo;show l.length - (i+1)<l.length - i;omega
 ·try simp at h1
  have hii:i=l.length:=by omega
  subst hii;exact Xb (Qd (Zc 2 J (A6 (B4 J J ⟨hC,b2,rfl,by omega,by rw [X3,← outI_all];exact hBo⟩))))
def CR (w:World) (lo:Nat) (gs:List Nat) (V:Nat→List Int):Prop:=∀ i,i<gs.length→lo≤gs.getD i 0∧Blk w (gs.getD i 0) (I8 (V i)) 3
theorem CR.mem {w:World} {lo:Nat} {gs:List Nat} {V:Nat→List Int} (h:CR w lo gs V) {x:Nat} (hx:x∈gs):lo≤x∧∃ cs,Blk w x cs 3:=by
 obtain ⟨i,hi,rfl⟩:=Er2.1 hx;have:=h i hi;rw [Ek2,Ek4 hi] at this;exact ⟨this.1,_,this.2⟩
theorem CR.q {S:List Nat} {w w':World} {lo:Nat} {gs:List Nat} {V:Nat→List Int} (h:CR w lo gs V) (k:Chg S w w') (hS:∀ x∈gs,x∉S):CR w' lo gs V:=fun i hi=>⟨(h i hi).1,(h i hi).2.q k (hS _ (G9 gs 0 i hi))⟩
theorem CR.u {w w':World} {lo:Nat} {gs:List Nat} {V:Nat→List Int} (h:CR w lo gs V) (k:Chg [] w w'):CR w' lo gs V:=h.q k (by simp)
theorem CR.snoc {w:World} {lo b:Nat} {gs:List Nat} {V:Nat→List Int} (h:CR w lo gs V) (hlo:lo≤b) (hb:Blk w b (I8 (V gs.length)) 3):CR w lo (gs++[b]) V:=fun i hi=>by
 simp at hi
 by_cases h2:i<gs.length
 ·rw [Ek2,Em6 h2,← Ek2];exact h i h2
 ·have:i=gs.length:=by omega
  subst this;rw [Ek2 (l:=gs++[b]),Em2 (El1 _)];simp only [Ev0,Et2,Eo1];exact ⟨hlo,hb⟩
theorem CR.off {w:World} {lo lo':Nat} {gs:List Nat} {V:Nat→List Int} (h:CR w lo gs V) {el:TypeId} {sz m c:Nat} {A:Option Addr} {cs:List Value} (ho:Own w lo' el sz A m c cs) (hne:el≠3):∀ x∈gs,x∉F7 A:=fun x hx hm=>by
 obtain ⟨_,cs',hb⟩:=h.mem hx;exact ho.offBlk hb hne x hm (by simp)
theorem Bn4 (F2:Nat→Prop) (p:Nat) (E:DE) (l:List St) (n:Nat) (hn:n≤1000) (w:World) (hFw2:∀ x,F2 x→x<w.heap.size) (hD:IsDfa F2 w p E l):
  Calls P 53 #[.iface 31 (.pointer (some ⟨p,0,none⟩)),.int .i64 (n:Nat)] w (Ret fun u w'=>Chg [] w w'∧∃ pc,u= .pointer (some ⟨pc,0,none⟩)∧IsCnt (FR w.heap.size w'.heap.size []) w' pc p E l (n+1)):=by
 have hC:=A8 [] w;have hg:=hD.good;have hle:=hg.le;refine D4 Tryz.func53 J J (Qd (Zc 1 J (Qd (Z 2 J (P0 J (Ah3 J J (mBytes _)) (Cf0 F2 p E l _ hFw2 hD) ?_)))));rintro v9 w1 ⟨hx1,Ab,cb,rfl,hOy'⟩;have hz1:=hx1.size;have hC:=hC.s0 hx1;have hD:=hD.u hx1;have hOy:=hOy';clear hOy';refine C9 J (B1 zr107 pl107 J (by rfl)) ?_;refine B5 J (E1 J J) ?_;intro b2 w2 hb2 hs2 hx2 hB2;have hC:=hC.s0 hx2;have hD:=hD.u hx2;have hOy:=hOy.u hx2;refine Zc 1 J (Qd ?_);have hpw:w.heap.size≤b2:=by omega
 refine Z 1 J (P0 J (Ah3 J J (mStates _)) (Ap2 F2 p E l _ hD) ?_);rintro _ w3 ⟨rfl,hx3⟩;have hz3:=hx3.size;have hC:=hC.s0 hx3;have hD:=hD.u hx3;have hOy:=hOy.u hx3;have hB2:=hB2.u hx3;refine B5 J (O7 Dg6 zr3 J (cs:=I8 (List.replicate l.length 0)) (by omega) (by omega) (by show (madeCells #[_] (((l.length:Nat):Int).toNat*1)).toList=_;rw [Ek9,En8,T4];simp [I8])) ?_;intro b4 w4 hb4 hs4 hx4 hB4;have hC:=hC.s0 hx4;have hD:=hD.u hx4;have hOy:=hOy.u hx4;have hB2:=hB2.u hx4;refine Zc 1 J (Qa (Qd ?_));have hm0:Blk w4 b4 (I8 (Ac4 l 0)) 3:=by rw [Cv3];assumption
 refine Z 1 J (Ln Tryz.underlying24 J (Zc 1 J (B2 (D8 (σ:=Nat) (fun i=>[(0,.iface 31 (.pointer (some ⟨p,0,none⟩))),(1,.int .i64 n),(5,.pointer (some ⟨b2,0,none⟩)),(6,.slice (some ⟨b4,0,none⟩) l.length l.length),(17,.int .i64 (l.length:Nat)),(18,.int .i64 i)]) (fun i wr=>Chg [] w wr∧IsDfa F2 wr p E l∧Own wr w.heap.size 5 1 Ab E.bytes.length cb (bys E.bytes)∧Blk wr b2 [.iface 31 (.pointer (some ⟨p,0,none⟩)),.slice Ab E.bytes.length cb,.slice none 0 0] 107∧Blk wr b4 (I8 (Ac4 l i)) 3∧i≤l.length) (fun i wr=>l.length - i) 0 ⟨rfl,rfl,rfl,rfl,rfl,rfl,trivial⟩ ?_ ?_))))
 ·exact ⟨hC,hD,hOy,hB2,hm0,El0 _⟩
 rintro i w9 ⟨hC,hD,hOy,hB2,hBm,hi⟩;have hb2l:=hB2.lt
 refine Qd (Zc 1 J (Qa (A4 J (fun h1=>?_) (fun h1=>?_))))
 ·try simp at h1
  have hin:i<l.length:=by omega
  refine A7 (Qa (B2 (Qd (Zc 2 J (Qd (Z 2 J (P0 J (Ah3 J J (mMeant _ _)) (Dg7 F2 p E l i _ hD) ?_)))))));rintro _ w5 ⟨rfl,hx5⟩;have hC:=hC.s0 hx5;have hD:=hD.u hx5;have hOy:=hOy.u hx5;have hB2:=hB2.u hx5;have hBm:=hBm.u hx5
  refine Qc (A4 J (fun h2=>?_) (fun h2=>?_))
  ·try simp at h2
   have hmt:(l.getD i default).meant=true:=by simpa [hin] using h2
   have hQA:∀ x∈F7 Ab,¬ x∈[b4]:=hOy.offBlk hBm (by decide);have hFn2:∀ x∈[b4],¬ F2 x:=fun x hx h=>by have:=hFw2 x h;have:=Ek3.1 hx;omega
   refine Qb (Z 2 J (C9 J (B0 T8 J J (by omega) (by omega)) (Pb (cs':=(I8 (Ac4 l (i+1)))) sz3 J J hBm J J J (by rw [G0,Bu2,Ep4];omega) (by rw [Ek9,El6,Z9 _ _ _ (by rw [G0,Bu2];exact hin),← Dn2 l i hmt];simp [I8,Et1]) ?_)));intro w6 hs6 hx6 hBm;have hC:=hC.step hx6 (by simp;omega);have hD:=hD.q hx6 ‹_›;have hOy:=(by exact hOy.keep hx6 ‹_›);have hB2:=hB2.q hx6 (by simp;omega);refine Qc (Qb (Ad J J (by omega) (Zc 1 J ⟨i+1,⟨rfl,rfl,rfl,rfl,rfl,rfl,trivial⟩,?_,?_⟩)));exact ⟨hC,hD,hOy,hB2,hBm,hin⟩;show l.length - (i+1)<l.length - i;omega
  ·try simp at h2
   have hmf:(l.getD i default).meant=false:=by simpa [hin] using h2
   rw [Cv4 l i hmf] at hBm;refine A7 (Qb (Ad J J (by omega) (Zc 1 J ⟨i+1,⟨rfl,rfl,rfl,rfl,rfl,rfl,trivial⟩,?_,?_⟩)));exact ⟨hC,hD,hOy,hB2,hBm,hin⟩;show l.length - (i+1)<l.length - i;omega
 ·try simp at h1
  have hii:i=l.length:=by omega
  subst hii;rw [Dn3] at hBm;have hFn3:∀ x∈[b2],¬ F2 x:=fun x hx h=>by have:=hFw2 x h;have:=Ek3.1 hx;omega
  have hQA3:∀ x∈F7 Ab,¬ x∈[b2]:=hOy.offBlk hB2 (by decide);have hO:Own w9 (b2+1) 24 1 none 0 0 (Am8 l.length []):=Own.nil _ _ _ _;refine Xb (Qd (Z 3 J (Fa Af3 J (Lb o25 J ‹_› (by rfl) ?_))));refine Z 1 J (B5 J (B7 Cr6 Tryz.underlying25 zr24 J J J (by rfl)) ?_);intro b7 w7 hb7 hs7 hx7 hB7;have hC:=hC.s0 hx7;have hD:=hD.u hx7;have hOy:=hOy.u hx7;have hB2:=hB2.u hx7;have hBm:=hBm.u hx7;have hO:=hO.u hx7;refine G1 J el25 J J hO (Blk.rd (F:=fun _=>True) ‹_› J trivial) (by rfl) (by omega) (by omega) ?_;intro A' c' w8 hO8 hx8 hA';have hC:=hC.s0 hx8;have hD:=hD.u hx8;have hOy:=hOy.u hx8;have hB2:=hB2.u hx8;have hBm:=hBm.u hx8
  replace hO:=hO8
  refine Z 1 J (Fa Af3 J (Pb sz25 J J ‹_› J J J J J ?_));intro w9 hs9 hx9 hB2;have hC:=hC.step hx9 (by simp;omega);have hD:=hD.q hx9 ‹_›;have hOy:=(by exact hOy.keep hx9 ‹_›);have hBm:=hBm.q hx9 (by simp;omega);have hO:=(by exact hO.q hx9 (by intro x hx;simp at hx;left;omega))
  refine Qc (Qa (Qd (Zc 2 J (B2 (D8 (σ:=Nat × Option Addr × Nat × List Nat) (fun (k,A,c,gs)=>[(0,.iface 31 (.pointer (some ⟨p,0,none⟩))),(5,.pointer (some ⟨b2,0,none⟩)),(38,.int .i64 n),(39,.int .i64 k)]) (fun (k,A,c,gs) wr=>Chg [] w wr∧IsDfa F2 wr p E l∧Own wr w.heap.size 5 1 Ab E.bytes.length cb (bys E.bytes)∧Blk wr b2 [.iface 31 (.pointer (some ⟨p,0,none⟩)),.slice Ab E.bytes.length cb,.slice A (k+1) c] 107∧Own wr (b2+1) 24 1 A (k+1) c (Am8 l.length gs)∧CR wr (b2+1) gs (X3 E l)∧gs.length=k+1∧k≤n) (fun (k,A,c,gs) wr=>n - k) (0,A',c',[b4]) ⟨rfl,rfl,rfl,rfl,trivial⟩ ?_ ?_)))))
  ·exact ⟨hC,hD,hOy,hB2,hO,fun i hi=>by
    have hi0:i=0:=by simp at hi;omega
    subst hi0
    exact ⟨by show b2+1≤b4;omega,hBm⟩,rfl,El0 _⟩
  rintro ⟨k,A,c,gs⟩ w8 ⟨hC,hD,hOy,hB2,hO,hG,hgl,hk⟩;have hb2l:=hB2.lt
  try have hlB2:=hB2.lt
  refine Qd (Zc 1 J (Qa (A4 J (fun h3=>?_) (fun h3=>?_))))
  ·try simp at h3
   have hkn:k<n:=by omega
   have hOb:=hO.blk;have hQA:=hOy.apart hO (by decide);have hQA3:∀ x∈F7 Ab,¬ x∈[b2]:=hOy.offBlk hB2 (by decide);have hGA:=hG.off hO (by decide);have hbL:∀ x∈gs,b2<x:=fun x hx=>by have:=(hG.mem hx).1;omega
   have hFn2:∀ x∈F7 A,¬ F2 x:=fun x hx h=>by have:=hFw2 x h;have:=hOb x hx;omega
   have hFn3:∀ x∈[b2],¬ F2 x:=fun x hx h=>by have:=hFw2 x h;have:=Ek3.1 hx;omega
   have hK:CntM (fun x=>x<w8.heap.size) w8 b2 p E l (k+1) Ab cb A c gs:=⟨hB2,hb2l,hOy.rd (fun x _ h=>h),hO.rd (fun x _ h=>h),hgl,fun i hi=>⟨(hG i (by omega)).2.lt,(hG i (by omega)).2⟩⟩;refine A7 (Qa (B2 (C8 (S:=F7 A) 9 [(0,0),(0,1),(0,2),(0,3),(0,4),(0,5),(1,6),(1,7),(1,8),(2,9),(2,10),(2,11)] mo (by kernel_rfl) ?_)));intro w10 hx10 hh10;have hC:=hC.s0 hx10;have hD:=hD.u hx10;have hOy:=hOy.u hx10;have hB2:=hB2.u hx10;have hO:=hO.u hx10;have hG:=hG.u hx10;have hCS10:=A8 (F7 A) w10;refine Z 3 J (Fa Af3 J (D6 J (B3 o25 J ‹_› (by intro h;have:=hOb _ h;omega) (by rfl)) ?_));refine Z 1 J (C5 J (C3 fb87 J) (more_c (fun x=>x<w8.heap.size) F2 b2 p E l k Ab cb A c gs _ (fun x h=>by omega) (fun x h=>by have:=hFw2 x h;omega) (hK.u ‹_›) hD (by omega)) ?_);rintro v12 w11 ⟨hx11,br,rfl,hbr,hBr⟩;have hz11:=hx11.size;have hC:=hC.s0 hx11;have hD:=hD.u hx11;have hOy:=hOy.u hx11;have hB2:=hB2.u hx11;have hO:=hO.u hx11;have hG:=hG.u hx11;have hCS10:=hCS10.s0 hx11;refine ⟨hCS10,?_⟩;refine E2 J (B7 Cr6 Tryz.underlying25 zr24 J J J (by rfl)) ?_;intro b12 w12 hb12 hs12 hx12 hB12;have hC:=hC.s0 hx12;have hD:=hD.u hx12;have hOy:=hOy.u hx12;have hB2:=hB2.u hx12;have hO:=hO.u hx12;have hG:=hG.u hx12;have hCS10:=hCS10.s0 hx12;have hBr:=hBr.u hx12;refine ⟨hCS10,?_⟩;refine Ab7 J el25 J J hO (Blk.rd (F:=fun _=>True) ‹_› J trivial) (by rfl) (by omega) (by omega) ?_;intro A' c' w13 hO13 hx13 hA';have hC:=hC.step hx13 (by intro x h;have:=hOb x h;exact .inr (by omega));have hD:=hD.q hx13 ‹_›;have hOy:=(by exact hOy.keep hx13 ‹_›);have hB2:=hB2.q hx13 (by intro h;have:=hOb _ h;omega);have hG:=hG.q hx13 ‹_›;have hCS10:=hCS10.step hx13 (by exact fun x h=>.inl h);have hBr:=hBr.q hx13 (by intro h;have:=hOb _ h;omega)
   replace hO:=hO13
   refine ⟨hCS10,?_⟩;refine Z 1 J (Fa Af3 J (Pb sz25 J J ‹_› J J J J J ?_));intro w14 hs14 hx14 hB2;have hC:=hC.step hx14 (by simp;omega);have hD:=hD.q hx14 ‹_›;have hOy:=(by exact hOy.keep hx14 ‹_›);have hO:=(by exact hO.q hx14 (by intro x hx;simp at hx;left;omega));have hG:=hG.q hx14 (by intro x hx;have h1:=hbL x hx;simp;omega);have hBr:=hBr.q hx14 (by simp;omega);refine Qc (Qb (Ad J J (by omega) (Zc 1 J ⟨(k+1,A',c',gs++[br]),⟨rfl,rfl,rfl,rfl,trivial⟩,?_,?_⟩)));refine ⟨hC,hD,hOy,hB2,?_,hG.snoc (by omega) (by rw [hgl];exact hBr),by simp [hgl],hkn⟩;unfold Am8;rw [Eo8];exact hO;show n - (k+1)<n - k;omega
  ·try simp at h3
   have hkk:k=n:=by omega
   subst hkk;exact Xb (Qd (Zc 2 J (A6 (B4 J J ⟨hC,b2,rfl,Ab,cb,A,c,gs,hB2,⟨by omega,by omega,by simp⟩,hOy.rd (fun x h1 h2=>⟨by omega,h2,by simp⟩),hO.rd (fun x h1 h2=>⟨by omega,h2,by simp⟩),hgl,fun i hi=>⟨⟨by have:=(hG i (by omega)).1;omega,(hG i (by omega)).2.lt,by simp⟩,(hG i (by omega)).2⟩⟩))))
theorem nth55_c (F F2:Nat→Prop) (pc p:Nat) (E:DE) (l:List St) (mm:Nat) (Ab:Option Addr) (cb:Nat) (Al:Option Addr) (cl:Nat) (gs:List Nat) (n:Nat) (k0:Int) (hn:n<mm) (hn1:n≤1000) (hk0:0≤k0∧k0≤9223372036854775807) (w:World) (hFw:∀ x,F x→x<w.heap.size) (hFw2:∀ x,F2 x→x<w.heap.size) (hK:CntM F w pc p E l mm Ab cb Al cl gs) (hD:IsDfa F2 w p E l):
  Calls P 55 #[.pointer (some ⟨pc,0,none⟩),.int .i64 (n:Nat),.int .i64 k0] w (Ret fun u w'=>Chg [] w w'∧u=Ch3 (Cr7 E l n 0 k0 [])):=by
 have hC:=A8 [] w;have hg:=hD.good;have hnb:=hg.nb;have hbn:=hg.bl;have hby:=hg.by_
 refine D4 Tryz.func55 J J (Qd (Zc 1 J (Qd (Zc 1 J (Qd (Zc 1 J (Qa (B2 (D8 (σ:=Nat × Nat × Int × Option Addr × Nat × List Nat) (fun (m,st,k,A,c,ws)=>[(0,.pointer (some ⟨pc,0,none⟩)),(1,.int .i64 m),(2,.int .i64 k),(7,.int .i64 st),(8,.slice A ws.length c)]) (fun (m,st,k,A,c,ws) wr=>Chg [] w wr∧CntM F wr pc p E l mm Ab cb Al cl gs∧IsDfa F2 wr p E l∧Own wr w.heap.size 5 1 A ws.length c (bys ws)∧(∀ b∈ws,b<256)∧ws.length+m≤n∧st<l.length∧(0≤k∧k≤9223372036854775807)∧Cr7 E l m st k ws=Cr7 E l n 0 k0 []) (fun (m,st,k,A,c,ws) wr=>m) (n,0,k0,none,0,[]) (sb J) ?_ ?_)))))))))
 ·exact ⟨hC,hK,hD,Own.nil _ _ _ _,by simp,by simp,hg.pos,hk0,rfl⟩
 rintro ⟨m,st,k,A,c,ws⟩ w9 ⟨hC,hK,hD,hO,hws,hwl,hst,hk,hN⟩
 refine Qa (Qd (Zc 2 J (A4 J (fun h1=>?_) (fun h1=>?_))))
 ·try simp at h1
  obtain ⟨m,rfl⟩:∃ m',m=m'+1:=⟨m - 1,by omega⟩;have hB0:=hK.blk;have hco:=Bn3 E l m;refine A7 (Qa (B2 (Qd (Z 2 J (Fa Cx3 J (Lb o44 J ‹_› (by rfl) ?_))))))
  refine Ln Tryz.underlying44 J (Zc 1 J (B2 (D8 (σ:=Nat × Int) (fun (j,k2)=>[(0,.pointer (some ⟨pc,0,none⟩)),(1,.int .i64 ((m+1:Nat):Int)),(2,.int .i64 k2),(7,.int .i64 st),(8,.slice A ws.length c),(21,.slice Ab E.bytes.length cb),(22,.int .i64 (E.bytes.length:Nat)),(23,.int .i64 j)]) (fun (j,k2) wr=>Chg [] w wr∧CntM F wr pc p E l mm Ab cb Al cl gs∧IsDfa F2 wr p E l∧Own wr w.heap.size 5 1 A ws.length c (bys ws)∧(0≤k2∧k2≤9223372036854775807)∧Ck4 E l (X3 E l m) st k2 (E.bytes.drop j)=Ck4 E l (X3 E l m) st k E.bytes∧j≤E.bytes.length) (fun (j,k2) wr=>E.bytes.length - j) (0,k) (sb J) ?_ ?_)))
  ·exact ⟨hC,hK,hD,hO,hk,rfl,El0 _⟩
  rintro ⟨j,k2⟩ w8 ⟨hC,hK,hD,hO,hk2,hP,hj⟩;have hOb:=hO.blk;have hB0':=hK.blk;have hR:=hK.rb;have hBv:=(hK.row m (by omega)).2;have hAl:∃ g off,Al=some ⟨g,off,none⟩:=by obtain ⟨g,off,h,_⟩:=hK.rl.at_ (by omega);exact ⟨g,off,h⟩
  obtain ⟨g,off,hAl⟩:=hAl;have hcell:=(by have h:=hK.rl;rw [hAl] at h;exact (h.one (Ac3 l.length gs m (by rw [hK.gl];omega))).2:w8.cell? ⟨g,off+m,none⟩=some (.slice (some ⟨gs.getD m 0,0,none⟩) l.length l.length));have hcell2:w8.cell? ⟨g,off+(((m+1:Nat):Int) - 1).toNat,none⟩=some (.slice (some ⟨gs.getD m 0,0,none⟩) l.length l.length):=by rw [show (((m+1:Nat):Int) - 1).toNat=m by omega];exact hcell
  try have hzw:=hC.size
  clear hB0;have hB0:=hB0';clear hB0'
  try have hlR:=hR.lt
  refine Qd (Zc 1 J (Qa (A4 J (fun h2=>?_) (fun h2=>?_))))
  ·try simp at h2
   have hjn:j<E.bytes.length:=by omega
   have hb256:=hby _ (G9 E.bytes 0 j hjn);have hnl:=Y8 hg hst hb256;have hAb:∃ g2 off2,Ab=some ⟨g2,off2,none⟩:=by obtain ⟨g,off,h,_⟩:=hR.at_ (by omega);exact ⟨g,off,h⟩
   obtain ⟨g2,off2,hA2⟩:=hAb;have hcb:=(by have h:=hR;rw [hA2] at h;exact (h.one (Au9 E.bytes j hjn)).2:w8.cell? ⟨g2,off2+j,none⟩=some (.int .u8 ((E.bytes.getD j 0:Nat):Int)))
   have hdr:E.bytes.drop j=E.bytes.getD j 0::E.bytes.drop (j+1):=by
    rw [Eu2 hjn,Ek2,Ek4 hjn];rfl
   have hvn:=hco.2.get (J7 E l st (E.bytes.getD j 0));rw [hdr,Ck4] at hP;subst hA2 hAl;refine A7 (Qa (B2 (Qd (C9 J (B0 Al4 J J (by omega) (by omega)) (Lc o5 J hcb (Zc 1 J (Qd (Z 2 J (Fa Ed9 J (Lb o105 J ‹_› (by rfl) ?_))))))))));refine Z 2 J (P0 J (Ah3 J J (mNext _ _ _)) (Bn0 F2 p E l st (E.bytes.getD j 0) hst hb256 _ hD) ?_);rintro _ w1 ⟨rfl,hx1⟩;have hz1:=hx1.size;have hC:=hC.s0 hx1;have hD:=hD.u hx1;have hK:=hK.u hx1;have hO:=hO.u hx1;have hB0:=hB0.u hx1;have hBv:=hBv.u hx1;have hrv:=hBv.rd (F:=fun _=>True) (sz:=1) (m:=l.length) (by rw [G0,En8];exact hco.1) trivial;have hcv:=(hrv.one (J6 (X3 E l m) (J7 E l st (E.bytes.getD j 0)) (by rw [hco.1];exact hnl))).2;refine Zc 5 J (Qa (Qd (Z 2 J (Fa Af3 J (Lb o25 J ‹_› (by rfl) ?_)))));refine Z 1 J (Su J J (by omega) (C9 J (B0 Cr6 J J (by omega) (by omega)) (Lc o24 J (show World.cell? _ _=_ from (Chg.cell ‹_› (by simp) hcell2)) ?_)))
   refine Z 1 J (C9 J (B0 T8 J J (by omega) (by omega)) (Lc o3 J hcv (Zc 1 J (Qd (Zc 3 J (A4 J (fun h3=>?_) (fun h3=>?_)))))))
   ·rw [cmpB_geq] at h3;rw [Ek1 (by omega)] at hP;refine Qd (Z 2 J (Su J J (by omega) (Zc 1 J (Xb (Qb (Ad J J (by omega) (Zc 1 J ⟨(j+1,k2 - (X3 E l m).getD (J7 E l st (E.bytes.getD j 0)) 0),sb J,?_,?_⟩)))))));exact ⟨hC,hK,hD,hO,by omega,hP,hjn⟩;show E.bytes.length - (j+1)<E.bytes.length - j;omega
   ·rw [cmpB_geqF] at h3;rw [Ek0 (by omega)] at hP;have hFn:∀ x∈F7 A,¬ F x:=fun x hx h=>by have:=hFw x h;have:=hOb x hx;omega
    have hFn2:∀ x∈F7 A,¬ F2 x:=fun x hx h=>by have:=hFw2 x h;have:=hOb x hx;omega
    refine A7 (Qd (Z 2 J (B5 J (B7 Al4 Tryz.underlying44 zr5 J J J (by rfl)) ?_)));intro b2 w2 hb2 hs2 hx2 hB2;have hC:=hC.s0 hx2;have hD:=hD.u hx2;have hK:=hK.u hx2;have hO:=hO.u hx2;refine G1 J el44 J J hO (Blk.rd (F:=fun _=>True) ‹_› J trivial) (by rfl) (by omega) (by omega) ?_;intro A' c' w3 hO3 hx3 hA';have hC:=hC.step hx3 (by intro x h;have:=hOb x h;exact .inr (by omega));have hD:=hD.q hx3 ‹_›;have hK:=hK.q hx3 ‹_›
    replace hO:=hO3
    refine Zc 1 J (Qd (Zc 2 J (Av4 (Ar0 J (Aj3 ?_)))));refine Qb (Z 1 J (Su J J (by omega) (Zc 1 J ⟨(m,J7 E l st (E.bytes.getD j 0),k2,A',c',ws++[E.bytes.getD j 0]),⟨rfl,(G2 J (by omega)),rfl,rfl,(R0 J (by rw [Ek5];rfl)),trivial⟩,?_,?_⟩)));refine ⟨hC,hK,hD,?_,?_,by simp;omega,hnl,hk2,?_⟩;rw [Ek5,show bys (ws++[E.bytes.getD j 0])=bys ws++bys [E.bytes.getD j 0] from by simp [bys]];exact hO;intro b hb;rcases En7.1 hb with h|h;exact hws b h;rw [Ek3.1 h];exact hb256;rw [← hN,Cr7,← hP];show m<m+1;omega
  ·try simp at h2
   have hjj:j=E.bytes.length:=by omega
   subst hjj;rw [List.drop_eq_nil_of_le (El1 _),Ck4] at hP;refine Xb (Qb (Z 1 J (Su J J (by omega) (Zc 1 J ⟨(m,st,k2,A,c,ws),⟨rfl,(G2 J (by omega)),rfl,rfl,rfl,trivial⟩,?_,?_⟩))));refine ⟨hC,hK,hD,hO,hws,by omega,hst,hk2,?_⟩;rw [← hN,Cr7,← hP];show m<m+1;omega
 ·try simp at h1
  have hm0:m=0:=by omega
  subst hm0;exact Xb (Qd (Z 1 J (C9 J (Ab8 (l:=ws) (F:=fun _=>True) J J hws (hO.rd (fun _ _ _=>trivial))) (Zc 1 J (A6 (B4 J J ⟨hC,by rw [← hN,Cr7]⟩))))))
theorem wmany_c (F2:Nat→Prop) (p:Nat) (E:DE) (l:List St) (n:Nat) (hn:n≤1000) (w:World) (hFw2:∀ x,F2 x→x<w.heap.size) (hD:IsDfa F2 w p E l):
  Calls P 32 #[.pointer (some ⟨p,0,none⟩),.int .i64 (n:Nat)] w (Ret fun u w'=>u= .int .i64 ((X3 E l n).getD 0 0)∧Chg [] w w'):=by
 have hC:=A8 [] w;have hg:=hD.good;have hps:=hg.pos;refine D4 Tryz.func32 J J (Qd (Zc 1 J (Qa (Qd (Z 1 J (Ca fb15 J (Ap2 F2 p E l _ hD) ?_))))));rintro _ w1 ⟨rfl,hx1⟩;have hz1:=hx1.size;have hC:=hC.s0 hx1;have hD:=hD.u hx1
 refine Z 2 J (C0 (d:=8) J (fun h1=>?_) (fun h1=>?_))
 ·try simp at h1
  all_goals first|omega|(rw [h1] at hps;simp at hps)
 ·try simp at h1
  refine Qu J (Z 1 J (Qu J (Z 3 J (C0 (d:=12) J (fun h2=>?_) (fun h2=>?_)))))
  ·try simp at h2
   all_goals omega
  ·try simp at h2
   refine Qu J (Z 1 J (Qu J (Zc 2 J (A4 J (fun h3=>?_) (fun h3=>?_)))))
   ·try simp at h3
    all_goals omega
   ·try simp at h3
    refine A7 (Qd (Z 1 J (C9 J (Bd0 u31 J) (Z 1 J (Ca fb53 J (Bn4 F2 p E l n hn _ (fun x h=>by have:=hFw2 x h;omega) hD) ?_)))));rintro v9 w2 ⟨hx2,pc,rfl,Ab,cb,Al,cl,gs,hK⟩;have hC:=hC.s0 hx2;have hB0:=hK.blk;have hAl:∃ g off,Al=some ⟨g,off,none⟩:=by obtain ⟨g,off,h,_⟩:=hK.rl.at_ (by omega);exact ⟨g,off,h⟩
    obtain ⟨g,off,rfl⟩:=hAl;have hcell:=(hK.rl.one (Ac3 l.length gs n (by rw [hK.gl];omega))).2;have hBv:=(hK.row n (by omega)).2;have hco:=Bn3 E l n;have hrv:=hBv.rd (F:=fun _=>True) (sz:=1) (m:=l.length) (by rw [G0,En8];exact hco.1) trivial;have hcv:=(hrv.one (J6 (X3 E l n) 0 (by rw [hco.1];omega))).2;refine Z 1 J (Fa Af3 J (Lb o25 J ‹_› (by rfl) ?_));exact Z 1 J (C9 J (B0 Cr6 J J (by omega) (by omega)) (Lc o24 J hcell (C9 J (B0 T8 J J (by omega) (by omega)) (Lc o3 J hcv (Zc 1 J (A6 (B4 J J ⟨rfl,hC⟩)))))))
theorem Ds3 (F2:Nat→Prop) (p:Nat) (E:DE) (l:List St) (n:Nat) (hn:n≤1000) (k:Int) (hk:0≤k∧k≤9223372036854775807) (w:World) (hFw2:∀ x,F2 x→x<w.heap.size) (hD:IsDfa F2 w p E l):
  Calls P 33 #[.pointer (some ⟨p,0,none⟩),.int .i64 (n:Nat),.int .i64 k] w (Ret fun u w'=>Chg [] w w'∧u=if (X3 E l n).getD 0 0≤k then .tuple #[.string ⟨#[]⟩,.bool false] else .tuple #[Ch3 (Cr7 E l n 0 k []),.bool true]):=by
 have hC:=A8 [] w;have hg:=hD.good;have hps:=hg.pos;refine D4 Tryz.func33 J J (Qd (Zc 2 J (Qa (Qd (Z 1 J (Ca fb15 J (Ap2 F2 p E l _ hD) ?_))))));rintro _ w1 ⟨rfl,hx1⟩;have hz1:=hx1.size;have hC:=hC.s0 hx1;have hD:=hD.u hx1
 refine Z 2 J (C0 (d:=12) J (fun h1=>?_) (fun h1=>?_))
 ·try simp at h1
  all_goals first|omega|(rw [h1] at hps;simp at hps)
 ·try simp at h1
  refine Qu J (Z 1 J (Qu J (Z 3 J (C0 (d:=16) J (fun h2=>?_) (fun h2=>?_)))))
  ·try simp at h2
   all_goals omega
  ·try simp at h2
   refine Qu J (Z 1 J (Qu J (Z 3 J (C0 (d:=20) J (fun h3=>?_) (fun h3=>?_)))))
   ·try simp at h3
    all_goals omega
   ·try simp at h3
    refine Qu J (Z 1 J (Qu J (Zc 2 J (A4 J (fun h4=>?_) (fun h4=>?_)))))
    ·try simp at h4
     all_goals omega
    ·try simp at h4
     refine A7 (Qd (Z 1 J (C9 J (Bd0 u31 J) (Z 1 J (Ca fb53 J (Bn4 F2 p E l n hn _ (fun x h=>by have:=hFw2 x h;omega) hD) ?_)))));rintro v9 w2 ⟨hx2,pc,rfl,Ab,cb,Al,cl,gs,hK⟩;have hz2:=hx2.size;have hC:=hC.s0 hx2;have hD:=hD.u hx2;have hB0:=hK.blk;have hAl:∃ g off,Al=some ⟨g,off,none⟩:=by obtain ⟨g,off,h,_⟩:=hK.rl.at_ (by omega);exact ⟨g,off,h⟩
     obtain ⟨g,off,rfl⟩:=hAl;have hcell:=(hK.rl.one (Ac3 l.length gs n (by rw [hK.gl];omega))).2;have hBv:=(hK.row n (by omega)).2;have hco:=Bn3 E l n;have hrv:=hBv.rd (F:=fun _=>True) (sz:=1) (m:=l.length) (by rw [G0,En8];exact hco.1) trivial;have hcv:=(hrv.one (J6 (X3 E l n) 0 (by rw [hco.1];omega))).2;refine Zc 1 J (Qa (Qd (Z 3 J (Fa Af3 J (Lb o25 J ‹_› (by rfl) ?_)))))
     refine Z 1 J (C9 J (B0 Cr6 J J (by omega) (by omega)) (Lc o24 J hcell (C9 J (B0 T8 J J (by omega) (by omega)) (Lc o3 J hcv (Zc 1 J (A4 J (fun h5=>?_) (fun h5=>?_)))))))
     ·rw [cmpB_geq] at h5;exact Qd (Zc 2 J (A6 (J1 J J J ⟨hC,by rw [Ek1 h5]⟩)))
     ·rw [cmpB_geqF] at h5;refine A7 (Qd (Z 3 J (Ca fb55 J (nth55_c _ F2 pc p E l (n+1) Ab cb _ cl gs n k (by omega) hn hk _ (fun x h=>h.2.1) (fun x h=>by have:=hFw2 x h;omega) hK hD) ?_)));rintro _ w3 ⟨hx3,rfl⟩;have hC:=hC.s0 hx3;exact Zc 2 J (A6 (J1 J J J ⟨hC,by rw [Ek0 (by omega)]⟩))
theorem mB:(X3 EB lB 2).getD 0 0=1:=by decide+kernel
theorem nB:Cr7 EB lB 2 0 0 []=[97,98]:=by decide+kernel
theorem nthB_c (p:Nat) (F:Nat→Prop) (w:World) (hF:∀ x,F x→x<w.heap.size) (hD:IsDfa F w p EB lB):Calls P 33 #[.pointer (some ⟨p,0,none⟩),.int .i64 2,.int .i64 0] w (Ret fun u w'=>Chg [] w w'∧u= .tuple #[.string ⟨#[97,98]⟩,.bool true]):=
 Bz3 (Ds3 F p EB lB 2 (by omega) 0 (by omega) w hF hD) fun _ _ ⟨hC,h⟩=>⟨hC,by rw [h,mB,nB];rfl⟩
theorem manyB_c (p:Nat) (F:Nat→Prop) (w:World) (hF:∀ x,F x→x<w.heap.size) (hD:IsDfa F w p EB lB):Calls P 32 #[.pointer (some ⟨p,0,none⟩),.int .i64 2] w (Ret fun u w'=>Chg [] w w'∧u= .int .i64 1):=
 Bz3 (wmany_c F p EB lB 2 (by omega) w hF hD) fun _ _ ⟨h,hC⟩=>⟨hC,by rw [h,mB]⟩
theorem Ad0 (w:World) (hL:Laid w):Calls P 29 #[] w (Ret fun u w'=>u= .bool true∧Chg [] w w'):=by
 have hC:=A8 [] w;refine D4 Tryz.func29 J J (Qd (Zc 1 J (Qd (Ca fb39 J (autoB _ hL) ?_))));rintro _ w1 ⟨hx1,pa,rfl,hA⟩;have hL:=hL.u hx1;refine Zc 7 J (Qd (Z 1 J (Ca fb13 J (dfaB_c pa _ _ hA (fun x h=>h.2.1) hL) ?_)));rintro v9 w2 ⟨hx2,pd,rfl,hD'⟩;have hD:=hD';clear hD';refine Zc 5 J (Qd (Z 1 J (Ca fb33 J (nthB_c pd _ _ (fun x (hx:x<w2.heap.size)=>by omega) hD) ?_)));rintro _ w3 ⟨hx3,rfl⟩;have hz3:=hx3.size;have hC:=hC.s0 ((hx1.s0 hx2).s0 hx3);have hD:=hD.u hx3
 refine Zc 5 J (Qd (Z 1 J (C9 J (Ae7 J J) (Z 1 J (C0 (d:=25) J (fun h0=>?_) (fun h0=>?_))))))
 ·try simp at h0
  refine Qu J (Z 3 J (C0 (d:=28) J (fun h1=>?_) (fun h1=>?_)))
  ·try simp at h1
   refine Qu J (Z 1 J (Qu J (Ca fb32 J (manyB_c pd _ _ (fun x (hx:x<w2.heap.size)=>by omega) hD) ?_)));rintro _ w4 ⟨hx4,rfl⟩;have hC:=hC.s0 hx4;exact Qu J (Zc 3 J (A6 (B4 J J ⟨rfl,hC⟩)))
  ·try simp at h1
   all_goals first|omega|(cases h1)|simp at h1
 ·try simp at h0
  all_goals first|omega|(cases h0)|simp at h0
def X4 (l:List Bool):List Value:=l.map .bool
theorem O6 (l:List Bool):(X4 l).length=l.length:=by simp [X4]
theorem Bo6 (l:List Bool) (k:Nat) (h:k<l.length):(X4 l)[k]?=some (.bool (l.getD k false)):=by simp [X4,Ek4 h,Ek2]
def onL (l:List Bool) (k:Nat):List Nat:=(List.range k).filter fun b=>l.getD b false
def onS (l:List Bool):Nat:=F1 (onL l 256)
theorem onL_yes {l:List Bool} {k:Nat} (h:l.getD k false=true):F1 (onL l (k+1))=F1 (onL l k)|||2 ^ k:=by
 unfold onL F1;rw [Ep7,Eq5,En9];simp only [Et4,h,if_true,List.filter_nil]
 rfl
theorem onL_no {l:List Bool} {k:Nat} (h:l.getD k false=false):onL l (k+1)=onL l k:=by
 unfold onL;rw [Ep7,Eq5,List.filter_cons_of_neg (by rw [h];exact Bool.false_ne_true)];simp
theorem Ct5 (F:Nat→Prop) (on:List Bool) (A:Option Addr) (c:Nat) (hn:on.length=256) (w:World) (hF:∀ x,F x→x<w.heap.size) (hr:Rd F w 1 A 256 (X4 on)):Calls P 200 #[.slice A 256 c] w (Ret fun u w'=>u= .agg (C4 (onS on)).toArray∧Chg [] w w'):=by
 have hC:=A8 [] w;have hAl:∃ g off,A=some ⟨g,off,none⟩:=by obtain ⟨g,off,h,_⟩:=hr.at_ (by omega);exact ⟨g,off,h⟩
 obtain ⟨g,off,rfl⟩:=hAl;refine D4 Tryz.func200 J J (Qd (B5 J (B8 N0 J) ?_));intro b1 w1 hb1 hs1 hx1 hB1;refine Qc (Qd (B5 J (B8 N0 J) ?_));intro b2 w2 hb2 hs2 hx2 hB2;have hC:=hC.s0 (hx1.s0 hx2);have hr:=hr.u (hx1.s0 hx2);have hB1:=hB1.u hx2
 refine Qc (Qa (Qd (Zc 1 J (B2 (D8 (σ:=Nat) (fun k=>[(0,.slice (some ⟨g,off,none⟩) 256 c),(2,.pointer (some ⟨b1,0,none⟩)),(3,.pointer (some ⟨b2,0,none⟩)),(4,.int .i64 k)]) (fun k wr=>Chg [] w wr∧Rd F wr 1 (some ⟨g,off,none⟩) 256 (X4 on)∧Blk wr b1 (C4 0) 70∧Blk wr b2 (C4 (F1 (onL on k))) 70∧k≤256) (fun k wr=>256 - k) 0 (sb J) ?_ ?_)))))
 ·rw [← C6] at hB1 hB2;exact ⟨hC,hr,hB1,hB2,by omega⟩
 rintro k w9 ⟨hC,hr,hB1,hB2,hk⟩
 refine Qa (Qd (Z 3 J (C0 (d:=7) J (fun h1=>?_) (fun h1=>?_))))
 ·try simp at h1
  have hk2:k<256:=by omega
  refine Qu J (Z 1 J (Qu J (Z 1 J (Qu J (Ln Tryz.underlying43 J (Qu J (Zc 2 J (A4 J (fun h2=>?_) (fun h2=>?_)))))))))
  ·try simp at h2
   have hcell:=(hr.one (Bo6 on k (by omega))).2
   refine A7 (Qa (B2 (Qd (Z 2 J (C9 J (B0 sl43 J J (by omega) (by omega)) (Lc o4 J hcell (Qc (A4 J (fun h3=>?_) (fun h3=>?_)))))))))
   ·have hFn:∀ x∈[b2],¬ F x:=fun x hx h=>by have:=hF x h;have:=Ek3.1 hx;omega
    refine C8 (S:=[]) 10 [(0,0),(0,1),(0,2),(0,3),(0,4),(0,5),(0,6),(0,7),(0,8),(0,9),(2,10),(2,11)] mo (by kernel_rfl) ?_;intro w3 hx3 hh3;have hr:=hr.u hx3;have hB2:=hB2.u hx3;refine Z 1 J (D6 J (Ah4 J J (by omega) (by omega) (by exact I4 (by omega))) ?_);refine Z 1 J (D6 J (Ah4 J J (by omega) (by omega) (by exact I4 (by omega))) ?_);refine D6 J (E6 Av2 J J (by omega) (by omega)) (D6 J (E0 o68 J (Az6 hB2 (by omega)) (by simp;done)) ?_);have hput:Value.int .u64 (Ba5 .or .u64 (wd (F1 (onL on k)) (k / 64)) (IntKind.u64.wrap (1*2 ^ (min (k % 64) 64))))= .int .u64 (wd (F1 (onL on k)|||2 ^ k) (k / 64)):=J4 (Dc5 _ k hk2);refine Z 1 J (D6 J (Ba1 J J (by omega) (by omega)) (D6 J (Dj1 J J (by omega)) (D6 J (Q4 J J J) (C9 J (E6 Av2 J J (by omega) (by omega)) (Pb (cs':=C4 (F1 (onL on k)|||2 ^ k)) sz68 J J hB2 J J J (by rw [Ep4];show 0+k / 64+1≤4;omega) (by rw [← Cj2 _ k hk2,El6];exact congrArg (fun x=>(C4 (F1 (onL on k))).take (k / 64)++[x]++(C4 (F1 (onL on k))).drop (k / 64+1)) hput) ?_)))));intro w4 hs4 hx4 hB2;have hC:=hC.step (hx3.j hx4) (by simp<;>omega);have hr:=hr.q hx4 ‹_›;have hB1:=hB1.q (hx3.j hx4) (by simp<;>omega);refine Qc (Qb (Z 1 J (Ad J J (by omega) (Zc 1 J ⟨k+1,sb J,?_,?_⟩))));exact ⟨hC,hr,hB1,by rw [onL_yes h3];exact hB2,by omega⟩;omega
   ·refine A7 (Qb (Z 1 J (Ad J J (by omega) (Zc 1 J ⟨k+1,sb J,?_,?_⟩))));exact ⟨hC,hr,hB1,by rw [onL_no h3];exact hB2,by omega⟩;omega
  ·try simp at h2
   all_goals omega
 ·try simp at h1
  have hkk:k=256:=by omega
  subst hkk;refine Qk J (Qk J (Qk J (Qk J (Zc 1 J (E4 J (Xb (Qd (La J0 J ‹_› J J ?_))))))));refine Pe J9 J ‹_› J J ?_;intro w5 hs5 hx5 hB1;have hC:=hC.step hx5 (by simp;omega);refine Qc (A6 (D5 J J (A5 J0 ‹_› J J) ?_));exact ⟨rfl,hC⟩
theorem rin_c (s:ByteArray) (hs:s.size≤1000) (c:Nat) (hc:c<256) (w:World):Calls P 171 #[.string s,.int .u8 (c:Nat)] w (Ret fun u w'=>u= .bool (decide (c∈B6 s))∧Chg [] w w'):=by
 have hC:=A8 [] w;have hsl:=E5 s
 refine D4 Tryz.func171 J J (Qd (Zc 1 J (Qa (Qd (Zc 1 J (B2 (D8 (σ:=Nat) (fun i=>[(0,.string s),(1,.int .u8 (c:Nat)),(5,.int .i64 i)]) (fun i wr=>Chg [] w wr∧(∀ j,j<i→(B6 s).getD j 0≠c)∧i≤s.size) (fun i wr=>s.size - i) 0 (sb J) ?_ ?_)))))))
 ·exact ⟨hC,fun j h=>by omega,El0 _⟩
 rintro i w9 ⟨hC,hno,hi⟩
 refine Qa (Qd (Z 2 J (C9 J (E9 Tryz.underlying9 J) (Zc 1 J (A4 J (fun h1=>?_) (fun h1=>?_))))))
 ·try simp at h1
  have hin:i<s.size:=by omega
  obtain ⟨u8,hu,hu2⟩:=I5 s i hin;refine A7 (Qa (B2 (Qd (Z 2 J (C9 J (Does.to (E7 Tryz.underlying9 J J (by omega) (by exact hu)) (J4 (show ((u8.toNat:Nat):Int)=(((B6 s).getD i 0:Nat):Int) by rw [hu2]))) ?_)))))
  refine Zc 2 J (A4 J (fun h2=>?_) (fun h2=>?_))
  ·rw [cmpB_eql] at h2;exact Qd (Zc 1 J (A6 (B4 J J ⟨H5 (by symm;rw [El7];have:c=(B6 s).getD i 0:=(by omega);rw [this];exact G9 _ 0 i (by omega)),hC⟩)))
  ·rw [cmpB_eqlF] at h2;refine A7 (Qb (Z 1 J (Ad J J (by omega) (Zc 1 J ⟨i+1,sb J,?_,?_⟩))));exact ⟨hC,fun j hj=>by rcases Eq7 j i with h|h;exact hno j h;have:j=i:=(by omega);subst this;omega,hin⟩;omega
 ·try simp at h1
  exact Xb (Qd (Zc 1 J (A6 (B4 J J ⟨H5 (by symm;rw [decide_eq_false_iff_not];intro hm;obtain ⟨j,hj,hje⟩:=Er2.1 hm;refine hno j (by omega) ?_;rw [Ek2,Ek4 hj];exact hje),hC⟩))))
def Ak3 (c:Nat):Int:=if 48≤c∧c≤57 then (c:Int) - 48 else if 97≤c∧c≤102 then (c:Int) - 87 else if 65≤c∧c≤70 then (c:Int) - 55 else -1
theorem Bv1 (c:Nat) (hc:c<256): -1≤Ak3 c∧Ak3 c≤15:=by
 unfold Ak3
 repeat' split
 all_goals omega
theorem Dc1 (c:Nat) (hc:c<256) (w:World):Calls P 197 #[.int .u8 (c:Nat)] w (Ret fun u w'=>u= .int .i64 (Ak3 c)∧Chg [] w w'):=by
 have hC:=A8 [] w
 refine D4 Tryz.func197 J J (Qd (Zc 1 J (Qa (B2 (Qd (Z 3 J (C0 (d:=6) J (fun h1=>?_) (fun h1=>?_))))))))
 ·try simp at h1
  refine Qu J (Z 1 J (Qu J (Zc 3 J (A4 J (fun h2=>?_) (fun h2=>?_)))))
  ·try simp at h2
   refine Qd (Z 1 J (C9 J (Does.to (Ab2 J J) (J4 (show IntKind.u8.wrap ((c:Int) - 48)=(c:Int) - 48 by rw [wu8];omega))) ?_));refine C9 J (H4 kn5 Tryz.underlying3 J (by exact I4 (by omega))) ?_;exact Zc 1 J (A6 (B4 J J ⟨J4 (by unfold Ak3;rw [Ek1 (by omega)]),hC⟩))
  ·try simp at h2
   refine Qd (Z 3 J (C0 (d:=16) J (fun h3=>?_) (fun h3=>?_)))
   ·try simp at h3
    refine Qu J (Z 1 J (Qu J (Zc 3 J (A4 J (fun h4=>?_) (fun h4=>?_)))))
    ·try simp at h4
     refine Qd (Z 1 J (C9 J (Does.to (Ab2 J J) (J4 (show IntKind.u8.wrap ((c:Int) - 97)=(c:Int) - 97 by rw [wu8];omega))) ?_));refine C9 J (H4 kn5 Tryz.underlying3 J (by exact I4 (by omega))) ?_;exact Ad J J (by omega) (Zc 1 J (A6 (B4 J J ⟨J4 (by unfold Ak3;rw [Ek0 (by omega),Ek1 (by omega)];omega),hC⟩)))
    ·try simp at h4
     refine Qd (Z 3 J (C0 (d:=27) J (fun h5=>?_) (fun h5=>?_)))
     ·try simp at h5
      refine Qu J (Z 1 J (Qu J (Zc 3 J (A4 J (fun h6=>?_) (fun h6=>?_)))))
      ·try simp at h6
       refine Qd (Z 1 J (C9 J (Does.to (Ab2 J J) (J4 (show IntKind.u8.wrap ((c:Int) - 65)=(c:Int) - 65 by rw [wu8];omega))) ?_));refine C9 J (H4 kn5 Tryz.underlying3 J (by exact I4 (by omega))) ?_;exact Ad J J (by omega) (Zc 1 J (A6 (B4 J J ⟨J4 (by unfold Ak3;rw [Ek0 (by omega),Ek0 (by omega),Ek1 (by omega)];omega),hC⟩)))
      ·try simp at h6
       exact A7 (Qd (Zc 1 J (A6 (B4 J J ⟨J4 (by unfold Ak3;rw [Ek0 (by omega),Ek0 (by omega),Ek0 (by omega)]),hC⟩))))
     ·try simp at h5
      exact Qk J (Qk J (Zc 2 J (E4 J (A7 (Qd (Zc 1 J (A6 (B4 J J ⟨J4 (by unfold Ak3;rw [Ek0 (by omega),Ek0 (by omega),Ek0 (by omega)]),hC⟩))))))))
   ·try simp at h3
    refine Qk J (Qk J (Zc 2 J (E4 J (Qd (Z 3 J (C0 (d:=27) J (fun h7=>?_) (fun h7=>?_)))))))
    ·try simp at h7
     refine Qu J (Z 1 J (Qu J (Zc 3 J (A4 J (fun h8=>?_) (fun h8=>?_)))))
     ·try simp at h8
      refine Qd (Z 1 J (C9 J (Does.to (Ab2 J J) (J4 (show IntKind.u8.wrap ((c:Int) - 65)=(c:Int) - 65 by rw [wu8];omega))) ?_));refine C9 J (H4 kn5 Tryz.underlying3 J (by exact I4 (by omega))) ?_;exact Ad J J (by omega) (Zc 1 J (A6 (B4 J J ⟨J4 (by unfold Ak3;rw [Ek0 (by omega),Ek0 (by omega),Ek1 (by omega)];omega),hC⟩)))
     ·try simp at h8
      exact A7 (Qd (Zc 1 J (A6 (B4 J J ⟨J4 (by unfold Ak3;rw [Ek0 (by omega),Ek0 (by omega),Ek0 (by omega)]),hC⟩))))
    ·try simp at h7
     exact Qk J (Qk J (Zc 2 J (E4 J (A7 (Qd (Zc 1 J (A6 (B4 J J ⟨J4 (by unfold Ak3;rw [Ek0 (by omega),Ek0 (by omega),Ek0 (by omega)]),hC⟩))))))))
 ·try simp at h1
  refine Qk J (Qk J (Zc 2 J (E4 J (Qd (Z 3 J (C0 (d:=16) J (fun h9=>?_) (fun h9=>?_)))))))
  ·try simp at h9
   refine Qu J (Z 1 J (Qu J (Zc 3 J (A4 J (fun h10=>?_) (fun h10=>?_)))))
   ·try simp at h10
    refine Qd (Z 1 J (C9 J (Does.to (Ab2 J J) (J4 (show IntKind.u8.wrap ((c:Int) - 97)=(c:Int) - 97 by rw [wu8];omega))) ?_));refine C9 J (H4 kn5 Tryz.underlying3 J (by exact I4 (by omega))) ?_;exact Ad J J (by omega) (Zc 1 J (A6 (B4 J J ⟨J4 (by unfold Ak3;rw [Ek0 (by omega),Ek1 (by omega)];omega),hC⟩)))
   ·try simp at h10
    refine Qd (Z 3 J (C0 (d:=27) J (fun h11=>?_) (fun h11=>?_)))
    ·try simp at h11
     refine Qu J (Z 1 J (Qu J (Zc 3 J (A4 J (fun h12=>?_) (fun h12=>?_)))))
     ·try simp at h12
      refine Qd (Z 1 J (C9 J (Does.to (Ab2 J J) (J4 (show IntKind.u8.wrap ((c:Int) - 65)=(c:Int) - 65 by rw [wu8];omega))) ?_));refine C9 J (H4 kn5 Tryz.underlying3 J (by exact I4 (by omega))) ?_;exact Ad J J (by omega) (Zc 1 J (A6 (B4 J J ⟨J4 (by unfold Ak3;rw [Ek0 (by omega),Ek0 (by omega),Ek1 (by omega)];omega),hC⟩)))
     ·try simp at h12
      exact A7 (Qd (Zc 1 J (A6 (B4 J J ⟨J4 (by unfold Ak3;rw [Ek0 (by omega),Ek0 (by omega),Ek0 (by omega)]),hC⟩))))
    ·try simp at h11
     exact Qk J (Qk J (Zc 2 J (E4 J (A7 (Qd (Zc 1 J (A6 (B4 J J ⟨J4 (by unfold Ak3;rw [Ek0 (by omega),Ek0 (by omega),Ek0 (by omega)]),hC⟩))))))))
  ·try simp at h9
   refine Qk J (Qk J (Zc 2 J (E4 J (Qd (Z 3 J (C0 (d:=27) J (fun h13=>?_) (fun h13=>?_)))))))
   ·try simp at h13
    refine Qu J (Z 1 J (Qu J (Zc 3 J (A4 J (fun h14=>?_) (fun h14=>?_)))))
    ·try simp at h14
     refine Qd (Z 1 J (C9 J (Does.to (Ab2 J J) (J4 (show IntKind.u8.wrap ((c:Int) - 65)=(c:Int) - 65 by rw [wu8];omega))) ?_));refine C9 J (H4 kn5 Tryz.underlying3 J (by exact I4 (by omega))) ?_;exact Ad J J (by omega) (Zc 1 J (A6 (B4 J J ⟨J4 (by unfold Ak3;rw [Ek0 (by omega),Ek0 (by omega),Ek1 (by omega)];omega),hC⟩)))
    ·try simp at h14
     exact A7 (Qd (Zc 1 J (A6 (B4 J J ⟨J4 (by unfold Ak3;rw [Ek0 (by omega),Ek0 (by omega),Ek0 (by omega)]),hC⟩))))
   ·try simp at h13
    exact Qk J (Qk J (Zc 2 J (E4 J (A7 (Qd (Zc 1 J (A6 (B4 J J ⟨J4 (by unfold Ak3;rw [Ek0 (by omega),Ek0 (by omega),Ek0 (by omega)]),hC⟩))))))))
section
section
variable {P:Go.Program} {fn:Func} {T:Value→World→Prop} {e:Env} {w:World}
theorem O8 {t u:Tmp} {τ:TypeId} {a0:Addr} {v x:Value} (hr:fn.results= #[.tmp u,.cell t τ]) (hx:lk e u=some x) (hv:lk e t=some (.pointer (some a0))) (hl:(loadVar τ a0).run P w= .ok v w) (h:T (.tuple #[x,v]) w):Fin P fn T e w:=fun a ha=>by
 have h1:=ha.get t _ hv;have h2:=ha.get u x hx;refine ⟨_,?_,h⟩;simp only [results,hr];simp only [Eo3] at h1;simp [h1,asAddr,hl,← h2]
theorem F3 {t u s:Tmp} {τ:TypeId} {a0:Addr} {v x y:Value} (hr:fn.results= #[.tmp u,.tmp s,.cell t τ]) (hx:lk e u=some x) (hy:lk e s=some y) (hv:lk e t=some (.pointer (some a0))) (hl:(loadVar τ a0).run P w= .ok v w) (h:T (.tuple #[x,y,v]) w):Fin P fn T e w:=fun a ha=>by
 have h1:=ha.get t _ hv;have h2:=ha.get u x hx;have h3:=ha.get s y hy;refine ⟨_,?_,h⟩;simp only [results,hr];simp only [Eo3] at h1;simp [h1,asAddr,hl,← h2,← h3]
theorem Q3 {t u s:Tmp} {τ:TypeId} {a0:Addr} {v x y:Value} (hr:fn.results= #[.cell t τ,.tmp u,.tmp s]) (hv:lk e t=some (.pointer (some a0))) (hl:(loadVar τ a0).run P w= .ok v w) (hx:lk e u=some x) (hy:lk e s=some y) (h:T (.tuple #[v,x,y]) w):Fin P fn T e w:=fun a ha=>by
 have h1:=ha.get t _ hv;have h2:=ha.get u x hx;have h3:=ha.get s y hy;refine ⟨_,?_,h⟩;simp only [results,hr];simp only [Eo3] at h1;simp [h1,asAddr,hl,← h2,← h3]
theorem H0 {t u s:Tmp} {τ:TypeId} {a0:Addr} {v x y:Value} (hr:fn.results= #[.tmp u,.cell t τ,.tmp s]) (hx:lk e u=some x) (hv:lk e t=some (.pointer (some a0))) (hl:(loadVar τ a0).run P w= .ok v w) (hy:lk e s=some y) (h:T (.tuple #[x,v,y]) w):Fin P fn T e w:=fun a ha=>by
 have h1:=ha.get t _ hv;have h2:=ha.get u x hx;have h3:=ha.get s y hy;refine ⟨_,?_,h⟩;simp only [results,hr];simp only [Eo3] at h1;simp [h1,asAddr,hl,← h2,← h3]
theorem C7 {t u:Tmp} {τ σ:TypeId} {a0 b0:Addr} {v x:Value} (hr:fn.results= #[.cell t τ,.cell u σ]) (hv:lk e t=some (.pointer (some a0))) (hl:(loadVar τ a0).run P w= .ok v w) (hx:lk e u=some (.pointer (some b0))) (hk:(loadVar σ b0).run P w= .ok x w) (h:T (.tuple #[v,x]) w):Fin P fn T e w:=fun a ha=>by
 have h1:=ha.get t _ hv;have h2:=ha.get u _ hx;refine ⟨_,?_,h⟩;simp only [results,hr];simp only [Eo3] at h1 h2;simp [h1,h2,asAddr,hl,hk]
end
end
def Ee8 (L:List Nat) (i:Nat):Prop:=i<L.length∧0≤Ak3 (L.getD i 0)∧L.getD i 0≤57
instance (L:List Nat) (i:Nat):Decidable (Ee8 L i):=by unfold Ee8;infer_instance
def Ca3 (L:List Nat):Nat→Int→Nat→Int × Nat
 |0,n,i=>(n,i)
 |f+1,n,i=>if Ee8 L i then Ca3 L f (min (10*n+Ak3 (L.getD i 0)) 100000) (i+1) else (n,i)
theorem An6 {L:List Nat} {i:Nat} (h:¬ Ee8 L i) (f:Nat) (n:Int):Ca3 L f n i=(n,i):=by
 cases f with
 |zero=>rfl
 |succ f=>rw [Ca3,Ek0 h]
theorem numR_go {L:List Nat} {i:Nat} (h:Ee8 L i) (n:Int):Ca3 L (L.length - i) n i=Ca3 L (L.length - (i+1)) (min (10*n+Ak3 (L.getD i 0)) 100000) (i+1):=by
 have:=h.1;rw [show L.length - i=(L.length - (i+1))+1 by omega,Ca3,Ek1 h]
def endV (x:Int × Int):Value:=.agg #[.int .i64 x.1,.int .i64 x.2]
def I9 (L:List Nat) (at_:Nat):Int × Int × Int:=
 let r:=Ca3 L (L.length - at_) 0 at_
 if r.2=at_ then (0,(r.2:Int),4) else if 1000<r.1 then (0,(at_:Int),5) else (r.1,(r.2:Int),0)
theorem Bi7 (s:ByteArray) (hs:s.size≤1000) (at_:Nat) (hat:at_≤2000) (w:World):Calls P 201 #[.string s,.int .i64 (at_:Nat)] w (Ret fun u w'=>Chg [] w w'∧u= .tuple #[.int .i64 (I9 (B6 s) at_).1,endV (I9 (B6 s) at_).2]):=by
 have hC:=A8 [] w;have hsl:=E5 s;have hlt:=R5 s;refine D4 Tryz.func201 J J (Qd (Z 1 J (B5 J (B8 J3 J) ?_)));intro b1 w1 hb1 hs1 hx1 hB1;have hC:=hC.s0 hx1
 refine Qc (Qd (Zc 3 J (Qa (B2 (D8 (σ:=Int × Nat) (fun (n,i)=>[(0,.string s),(1,.int .i64 at_),(5,.pointer (some ⟨b1,0,none⟩)),(6,.int .i64 n),(7,.int .i64 i)]) (fun (n,i) wr=>Chg [] w wr∧Blk wr b1 [.int .i64 0,.int .i64 0] 232∧Ca3 (B6 s) ((B6 s).length - i) n i=Ca3 (B6 s) ((B6 s).length - at_) 0 at_∧0≤n∧n≤100000∧at_≤i∧i≤3000) (fun (n,i) wr=>3000 - i) (0,at_) (sb J) ?_ ?_)))))
 ·exact ⟨hC,hB1,rfl,by omega,by omega,El1 _,by omega⟩
 rintro ⟨n,i⟩ w9 ⟨hC,hB1,hN,hn0,hn1,hi0,hi1⟩
 refine Qa (Qd (Z 2 J (C9 J (E9 Tryz.underlying9 J) (Z 2 J (C0 (d:=13) J (fun h1=>?_) (fun h1=>?_))))))
 ·try simp at h1
  have hin:i<s.size:=by omega
  obtain ⟨u8,hu,hu2⟩:=I5 s i hin;have hb:=hlt _ (G9 (B6 s) 0 i (by omega));have hxr:=Bv1 _ hb;refine Qu J (Z 1 J (Qu J (Z 1 J (Qu J (C9 J (Does.to (E7 Tryz.underlying9 J J (by omega) (by exact hu)) (J4 (show ((u8.toNat:Nat):Int)=(((B6 s).getD i 0:Nat):Int) by rw [hu2]))) ?_)))));refine Qu J (Ca fb197 J (Dc1 ((B6 s).getD i 0) hb _) ?_);rintro _ w2 ⟨rfl,hx2⟩;have hC:=hC.s0 hx2;have hB1:=hB1.u hx2
  refine Qu J (Z 3 J (C0 (d:=20) J (fun h2=>?_) (fun h2=>?_)))
  ·try simp at h2
   refine Qu J (Z 1 J (Qu J (Z 1 J (Qu J (C9 J (Does.to (E7 Tryz.underlying9 J J (by omega) (by exact hu)) (J4 (show ((u8.toNat:Nat):Int)=(((B6 s).getD i 0:Nat):Int) by rw [hu2]))) ?_)))))
   refine Qu J (Zc 2 J (A4 J (fun h3=>?_) (fun h3=>?_)))
   ·rw [cmpB_leq] at h3;rw [← Ek2] at h2;have hd:Ee8 (B6 s) i:=⟨by omega,h2,by omega⟩;rw [numR_go hd] at hN;refine A7 (B2 (Qd (Z 1 J (C9 J (Ap6 J J (by omega)) (Z 2 J (C9 J (Does.to (E7 Tryz.underlying9 J J (by omega) (by exact hu)) (J4 (show ((u8.toNat:Nat):Int)=(((B6 s).getD i 0:Nat):Int) by rw [hu2]))) ?_))))));refine Ca fb197 J (Dc1 ((B6 s).getD i 0) hb _) ?_;rintro _ w3 ⟨rfl,hx3⟩;have hC:=hC.s0 hx3;have hB1:=hB1.u hx3;refine Ad J J (by omega) (C9 J (U9 J J) (Zc 1 J (Qb (Z 1 J (Ad J J (by omega) (Zc 1 J ⟨(min (10*n+Ak3 ((B6 s).getD i 0)) 100000,i+1),sb J,?_,?_⟩))))));exact ⟨hC,hB1,hN,by omega,by omega,by omega,by omega⟩;show 3000 - (i+1)<3000 - i;omega
   ·rw [cmpB_leqF] at h3;have hX:=hN.symm.trans (An6 (fun h=>by have:=h.2.2;omega) _ _)
    refine Xb (Qa (Qd (Zc 3 J (A4 J (fun h4=>?_) (fun h4=>?_)))))
    ·try simp at h4
     refine Qd (Z 1 J (C9 J (B1 J3 M4 J (by rfl)) ?_));refine Z 1 J (Pe G5 J ‹_› J J ?_);intro w4 hs4 hx4 hB1;have hC:=hC.step hx4 (by simp;omega);refine Qc (A6 (O8 J J J (A5 F8 ‹_› J J) ?_));exact ⟨hC,by unfold I9;simp only [hX];rw [Ek1 (by omega)];rfl⟩
    ·try simp at h4
     refine A7 (Qa (Qd (Zc 2 J (A4 J (fun h5=>?_) (fun h5=>?_)))))
     ·try simp at h5
      refine Qd (Z 1 J (C9 J (B1 J3 M4 J (by rfl)) ?_));refine Z 1 J (Pe G5 J ‹_› J J ?_);intro w5 hs5 hx5 hB1;have hC:=hC.step hx5 (by simp;omega);refine Qc (A6 (O8 J J J (A5 F8 ‹_› J J) ?_));exact ⟨hC,by unfold I9;simp only [hX];rw [Ek0 (by omega),Ek1 (by omega)];rfl⟩
     ·try simp at h5
      refine A7 (Qd (Z 2 J (C9 J (B1 J3 M4 J (by rfl)) ?_)));refine Z 1 J (Pe G5 J ‹_› J J ?_);intro w6 hs6 hx6 hB1;have hC:=hC.step hx6 (by simp;omega);refine Qc (A6 (O8 J J J (A5 F8 ‹_› J J) ?_));exact ⟨hC,by unfold I9;simp only [hX];rw [Ek0 (by omega),Ek0 (by omega)];rfl⟩
  ·try simp at h2
   rw [← Ek2] at h2;have hX:=hN.symm.trans (An6 (fun h=>by have:=h.2.1;omega) _ _)
   refine Qk J (Qk J (Qk J (Qk J (Zc 1 J (E4 J (Xb (Qa (Qd (Zc 3 J (A4 J (fun h4=>?_) (fun h4=>?_)))))))))))
   ·try simp at h4
    refine Qd (Z 1 J (C9 J (B1 J3 M4 J (by rfl)) ?_));refine Z 1 J (Pe G5 J ‹_› J J ?_);intro w7 hs7 hx7 hB1;have hC:=hC.step hx7 (by simp;omega);refine Qc (A6 (O8 J J J (A5 F8 ‹_› J J) ?_));exact ⟨hC,by unfold I9;simp only [hX];rw [Ek1 (by omega)];rfl⟩
   ·try simp at h4
    refine A7 (Qa (Qd (Zc 2 J (A4 J (fun h5=>?_) (fun h5=>?_)))))
    ·try simp at h5
     refine Qd (Z 1 J (C9 J (B1 J3 M4 J (by rfl)) ?_));refine Z 1 J (Pe G5 J ‹_› J J ?_);intro w8 hs8 hx8 hB1;have hC:=hC.step hx8 (by simp;omega);refine Qc (A6 (O8 J J J (A5 F8 ‹_› J J) ?_));exact ⟨hC,by unfold I9;simp only [hX];rw [Ek0 (by omega),Ek1 (by omega)];rfl⟩
    ·try simp at h5
     refine A7 (Qd (Z 2 J (C9 J (B1 J3 M4 J (by rfl)) ?_)));refine Z 1 J (Pe G5 J ‹_› J J ?_);intro w9 hs9 hx9 hB1;have hC:=hC.step hx9 (by simp;omega);refine Qc (A6 (O8 J J J (A5 F8 ‹_› J J) ?_));exact ⟨hC,by unfold I9;simp only [hX];rw [Ek0 (by omega),Ek0 (by omega)];rfl⟩
 ·try simp at h1
  have hX:=hN.symm.trans (An6 (fun h=>by have:=h.1;omega) _ _)
  refine Qk J (Qk J (Qk J (Qk J (Qk J (Z 2 J (Qk J (Qk J (Qk J (Qk J (Zc 1 J (E4 J (Xb (Qa (Qd (Zc 3 J (A4 J (fun h4=>?_) (fun h4=>?_)))))))))))))))))
  ·try simp at h4
   refine Qd (Z 1 J (C9 J (B1 J3 M4 J (by rfl)) ?_));refine Z 1 J (Pe G5 J ‹_› J J ?_);intro w10 hs10 hx10 hB1;have hC:=hC.step hx10 (by simp;omega);refine Qc (A6 (O8 J J J (A5 F8 ‹_› J J) ?_));exact ⟨hC,by unfold I9;simp only [hX];rw [Ek1 (by omega)];rfl⟩
  ·try simp at h4
   refine A7 (Qa (Qd (Zc 2 J (A4 J (fun h5=>?_) (fun h5=>?_)))))
   ·try simp at h5
    refine Qd (Z 1 J (C9 J (B1 J3 M4 J (by rfl)) ?_));refine Z 1 J (Pe G5 J ‹_› J J ?_);intro w11 hs11 hx11 hB1;have hC:=hC.step hx11 (by simp;omega);refine Qc (A6 (O8 J J J (A5 F8 ‹_› J J) ?_));exact ⟨hC,by unfold I9;simp only [hX];rw [Ek0 (by omega),Ek1 (by omega)];rfl⟩
   ·try simp at h5
    refine A7 (Qd (Z 2 J (C9 J (B1 J3 M4 J (by rfl)) ?_)));refine Z 1 J (Pe G5 J ‹_› J J ?_);intro w12 hs12 hx12 hB1;have hC:=hC.step hx12 (by simp;omega);refine Qc (A6 (O8 J J J (A5 F8 ‹_› J J) ?_));exact ⟨hC,by unfold I9;simp only [hX];rw [Ek0 (by omega),Ek0 (by omega)];rfl⟩
def Bd7 (L:List (Int × Int)):List Value:=L.flatMap fun p=>[.int .i64 p.1,.int .i64 p.2]
theorem Dl9 (L:List (Int × Int)):(Bd7 L).length=L.length*2:=by
 induction L with
 |nil=>rfl
 |cons p r ih=>simp only [Bd7,Eo0,Ek5,En2,Eu6] at*;omega
theorem Dm0 (L:List (Int × Int)):∀ (k:Nat),k<L.length→(Bd7 L)[k*2]?=some (.int .i64 (L.getD k default).1)∧(Bd7 L)[k*2+1]?=some (.int .i64 (L.getD k default).2):=by
 induction L with
 |nil=>intro k h;simp at h
 |cons p r ih=>
  intro k h
  cases k with
  |zero=>exact ⟨rfl,rfl⟩
  |succ k=>
   have:=ih k (by simpa using h);rw [show (k+1)*2=k*2+2 by omega];exact ⟨this.1,this.2⟩
def inP (L:List (Int × Int)) (b:Nat):Bool:=L.any fun p=>decide (p.1≤(b:Int)) && decide ((b:Int)≤p.2)
def smI (L:List (Int × Int)) (neg:Bool) (b:Nat):List Bool:=(List.range 256).map fun x=>decide (x<b) && (inP L x !=neg)
def smL (L:List (Int × Int)) (neg:Bool):List Bool:=(List.range 256).map fun x=>inP L x !=neg
def smS (L:List (Int × Int)) (neg:Bool):Nat:=onS (smL L neg)
theorem Dt8 (L:List (Int × Int)) (neg:Bool) (b:Nat):(smI L neg b).length=256:=by simp [smI]
theorem smI_all (L:List (Int × Int)) (neg:Bool):smI L neg 256=smL L neg:=by
 unfold smI smL;apply Eq3;intro x hx;rw [El2 (Em9.1 hx),Eu5]
theorem smI_zero (L:List (Int × Int)) (neg:Bool):smI L neg 0=List.replicate 256 false:=by
 unfold smI;rw [Et9];refine ⟨by simp,fun x hx=>?_⟩;obtain ⟨y,_,rfl⟩:=Eo9.1 hx;rw [El3 (by omega),Bool.false_and]
theorem smI_set (L:List (Int × Int)) (neg:Bool) (b:Nat) (hb:b<256):(smI L neg b).set b (inP L b !=neg)=smI L neg (b+1):=by
 apply Em4;intro j;simp only [smI,En1,El8,Eo2,Eq4]
 by_cases hj:b=j
 ·subst hj;simp [hb]
 ·simp only [Ek0 hj]
  by_cases hl:j<256
  ·simp only [Em7 hl,En4]
   congr 1
   by_cases h2:j<b
   ·rw [El2 h2,El2 (by omega)]
   ·rw [El3 h2,El3 (by omega)]
  ·simp [El5 (l:=List.range 256) (i:=j) (by simp;omega)]
theorem any_take {α:Type} (f:α→Bool) (l:List α) (d:α) (k:Nat) (h:k<l.length):(l.take (k+1)).any f=((l.take k).any f||f (l.getD k d)):=by
 rw [Eq2 h,List.any_append];simp [Ek2,Ek4 h]
theorem rsome_c (L:List (Int × Int)) (neg:Bool) (F:Nat→Prop) (A:Option Addr) (c:Nat) (hL:L.length≤1000) (w:World) (hF:∀ x,F x→x<w.heap.size) (hr:Rd F w 2 A L.length (Bd7 L)):Calls P 170 #[.slice A L.length c,.bool neg] w (Ret fun u w'=>u= .agg (C4 (smS L neg)).toArray∧Chg [] w w'):=by
 have hC:=A8 [] w;refine D4 Tryz.func170 J J (Qd (B5 J (B8 N0 J) ?_));intro b1 w1 hb1 hs1 hx1 hB1;refine Qc (Qd (B5 J (O7 el43 zr4 J (cs:=X4 (List.replicate 256 false)) (by omega) (by omega) (by show (madeCells #[_] (Int.toNat 256*1)).toList=_;rw [T4];simp [X4])) ?_));intro b2 w2 hb2 hs2 hx2 hB2;have hC:=hC.s0 (hx1.s0 hx2);have hr:=hr.u (hx1.s0 hx2);have hB1:=hB1.u hx2
 refine Zc 1 J (Qa (Qd (Zc 1 J (B2 (D8 (σ:=Nat) (fun b=>[(0,.slice A L.length c),(1,.bool neg),(4,.pointer (some ⟨b1,0,none⟩)),(5,.slice (some ⟨b2,0,none⟩) 256 256),(6,.int .i64 b)]) (fun b wr=>Chg [] w wr∧Rd F wr 2 A L.length (Bd7 L)∧Blk wr b1 (C4 0) 70∧Blk wr b2 (X4 (smI L neg b)) 4∧b≤256) (fun b wr=>256 - b) 0 (sb J) ?_ ?_)))))
 ·rw [← C6] at hB1;exact ⟨hC,hr,hB1,by rw [smI_zero];exact hB2,by omega⟩
 rintro b w9 ⟨hC,hr,hB1,hB2,hb⟩
 refine Qa (Qd (Zc 2 J (A4 J (fun h1=>?_) (fun h1=>?_))))
 ·try simp at h1
  have hb2:b<256:=by omega
  refine A7 (Qa (B2 (Qd (Zc 1 J (Qa (Qd (Zc 1 J (B2 (D8 (σ:=Nat) (fun i=>[(0,.slice A L.length c),(1,.bool neg),(4,.pointer (some ⟨b1,0,none⟩)),(5,.slice (some ⟨b2,0,none⟩) 256 256),(6,.int .i64 b),(7,.bool ((L.take i).any fun p=>decide (p.1≤(b:Int)) && decide ((b:Int)≤p.2))),(8,.int .i64 i)]) (fun i wr=>Chg [] w wr∧Rd F wr 2 A L.length (Bd7 L)∧Blk wr b1 (C4 0) 70∧Blk wr b2 (X4 (smI L neg b)) 4∧i≤L.length) (fun i wr=>L.length - i) 0 (sb J) ?_ ?_)))))))))
  ·exact ⟨hC,hr,hB1,hB2,by omega⟩
  rintro i w8 ⟨hC,hr,hB1,hB2,hi⟩
  refine Qa (Qd (Z 2 J (Ln Tryz.underlying268 J (Zc 1 J (A4 J (fun h2=>?_) (fun h2=>?_))))))
  ·try simp at h2
   have hin:i<L.length:=by omega
   obtain ⟨g,off,rfl,hFg,hlt,hcell⟩:=hr.at_ (by omega);have hg2:=Dm0 L i hin;have hc1:=hcell _ _ hg2.1;have hc2:=hcell _ _ hg2.2;have hat:=any_take (fun p:Int × Int=>decide (p.1≤(b:Int)) && decide ((b:Int)≤p.2)) L default i hin
   refine A7 (Qa (B2 (Qb (Z 2 J (C0 (d:=21) J (fun h3=>?_) (fun h3=>?_))))))
   ·refine Qk J (Qk J (Qk J (Qk J (Qk J (Qk J (Qk J (Qk J (H1 J J J J (fun h=>by cases h) ?_))))))));refine H1 J J J J (fun h=>by cases h) ?_;refine H1 J J J J (fun h=>by cases h) ?_;refine H1 J J J J (fun h=>by cases h) ?_;refine H1 J J J J (fun h=>by cases h) ?_;refine H1 J J J J (fun h=>by cases h) ?_;refine H1 J J J J (fun h=>by cases h) ?_;refine Qk J (Zc 2 J (Qb (Z 1 J (Ad J J (by omega) (Zc 1 J ⟨i+1,⟨rfl,rfl,rfl,rfl,rfl,(H3 J (by rw [hat,h3];rfl)),rfl,trivial⟩,?_,?_⟩)))));exact ⟨hC,hr,hB1,hB2,hin⟩;omega
   ·refine Qu J (Z 1 J (Qu J (Z 1 J (Qu J (Z 1 J (Qu J (C9 J (C2 At0 J J (by omega) (by omega)) (Qu J (C9 J (E6 X5 J J (by omega) (by omega)) (Qu J (Lc o3 J hc1 (Qu J (Z 1 J (Qu J (Z 1 J (C0 (d:=29) J (fun h4=>?_) (fun h4=>?_)))))))))))))))))
    ·rw [cmpB_geq] at h4;refine Qu J (Z 1 J (Qu J (Z 1 J (Qu J (Z 1 J (Qu J (C9 J (C2 At0 J J (by omega) (by omega)) (Qu J (C9 J (E6 X5 J J (by omega) (by omega)) (Qu J (Lc o3 J hc2 (Qu J (Z 1 J (Qu J (Zc 3 J (Qb (Z 1 J (Ad J J (by omega) (Zc 1 J ⟨i+1,⟨rfl,rfl,rfl,rfl,rfl,(H3 J (by rw [hat,h3,El2 h4];rfl)),rfl,trivial⟩,?_,?_⟩)))))))))))))))))));exact ⟨hC,hr,hB1,hB2,hin⟩;omega
    ·rw [cmpB_geqF] at h4;refine Qk J (Qk J (Qk J (Qk J (Qk J (Qk J (Qk J (Qu J (Zc 3 J (Qb (Z 1 J (Ad J J (by omega) (Zc 1 J ⟨i+1,⟨rfl,rfl,rfl,rfl,rfl,(H3 J (by rw [hat,h3,El3 (by omega)];rfl)),rfl,trivial⟩,?_,?_⟩))))))))))));exact ⟨hC,hr,hB1,hB2,hin⟩;omega
  ·try simp at h2
   have hii:i=L.length:=by omega
   subst hii;refine Xb (Qb (Z 4 J (C9 J (Aj8 Tryz.underlying4 J J) (C9 J (B0 sl43 J J (by omega) (by omega)) (Pb (cs':=(X4 (smI L neg (b+1)))) sz4 J J hB2 J J J (by rw [O6,Dt8,Ep4];omega) (by rw [Ek9,El6,Z9 _ _ _ (by rw [O6,Dt8];exact hb2),← smI_set L neg b hb2,Eo6];unfold inP X4;rw [Et1];rfl) ?_)))));intro w3 hs3 hx3 hB2;have hC:=hC.step hx3 (by simp;omega);have hr:=hr.q hx3 (by intro b hb hFb;have:=hF _ hFb;simp at hb;omega);have hB1:=hB1.q hx3 (by simp;omega);refine Qc (Qb (Z 1 J (Ad J J (by omega) (Zc 1 J ⟨b+1,sb J,?_,?_⟩))));exact ⟨hC,hr,hB1,hB2,by omega⟩;omega
 ·try simp at h1
  have hbb:b=256:=by omega
  subst hbb;rw [smI_all] at hB2;refine Xb (Qd (Z 1 J (Ca fb200 J (Ct5 (fun x=>x<w9.heap.size) (smL L neg) (some ⟨b2,0,none⟩) 256 (by simp [smL]) _ (fun x h=>h) (hB2.rd (by simp [X4,smL]) hB2.lt)) ?_)));rintro _ w4 ⟨rfl,hx4⟩;have hB1:=hB1.u hx4;refine Pe J9 J ‹_› J J ?_;intro w5 hs5 hx5 hB1;have hC:=hC.step (hx4.j hx5) (by simp<;>omega);refine Qc (A6 (D5 J J (A5 J0 ‹_› J J) ?_));exact ⟨rfl,hC⟩
theorem L7 (L:List (Int × Int)) (neg:Bool) (b m:Nat) (hm:m=L.length) (hm2:m≤1000) (w:World) (hB:Blk w b (Bd7 L) 252):Calls P 170 #[.slice (some ⟨b,0,none⟩) m m,.bool neg] w (Ret fun u w'=>u= .agg (C4 (smS L neg)).toArray∧Chg [] w w'):=by
 subst hm;exact rsome_c L neg (fun x=>x<w.heap.size) _ _ hm2 w (fun x h=>h) (hB.rd (by rw [Dl9]) hB.lt)
def digs:List (Int × Int):=[(48,57)]
def wrds:List (Int × Int):=[(48,57),(97,122),(65,90),(95,95)]
def spcs:List (Int × Int):=[(9,13),(32,32)]
def Dk7:ByteArray:=⟨#[92,124,40,41,91,93,123,125,42,43,63,46,94,36,47,45]⟩
def unT:ByteArray:=⟨#[49,50,51,52,53,54,55,56,57,98,66,65,122,90,71,81,69,107,112,80]⟩
def Au1 (L:List Nat) (at_:Nat):Nat→Nat→Nat ⊕ Nat
 |0,n=>.inl n
 |k+1,n=>if L.length≤at_ then .inr (min at_ L.length) else if Ak3 (L.getD at_ 0)<0 then .inr (min at_ L.length) else Au1 L (at_+1) k (16*n+(Ak3 (L.getD at_ 0)).toNat)
def Co2 (L:List Nat) (at_:Nat):Nat × Int × Int:=
 if L.length≤at_+1 then (0,(L.length:Int),4) else
 let c:=L.getD (at_+1) 0
 let e:Int × Int:=((at_:Int)+2,0)
 if c∈B6 Dk7 then (smS [((c:Int),(c:Int))] false,e)
 else if c=110 then (smS [(10,10)] false,e)
 else if c=116 then (smS [(9,9)] false,e)
 else if c=114 then (smS [(13,13)] false,e)
 else if c=102 then (smS [(12,12)] false,e)
 else if c=118 then (smS [(11,11)] false,e)
 else if c=100∨c=68 then (smS digs (Aa4 .eql (c:Int) 68),e)
 else if c=119∨c=87 then (smS wrds (Aa4 .eql (c:Int) 87),e)
 else if c=115∨c=83 then (smS spcs (Aa4 .eql (c:Int) 83),e)
 else if c=120 then
  match Au1 L (at_+2) 2 0 with
  | .inl n=>(smS [((n:Int),(n:Int))] false,(at_:Int)+4,0)
  | .inr i=>(0,(i:Int),4)
 else if c∈B6 unT then (0,(at_:Int),6)
 else (0,(at_:Int)+1,4)
def EscR (r:Nat × Int × Int) (w:World) (u:Value) (w':World):Prop:=Chg [] w w'∧u= .tuple #[.agg (C4 r.1).toArray,endV r.2]
theorem resc_c (s:ByteArray) (hs:s.size≤1000) (at_:Nat) (hat:at_≤2000) (w:World):Calls P 168 #[.string s,.int .i64 (at_:Nat)] w (Ret (EscR (Co2 (B6 s) at_) w)):=by
 have hC:=A8 [] w;have hsl:=E5 s;have hlt:=R5 s;refine D4 Tryz.func168 J J (Qd (B5 J (B8 N0 J) ?_));intro b1 w1 hb1 hs1 hx1 hB1;refine B5 J (B8 J3 J) ?_;intro b2 w2 hb2 hs2 hx2 hB2;have hC:=hC.s0 (hx1.s0 hx2);have hB1:=hB1.u hx2
 refine Qc (Qa (Qd (Z 1 J (Ad J J (by omega) (Z 1 J (C9 J (E9 Tryz.underlying9 J) (Zc 1 J (A4 J (fun h1=>?_) (fun h1=>?_)))))))))
 ·try simp at h1
  refine Qd (C9 J (D7 N0 Av2 J (by rfl)) ?_);refine Z 1 J (C9 J (E9 Tryz.underlying9 J) (C9 J (B1 J3 M4 J (by rfl)) ?_));refine Pe J9 J ‹_› J J ?_;intro w3 hs3 hx3 hB1;have hB2:=hB2.q hx3 (by simp;omega);refine Pe G5 J ‹_› J J ?_;intro w4 hs4 hx4 hB2;have hC:=hC.step (hx3.j hx4) (by simp<;>omega);have hB1:=hB1.q hx4 (by simp;omega);refine Qc (A6 (C7 J J (A5 J0 ‹_› J J) J (A5 F8 ‹_› J J) ?_));exact ⟨hC,by unfold Co2;rw [Ek1 (by omega)];rw [C6,← hsl];rfl⟩
 ·try simp at h1
  have hin:at_+1<s.size:=by omega
  obtain ⟨u8,hu,hu2⟩:=I5 s (at_+1) hin;have hb:=hlt _ (G9 (B6 s) 0 (at_+1) (by omega));refine A7 (Qd (Z 2 J (Ad J J (by omega) (C9 J (Does.to (E7 Tryz.underlying9 J J (by omega) (by exact hu)) (J4 (show ((u8.toNat:Nat):Int)=(((B6 s).getD (at_+1) 0:Nat):Int) by rw [hu2]))) ?_))));have hE:Co2 (B6 s) at_=Co2 (B6 s) at_:=rfl
  conv at hE=>rhs;unfold Co2
  rw [Ek0 (by omega)] at hE;simp only [] at hE;generalize hc:(B6 s).getD (at_+1) 0=c at*;refine Zc 1 J (Qd (Z 1 J (C9 J (H4 kn5 Tryz.underlying3 J (by exact I4 (by omega))) ?_)));refine Z 1 J (C9 J (H4 kn5 Tryz.underlying3 J (by exact I4 (by omega))) ?_);refine C9 J (D7 Q5 X5 J (by rfl)) ?_;refine B5 J (B7 At0 Tryz.underlying268 Q5 J J J (by rfl)) ?_;intro b5 w5 hb5 hs5 hx5 hB5;refine Zc 1 J (Qd (C9 J (D7 Q5 X5 J (by rfl)) ?_));refine B5 J (B7 At0 Tryz.underlying268 Q5 J J J (by rfl)) ?_;intro b6 w6 hb6 hs6 hx6 hB6;refine Zc 1 J (Qd (C9 J (D7 Q5 X5 J (by rfl)) ?_));refine C9 J (D7 Q5 X5 J (by rfl)) ?_;refine C9 J (D7 Q5 X5 J (by rfl)) ?_;refine C9 J (D7 Q5 X5 J (by rfl)) ?_;refine B5 J (B7 At0 Tryz.underlying268 Q5 J J J (by rfl)) ?_;intro b7 w7 hb7 hs7 hx7 hB7;refine Zc 1 J (Qd (C9 J (D7 Q5 X5 J (by rfl)) ?_));refine C9 J (D7 Q5 X5 J (by rfl)) ?_;refine B5 J (B7 At0 Tryz.underlying268 Q5 J J J (by rfl)) ?_;intro b8 w8 hb8 hs8 hx8 hB8;refine Zc 1 J (Qd (Z 1 J (Ad J J (by omega) (C9 J (B1 J3 M4 J (by rfl)) ?_))));refine B5 J (B8 J3 J) ?_;intro b9 w9 hb9 hs9 hx9 hB9;refine Pe G5 J ‹_› J J ?_;intro w10 hs10 hx10 hB9;refine Qc (Qa (B2 (Qd (Z 1 J (Ca fb171 J (rin_c Dk7 (by decide) c hb _) ?_)))));rintro _ w11 ⟨rfl,hx11⟩;have hC:=hC.step ((((((hx5.j hx6).j hx7).j hx8).j hx9).j hx10).j hx11) (by simp<;>omega);have hB1:=hB1.q ((((((hx5.j hx6).j hx7).j hx8).j hx9).j hx10).j hx11) (by simp<;>omega);have hB2:=hB2.q ((((((hx5.j hx6).j hx7).j hx8).j hx9).j hx10).j hx11) (by simp<;>omega);have hB5:=hB5.q (((((hx6.j hx7).j hx8).j hx9).j hx10).j hx11) (by simp<;>omega);have hB6:=hB6.q ((((hx7.j hx8).j hx9).j hx10).j hx11) (by simp<;>omega);have hB7:=hB7.q (((hx8.j hx9).j hx10).j hx11) (by simp<;>omega);have hB8:=hB8.q ((hx9.j hx10).j hx11) (by simp<;>omega);have hB9:=hB9.u hx11
  refine Zc 1 J (A4 J (fun g1=>?_) (fun g1=>?_))
  ·rw [El7] at g1;rw [Ek1 g1] at hE;refine Qa (C8 (S:=[b1]) 4 [(0,0),(0,2),(1,1),(1,3),(2,4)] mo (by kernel_rfl) ?_);intro w12 hx12 hh12;have hB5:=hB5.u hx12;have hB9:=hB9.u hx12;have hCS12:=A8 ([b1]) w12;refine Z 1 J (D6 J (C1 F8 J ‹_› (by simp;omega) J J) ?_);refine C5 J (C3 Ar9 J) (L7 [((c:Int),(c:Int))] false _ _ J (by simp) _ ‹_›) ?_;rintro _ w13 ⟨rfl,hx13⟩;have hB1:=hB1.u (hx12.s0 hx13);have hCS12:=hCS12.s0 hx13;refine ⟨hCS12,?_⟩;refine H8 (G3 J9 J J ‹_› J J J J J) ?_;intro w14 hs14 hx14 hB1;have hB2:=hB2.q ((hx12.j hx13).j hx14) (by simp<;>omega);have hCS12:=hCS12.step hx14 (by simp;done);refine ⟨hCS12,?_⟩;refine Pe G5 J ‹_› J J ?_;intro w15 hs15 hx15 hB2;have hC:=hC.step (((hx12.j hx13).j hx14).j hx15) (by simp<;>omega);have hB1:=hB1.q hx15 (by simp;omega);refine Qc (A6 (C7 J J (A5 J0 ‹_› J J) J (A5 F8 ‹_› J J) ?_));exact ⟨hC,by rw [hE];rfl⟩
  ·rw [decide_eq_false_iff_not] at g1;rw [Ek0 g1] at hE
   refine Qd (Zc 3 J (A4 J (fun k0=>?_) (fun k0=>?_)))
   ·try simp at k0
    rw [Ek1 (by omega)] at hE;refine Qa (C8 (S:=[b1]) 5 [(0,0),(0,3),(1,1),(1,2),(1,4),(2,5)] mo (by kernel_rfl) ?_);intro w16 hx16 hh16;have hB9:=hB9.u hx16;have hCS16:=A8 ([b1]) w16;refine D6 J (D7 Q5 X5 J (by rfl)) ?_;refine D6 J (C1 F8 J ‹_› (by simp;omega) J J) ?_;refine E2 J (B7 At0 Tryz.underlying268 Q5 J J J (by rfl)) ?_;intro b17 w17 hb17 hs17 hx17 hB17;have hCS16:=hCS16.s0 hx17;refine ⟨hCS16,?_⟩;refine C5 J (C3 Ar9 J) (L7 [(10,10)] false _ _ J (by simp) _ ‹_›) ?_;rintro _ w18 ⟨rfl,hx18⟩;have hB1:=hB1.u ((hx16.s0 hx17).s0 hx18);have hCS16:=hCS16.s0 hx18;refine ⟨hCS16,?_⟩;refine H8 (G3 J9 J J ‹_› J J J J J) ?_;intro w19 hs19 hx19 hB1;have hB2:=hB2.q (((hx16.j hx17).j hx18).j hx19) (by simp<;>omega);have hCS16:=hCS16.step hx19 (by simp;done);refine ⟨hCS16,?_⟩;refine Pe G5 J ‹_› J J ?_;intro w20 hs20 hx20 hB2;have hC:=hC.step ((((hx16.j hx17).j hx18).j hx19).j hx20) (by simp<;>omega);have hB1:=hB1.q hx20 (by simp;omega);refine Qc (A6 (C7 J J (A5 J0 ‹_› J J) J (A5 F8 ‹_› J J) ?_));exact ⟨hC,by rw [hE];rfl⟩
   ·try simp at k0
    rw [Ek0 (by omega)] at hE
    refine Qd (Zc 3 J (A4 J (fun k1=>?_) (fun k1=>?_)))
    ·try simp at k1
     rw [Ek1 (by omega)] at hE;refine Qa (C8 (S:=[b1]) 5 [(0,0),(0,3),(1,1),(1,2),(1,4),(2,5)] mo (by kernel_rfl) ?_);intro w21 hx21 hh21;have hB9:=hB9.u hx21;have hCS21:=A8 ([b1]) w21;refine D6 J (D7 Q5 X5 J (by rfl)) ?_;refine D6 J (C1 F8 J ‹_› (by simp;omega) J J) ?_;refine E2 J (B7 At0 Tryz.underlying268 Q5 J J J (by rfl)) ?_;intro b22 w22 hb22 hs22 hx22 hB22;have hCS21:=hCS21.s0 hx22;refine ⟨hCS21,?_⟩;refine C5 J (C3 Ar9 J) (L7 [(9,9)] false _ _ J (by simp) _ ‹_›) ?_;rintro _ w23 ⟨rfl,hx23⟩;have hB1:=hB1.u ((hx21.s0 hx22).s0 hx23);have hCS21:=hCS21.s0 hx23;refine ⟨hCS21,?_⟩;refine H8 (G3 J9 J J ‹_› J J J J J) ?_;intro w24 hs24 hx24 hB1;have hB2:=hB2.q (((hx21.j hx22).j hx23).j hx24) (by simp<;>omega);have hCS21:=hCS21.step hx24 (by simp;done);refine ⟨hCS21,?_⟩;refine Pe G5 J ‹_› J J ?_;intro w25 hs25 hx25 hB2;have hC:=hC.step ((((hx21.j hx22).j hx23).j hx24).j hx25) (by simp<;>omega);have hB1:=hB1.q hx25 (by simp;omega);refine Qc (A6 (C7 J J (A5 J0 ‹_› J J) J (A5 F8 ‹_› J J) ?_));exact ⟨hC,by rw [hE];rfl⟩
    ·try simp at k1
     rw [Ek0 (by omega)] at hE
     refine Qd (Zc 3 J (A4 J (fun k2=>?_) (fun k2=>?_)))
     ·try simp at k2
      rw [Ek1 (by omega)] at hE;refine Qa (C8 (S:=[b1]) 5 [(0,0),(0,3),(1,1),(1,2),(1,4),(2,5)] mo (by kernel_rfl) ?_);intro w26 hx26 hh26;have hB9:=hB9.u hx26;have hCS26:=A8 ([b1]) w26;refine D6 J (D7 Q5 X5 J (by rfl)) ?_;refine D6 J (C1 F8 J ‹_› (by simp;omega) J J) ?_;refine E2 J (B7 At0 Tryz.underlying268 Q5 J J J (by rfl)) ?_;intro b27 w27 hb27 hs27 hx27 hB27;have hCS26:=hCS26.s0 hx27;refine ⟨hCS26,?_⟩;refine C5 J (C3 Ar9 J) (L7 [(13,13)] false _ _ J (by simp) _ ‹_›) ?_;rintro _ w28 ⟨rfl,hx28⟩;have hB1:=hB1.u ((hx26.s0 hx27).s0 hx28);have hCS26:=hCS26.s0 hx28;refine ⟨hCS26,?_⟩;refine H8 (G3 J9 J J ‹_› J J J J J) ?_;intro w29 hs29 hx29 hB1;have hB2:=hB2.q (((hx26.j hx27).j hx28).j hx29) (by simp<;>omega);have hCS26:=hCS26.step hx29 (by simp;done);refine ⟨hCS26,?_⟩;refine Pe G5 J ‹_› J J ?_;intro w30 hs30 hx30 hB2;have hC:=hC.step ((((hx26.j hx27).j hx28).j hx29).j hx30) (by simp<;>omega);have hB1:=hB1.q hx30 (by simp;omega);refine Qc (A6 (C7 J J (A5 J0 ‹_› J J) J (A5 F8 ‹_› J J) ?_));exact ⟨hC,by rw [hE];rfl⟩
     ·try simp at k2
      rw [Ek0 (by omega)] at hE
      refine Qd (Zc 3 J (A4 J (fun k3=>?_) (fun k3=>?_)))
      ·try simp at k3
       rw [Ek1 (by omega)] at hE;refine Qa (C8 (S:=[b1]) 5 [(0,0),(0,3),(1,1),(1,2),(1,4),(2,5)] mo (by kernel_rfl) ?_);intro w31 hx31 hh31;have hB9:=hB9.u hx31;have hCS31:=A8 ([b1]) w31;refine D6 J (D7 Q5 X5 J (by rfl)) ?_;refine D6 J (C1 F8 J ‹_› (by simp;omega) J J) ?_;refine E2 J (B7 At0 Tryz.underlying268 Q5 J J J (by rfl)) ?_;intro b32 w32 hb32 hs32 hx32 hB32;have hCS31:=hCS31.s0 hx32;refine ⟨hCS31,?_⟩;refine C5 J (C3 Ar9 J) (L7 [(12,12)] false _ _ J (by simp) _ ‹_›) ?_;rintro _ w33 ⟨rfl,hx33⟩;have hB1:=hB1.u ((hx31.s0 hx32).s0 hx33);have hCS31:=hCS31.s0 hx33;refine ⟨hCS31,?_⟩;refine H8 (G3 J9 J J ‹_› J J J J J) ?_;intro w34 hs34 hx34 hB1;have hB2:=hB2.q (((hx31.j hx32).j hx33).j hx34) (by simp<;>omega);have hCS31:=hCS31.step hx34 (by simp;done);refine ⟨hCS31,?_⟩;refine Pe G5 J ‹_› J J ?_;intro w35 hs35 hx35 hB2;have hC:=hC.step ((((hx31.j hx32).j hx33).j hx34).j hx35) (by simp<;>omega);have hB1:=hB1.q hx35 (by simp;omega);refine Qc (A6 (C7 J J (A5 J0 ‹_› J J) J (A5 F8 ‹_› J J) ?_));exact ⟨hC,by rw [hE];rfl⟩
      ·try simp at k3
       rw [Ek0 (by omega)] at hE
       refine Qd (Zc 3 J (A4 J (fun k4=>?_) (fun k4=>?_)))
       ·try simp at k4
        rw [Ek1 (by omega)] at hE;refine Qa (C8 (S:=[b1]) 5 [(0,0),(0,3),(1,1),(1,2),(1,4),(2,5)] mo (by kernel_rfl) ?_);intro w36 hx36 hh36;have hB9:=hB9.u hx36;have hCS36:=A8 ([b1]) w36;refine D6 J (D7 Q5 X5 J (by rfl)) ?_;refine D6 J (C1 F8 J ‹_› (by simp;omega) J J) ?_;refine E2 J (B7 At0 Tryz.underlying268 Q5 J J J (by rfl)) ?_;intro b37 w37 hb37 hs37 hx37 hB37;have hCS36:=hCS36.s0 hx37;refine ⟨hCS36,?_⟩;refine C5 J (C3 Ar9 J) (L7 [(11,11)] false _ _ J (by simp) _ ‹_›) ?_;rintro _ w38 ⟨rfl,hx38⟩;have hB1:=hB1.u ((hx36.s0 hx37).s0 hx38);have hCS36:=hCS36.s0 hx38;refine ⟨hCS36,?_⟩;refine H8 (G3 J9 J J ‹_› J J J J J) ?_;intro w39 hs39 hx39 hB1;have hB2:=hB2.q (((hx36.j hx37).j hx38).j hx39) (by simp<;>omega);have hCS36:=hCS36.step hx39 (by simp;done);refine ⟨hCS36,?_⟩;refine Pe G5 J ‹_› J J ?_;intro w40 hs40 hx40 hB2;have hC:=hC.step ((((hx36.j hx37).j hx38).j hx39).j hx40) (by simp<;>omega);have hB1:=hB1.q hx40 (by simp;omega);refine Qc (A6 (C7 J J (A5 J0 ‹_› J J) J (A5 F8 ‹_› J J) ?_));exact ⟨hC,by rw [hE];rfl⟩
       ·try simp at k4
        rw [Ek0 (by omega)] at hE
        refine Qd (Z 3 J (C0 (d:=90) J (fun m0=>?_) (fun m0=>?_)))
        ·try simp at m0
         rw [Ek1 (by omega)] at hE;refine Qk J (Qk J (Zc 2 J (E3 J (Qa (C8 (S:=[b1]) 6 [(0,0),(0,1),(0,2),(0,4),(1,3),(1,5),(2,6)] mo (by kernel_rfl) ?_)))));intro w41 hx41 hh41;have hB6:=hB6.u hx41;have hB9:=hB9.u hx41;have hCS41:=A8 ([b1]) w41;refine Z 3 J (D6 J (C1 F8 J ‹_› (by simp;omega) J J) ?_);refine C5 J (C3 Ar9 J) (L7 digs _ _ _ J (by decide) _ ‹_›) ?_;rintro _ w42 ⟨rfl,hx42⟩;have hB1:=hB1.u (hx41.s0 hx42);have hCS41:=hCS41.s0 hx42;refine ⟨hCS41,?_⟩;refine H8 (G3 J9 J J ‹_› J J J J J) ?_;intro w43 hs43 hx43 hB1;have hB2:=hB2.q ((hx41.j hx42).j hx43) (by simp<;>omega);have hCS41:=hCS41.step hx43 (by simp;done);refine ⟨hCS41,?_⟩;refine Pe G5 J ‹_› J J ?_;intro w44 hs44 hx44 hB2;have hC:=hC.step (((hx41.j hx42).j hx43).j hx44) (by simp<;>omega);have hB1:=hB1.q hx44 (by simp;omega);refine Qc (A6 (C7 J J (A5 J0 ‹_› J J) J (A5 F8 ‹_› J J) ?_));exact ⟨hC,by rw [hE];rfl⟩
        ·try simp at m0
         refine Qu J (Z 1 J (Qu J (Zc 3 J (A4 J (fun n0=>?_) (fun n0=>?_)))))
         ·try simp at n0
          rw [Ek1 (by omega)] at hE;refine Qa (C8 (S:=[b1]) 6 [(0,0),(0,1),(0,2),(0,4),(1,3),(1,5),(2,6)] mo (by kernel_rfl) ?_);intro w45 hx45 hh45;have hB6:=hB6.u hx45;have hB9:=hB9.u hx45;have hCS45:=A8 ([b1]) w45;refine Z 3 J (D6 J (C1 F8 J ‹_› (by simp;omega) J J) ?_);refine C5 J (C3 Ar9 J) (L7 digs _ _ _ J (by decide) _ ‹_›) ?_;rintro _ w46 ⟨rfl,hx46⟩;have hB1:=hB1.u (hx45.s0 hx46);have hCS45:=hCS45.s0 hx46;refine ⟨hCS45,?_⟩;refine H8 (G3 J9 J J ‹_› J J J J J) ?_;intro w47 hs47 hx47 hB1;have hB2:=hB2.q ((hx45.j hx46).j hx47) (by simp<;>omega);have hCS45:=hCS45.step hx47 (by simp;done);refine ⟨hCS45,?_⟩;refine Pe G5 J ‹_› J J ?_;intro w48 hs48 hx48 hB2;have hC:=hC.step (((hx45.j hx46).j hx47).j hx48) (by simp<;>omega);have hB1:=hB1.q hx48 (by simp;omega);refine Qc (A6 (C7 J J (A5 J0 ‹_› J J) J (A5 F8 ‹_› J J) ?_));exact ⟨hC,by rw [hE];rfl⟩
         ·try simp at n0
          rw [Ek0 (by omega)] at hE
          refine Qd (Z 3 J (C0 (d:=102) J (fun m1=>?_) (fun m1=>?_)))
          ·try simp at m1
           rw [Ek1 (by omega)] at hE;refine Qk J (Qk J (Zc 2 J (E3 J (Qa (C8 (S:=[b1]) 6 [(0,0),(0,1),(0,2),(0,4),(1,3),(1,5),(2,6)] mo (by kernel_rfl) ?_)))));intro w49 hx49 hh49;have hB7:=hB7.u hx49;have hB9:=hB9.u hx49;have hCS49:=A8 ([b1]) w49;refine Z 3 J (D6 J (C1 F8 J ‹_› (by simp;omega) J J) ?_);refine C5 J (C3 Ar9 J) (L7 wrds _ _ _ J (by decide) _ ‹_›) ?_;rintro _ w50 ⟨rfl,hx50⟩;have hB1:=hB1.u (hx49.s0 hx50);have hCS49:=hCS49.s0 hx50;refine ⟨hCS49,?_⟩;refine H8 (G3 J9 J J ‹_› J J J J J) ?_;intro w51 hs51 hx51 hB1;have hB2:=hB2.q ((hx49.j hx50).j hx51) (by simp<;>omega);have hCS49:=hCS49.step hx51 (by simp;done);refine ⟨hCS49,?_⟩;refine Pe G5 J ‹_› J J ?_;intro w52 hs52 hx52 hB2;have hC:=hC.step (((hx49.j hx50).j hx51).j hx52) (by simp<;>omega);have hB1:=hB1.q hx52 (by simp;omega);refine Qc (A6 (C7 J J (A5 J0 ‹_› J J) J (A5 F8 ‹_› J J) ?_));exact ⟨hC,by rw [hE];rfl⟩
          ·try simp at m1
           refine Qu J (Z 1 J (Qu J (Zc 3 J (A4 J (fun n1=>?_) (fun n1=>?_)))))
           ·try simp at n1
            rw [Ek1 (by omega)] at hE;refine Qa (C8 (S:=[b1]) 6 [(0,0),(0,1),(0,2),(0,4),(1,3),(1,5),(2,6)] mo (by kernel_rfl) ?_);intro w53 hx53 hh53;have hB7:=hB7.u hx53;have hB9:=hB9.u hx53;have hCS53:=A8 ([b1]) w53;refine Z 3 J (D6 J (C1 F8 J ‹_› (by simp;omega) J J) ?_);refine C5 J (C3 Ar9 J) (L7 wrds _ _ _ J (by decide) _ ‹_›) ?_;rintro _ w54 ⟨rfl,hx54⟩;have hB1:=hB1.u (hx53.s0 hx54);have hCS53:=hCS53.s0 hx54;refine ⟨hCS53,?_⟩;refine H8 (G3 J9 J J ‹_› J J J J J) ?_;intro w55 hs55 hx55 hB1;have hB2:=hB2.q ((hx53.j hx54).j hx55) (by simp<;>omega);have hCS53:=hCS53.step hx55 (by simp;done);refine ⟨hCS53,?_⟩;refine Pe G5 J ‹_› J J ?_;intro w56 hs56 hx56 hB2;have hC:=hC.step (((hx53.j hx54).j hx55).j hx56) (by simp<;>omega);have hB1:=hB1.q hx56 (by simp;omega);refine Qc (A6 (C7 J J (A5 J0 ‹_› J J) J (A5 F8 ‹_› J J) ?_));exact ⟨hC,by rw [hE];rfl⟩
           ·try simp at n1
            rw [Ek0 (by omega)] at hE
            refine Qd (Z 3 J (C0 (d:=114) J (fun m2=>?_) (fun m2=>?_)))
            ·try simp at m2
             rw [Ek1 (by omega)] at hE;refine Qk J (Qk J (Zc 2 J (E3 J (Qa (C8 (S:=[b1]) 6 [(0,0),(0,1),(0,2),(0,4),(1,3),(1,5),(2,6)] mo (by kernel_rfl) ?_)))));intro w57 hx57 hh57;have hB8:=hB8.u hx57;have hB9:=hB9.u hx57;have hCS57:=A8 ([b1]) w57;refine Z 3 J (D6 J (C1 F8 J ‹_› (by simp;omega) J J) ?_);refine C5 J (C3 Ar9 J) (L7 spcs _ _ _ J (by decide) _ ‹_›) ?_;rintro _ w58 ⟨rfl,hx58⟩;have hB1:=hB1.u (hx57.s0 hx58);have hCS57:=hCS57.s0 hx58;refine ⟨hCS57,?_⟩;refine H8 (G3 J9 J J ‹_› J J J J J) ?_;intro w59 hs59 hx59 hB1;have hB2:=hB2.q ((hx57.j hx58).j hx59) (by simp<;>omega);have hCS57:=hCS57.step hx59 (by simp;done);refine ⟨hCS57,?_⟩;refine Pe G5 J ‹_› J J ?_;intro w60 hs60 hx60 hB2;have hC:=hC.step (((hx57.j hx58).j hx59).j hx60) (by simp<;>omega);have hB1:=hB1.q hx60 (by simp;omega);refine Qc (A6 (C7 J J (A5 J0 ‹_› J J) J (A5 F8 ‹_› J J) ?_));exact ⟨hC,by rw [hE];rfl⟩
            ·try simp at m2
             refine Qu J (Z 1 J (Qu J (Zc 3 J (A4 J (fun n2=>?_) (fun n2=>?_)))))
             ·try simp at n2
              rw [Ek1 (by omega)] at hE;refine Qa (C8 (S:=[b1]) 6 [(0,0),(0,1),(0,2),(0,4),(1,3),(1,5),(2,6)] mo (by kernel_rfl) ?_);intro w61 hx61 hh61;have hB8:=hB8.u hx61;have hB9:=hB9.u hx61;have hCS61:=A8 ([b1]) w61;refine Z 3 J (D6 J (C1 F8 J ‹_› (by simp;omega) J J) ?_);refine C5 J (C3 Ar9 J) (L7 spcs _ _ _ J (by decide) _ ‹_›) ?_;rintro _ w62 ⟨rfl,hx62⟩;have hB1:=hB1.u (hx61.s0 hx62);have hCS61:=hCS61.s0 hx62;refine ⟨hCS61,?_⟩;refine H8 (G3 J9 J J ‹_› J J J J J) ?_;intro w63 hs63 hx63 hB1;have hB2:=hB2.q ((hx61.j hx62).j hx63) (by simp<;>omega);have hCS61:=hCS61.step hx63 (by simp;done);refine ⟨hCS61,?_⟩;refine Pe G5 J ‹_› J J ?_;intro w64 hs64 hx64 hB2;have hC:=hC.step (((hx61.j hx62).j hx63).j hx64) (by simp<;>omega);have hB1:=hB1.q hx64 (by simp;omega);refine Qc (A6 (C7 J J (A5 J0 ‹_› J J) J (A5 F8 ‹_› J J) ?_));exact ⟨hC,by rw [hE];rfl⟩
             ·try simp at n2
              rw [Ek0 (by omega)] at hE
              refine Qd (Zc 3 J (A4 J (fun x1=>?_) (fun x1=>?_)))
              ·try simp at x1
               rw [Ek1 (by omega)] at hE
               refine Qd (Zc 1 J (Qa (Qd (Z 1 J (Ad J J (by omega) (Zc 1 J (B2 (D8 (σ:=Nat × Nat) (fun (j,n)=>[(0,.string s),(1,.int .i64 at_),(4,.pointer (some ⟨b1,0,none⟩)),(5,.pointer (some ⟨b2,0,none⟩)),(12,.int .i64 n),(13,.int .i64 ((at_+2+j:Nat):Int))]) (fun (j,n) wr=>Chg [] w wr∧Blk wr b1 (C4 0) 70∧Blk wr b2 [.int .i64 0,.int .i64 0] 232∧Au1 (B6 s) (at_+2+j) (2 - j) n=Au1 (B6 s) (at_+2) 2 0∧((j=0∧n=0)∨(j=1∧n≤15)∨(j=2∧n≤255))) (fun (j,n) wr=>2 - j) (0,0) ⟨rfl,rfl,rfl,rfl,rfl,(G2 J (by omega)),trivial⟩ ?_ ?_))))))))
               ·exact ⟨hC,by rw [C6];exact hB1,hB2,rfl,.inl ⟨rfl,rfl⟩⟩
               rintro ⟨j,n⟩ w9 ⟨hC,hB1,hB2,hM,hj⟩
               refine Qa (Qd (Z 2 J (Ad J J (by omega) (Zc 1 J (A4 J (fun y1=>?_) (fun y1=>?_))))))
               ·try simp at y1
                have hmn:((min (at_+2+j) (B6 s).length:Nat):Int)=min ((at_+2+j:Nat):Int) (s.size:Int):=by omega
                rw [show 2 - j=(1 - j)+1 by omega,Au1] at hM
                refine A7 (Qa (B2 (Qa (Qd (Z 2 J (C9 J (E9 Tryz.underlying9 J) (Z 2 J (C0 (d:=138) J (fun y2=>?_) (fun y2=>?_)))))))))
                ·try simp at y2
                 rw [Ek1 (by omega)] at hM;refine Qk J (Qk J (Qk J (Qk J (Qk J (Zc 1 J (E3 J (Qd (C9 J (D7 N0 Av2 J (by rfl)) ?_))))))));refine Z 2 J (C9 J (E9 Tryz.underlying9 J) (C9 J (U9 J J) (C9 J (B1 J3 M4 J (by rfl)) ?_)));refine Pe J9 J ‹_› J J ?_;intro w65 hs65 hx65 hB1;have hB2:=hB2.q hx65 (by simp;omega);refine Pe G5 J ‹_› J J ?_;intro w66 hs66 hx66 hB2;have hC:=hC.step (hx65.j hx66) (by simp<;>omega);have hB1:=hB1.q hx66 (by simp;omega);refine Qc (A6 (C7 J J (A5 J0 ‹_› J J) J (A5 F8 ‹_› J J) ?_));exact ⟨hC,by rw [hE,← hM];simp only [];rw [C6,hmn];rfl⟩
                ·try simp at y2
                 have hin2:at_+2+j<s.size:=by omega
                 obtain ⟨u9,hu3,hu4⟩:=I5 s (at_+2+j) hin2;have hb2:=hlt _ (G9 (B6 s) 0 (at_+2+j) (by omega));have hxr:=Bv1 _ hb2;rw [Ek0 (by omega)] at hM;refine Qu J (Z 1 J (Qu J (Z 1 J (Qu J (C9 J (Does.to (E7 Tryz.underlying9 J J (by omega) (by exact hu3)) (J4 (show ((u9.toNat:Nat):Int)=(((B6 s).getD (at_+2+j) 0:Nat):Int) by rw [hu4]))) ?_)))));refine Qu J (Ca fb197 J (Dc1 ((B6 s).getD (at_+2+j) 0) hb2 _) ?_);rintro _ w67 ⟨rfl,hx67⟩;have hC:=hC.s0 hx67;have hB1:=hB1.u hx67;have hB2:=hB2.u hx67
                 refine Qu J (Zc 2 J (A4 J (fun y3=>?_) (fun y3=>?_)))
                 ·rw [cmpB_lss] at y3;rw [Ek1 y3] at hM;refine Qd (C9 J (D7 N0 Av2 J (by rfl)) ?_);refine Z 2 J (C9 J (E9 Tryz.underlying9 J) (C9 J (U9 J J) (C9 J (B1 J3 M4 J (by rfl)) ?_)));refine Pe J9 J ‹_› J J ?_;intro w68 hs68 hx68 hB1;have hB2:=hB2.q hx68 (by simp;omega);refine Pe G5 J ‹_› J J ?_;intro w69 hs69 hx69 hB2;have hC:=hC.step (hx68.j hx69) (by simp<;>omega);have hB1:=hB1.q hx69 (by simp;omega);refine Qc (A6 (C7 J J (A5 J0 ‹_› J J) J (A5 F8 ‹_› J J) ?_));exact ⟨hC,by rw [hE,← hM];simp only [];rw [C6,hmn];rfl⟩
                 ·rw [cmpB_lssF] at y3;rw [Ek0 (by omega)] at hM;refine A7 (Qb (Z 1 J (C9 J (Ap6 J J (by omega)) (Z 2 J (C9 J (Does.to (E7 Tryz.underlying9 J J (by omega) (by exact hu3)) (J4 (show ((u9.toNat:Nat):Int)=(((B6 s).getD (at_+2+j) 0:Nat):Int) by rw [hu4]))) ?_)))));refine Ca fb197 J (Dc1 ((B6 s).getD (at_+2+j) 0) hb2 _) ?_;rintro _ w70 ⟨rfl,hx70⟩;have hC:=hC.s0 hx70;have hB1:=hB1.u hx70;have hB2:=hB2.u hx70;refine Ad J J (by omega) (Zc 1 J (Qb (Z 1 J (Ad J J (by omega) (Zc 1 J ⟨(j+1,16*n+(Ak3 ((B6 s).getD (at_+2+j) 0)).toNat),⟨rfl,rfl,rfl,rfl,(G2 J (by omega)),(G2 J (by omega)),trivial⟩,?_,?_⟩)))));refine ⟨hC,hB1,hB2,?_,by omega⟩;rw [show 2 - (j+1)=1 - j by omega,show at_+2+(j+1)=at_+2+j+1 by omega];exact hM;show 2 - (j+1)<2 - j;omega
               ·try simp at y1
                have hj2:j=2:=by omega
                subst hj2;rw [show 2 - 2=0 from rfl,Au1] at hM;rw [← hM] at hE;refine Xb (Qd (Z 2 J (C9 J (D7 Q5 X5 J (by rfl)) ?_)));refine B5 J (B7 At0 Tryz.underlying268 Q5 J J J (by rfl)) ?_;intro b71 w71 hb71 hs71 hx71 hB71;refine Ca Ar9 J (L7 [((n:Int),(n:Int))] false _ _ J (by simp) _ ‹_›) ?_;rintro _ w72 ⟨rfl,hx72⟩;have hB1:=hB1.u (hx71.s0 hx72);refine Z 1 J (Ad J J (by omega) (C9 J (B1 J3 M4 J (by rfl)) ?_));refine Pe J9 J ‹_› J J ?_;intro w73 hs73 hx73 hB1;have hB2:=hB2.q ((hx71.j hx72).j hx73) (by simp<;>omega);refine Pe G5 J ‹_› J J ?_;intro w74 hs74 hx74 hB2;have hC:=hC.step (((hx71.j hx72).j hx73).j hx74) (by simp<;>omega);have hB1:=hB1.q hx74 (by simp;omega);refine Qc (A6 (C7 J J (A5 J0 ‹_› J J) J (A5 F8 ‹_› J J) ?_));exact ⟨hC,by rw [hE];rfl⟩
              ·try simp at x1
               rw [Ek0 (by omega)] at hE;refine Qd (Z 1 J (Ca fb171 J (rin_c unT (by decide) c hb _) ?_));rintro _ w75 ⟨rfl,hx75⟩;have hC:=hC.s0 hx75;have hB1:=hB1.u hx75;have hB2:=hB2.u hx75
               refine Zc 1 J (A4 J (fun z1=>?_) (fun z1=>?_))
               ·rw [El7] at z1;rw [Ek1 z1] at hE;refine Qd (C9 J (D7 N0 Av2 J (by rfl)) ?_);refine Z 1 J (C9 J (B1 J3 M4 J (by rfl)) ?_);refine Pe J9 J ‹_› J J ?_;intro w76 hs76 hx76 hB1;have hB2:=hB2.q hx76 (by simp;omega);refine Pe G5 J ‹_› J J ?_;intro w77 hs77 hx77 hB2;have hC:=hC.step (hx76.j hx77) (by simp<;>omega);have hB1:=hB1.q hx77 (by simp;omega);refine Qc (A6 (C7 J J (A5 J0 ‹_› J J) J (A5 F8 ‹_› J J) ?_));exact ⟨hC,by rw [hE,C6];rfl⟩
               ·rw [decide_eq_false_iff_not] at z1;rw [Ek0 z1] at hE;refine A7 (Qd (C9 J (D7 N0 Av2 J (by rfl)) ?_));refine Z 1 J (Ad J J (by omega) (C9 J (B1 J3 M4 J (by rfl)) ?_));refine Pe J9 J ‹_› J J ?_;intro w78 hs78 hx78 hB1;have hB2:=hB2.q hx78 (by simp;omega);refine Pe G5 J ‹_› J J ?_;intro w79 hs79 hx79 hB2;have hC:=hC.step (hx78.j hx79) (by simp<;>omega);have hB1:=hB1.q hx79 (by simp;omega);refine Qc (A6 (C7 J J (A5 J0 ‹_› J J) J (A5 F8 ‹_› J J) ?_));exact ⟨hC,by rw [hE,C6];rfl⟩
def Ck7 (s:Nat) (x:Int × Int) (b:Nat):Int × Int:=if s.testBit b then (x.1+1,(b:Int)) else x
def Ax6 (s k:Nat):Int × Int:=(List.range k).foldl (Ck7 s) (0,-1)
def Aa0 (s:Nat):Int:=if (Ax6 s 256).1=1 then (Ax6 s 256).2 else -1
theorem Ab5 (s k:Nat):Ax6 s (k+1)=Ck7 s (Ax6 s k) k:=by unfold Ax6;rw [Ep7,En9];rfl
theorem At6 (s:Nat):∀ k,0≤(Ax6 s k).1∧(Ax6 s k).1≤k∧ -1≤(Ax6 s k).2∧(Ax6 s k).2≤(k:Int) - 1
 |0=>by show (0:Int)≤0∧(0:Int)≤((0:Nat):Int)∧(-1:Int)≤ -1∧(-1:Int)≤((0:Nat):Int) - 1;omega
 |k+1=>by
  have:=At6 s k;rw [Ab5];unfold Ck7
  split
  ·show 0≤(Ax6 s k).1+1∧(Ax6 s k).1+1≤((k+1:Nat):Int)∧(-1:Int)≤(k:Int)∧(k:Int)≤((k+1:Nat):Int) - 1;omega
  ·omega
theorem Bk0 (s:Nat): -1≤Aa0 s∧Aa0 s≤255:=by
 have:=At6 s 256;unfold Aa0
 split<;>omega
theorem Dv6 (s:Nat) (w:World):Calls P 199 #[.agg (C4 s).toArray] w (Ret fun u w'=>u= .int .i64 (Aa0 s)∧Chg [] w w'):=by
 have hC:=A8 [] w;refine D4 Tryz.func199 J J (Qd (B5 J (E1 J J) ?_));intro b1 w1 hb1 hs1 hx1 hB1;have hC:=hC.s0 hx1
 refine Zc 1 J (Qd (Zc 2 J (Qa (Qd (Zc 1 J (B2 (D8 (σ:=Nat) (fun k=>[(1,.pointer (some ⟨b1,0,none⟩)),(3,.int .i64 (Ax6 s k).1),(4,.int .i64 (Ax6 s k).2),(5,.int .i64 k)]) (fun k wr=>Chg [] w wr∧Blk wr b1 (C4 s) 70∧k≤256) (fun k wr=>256 - k) 0 (sb J) ?_ ?_)))))))
 ·exact ⟨hC,hB1,by omega⟩
 rintro k w9 ⟨hC,hB1,hk⟩;have hfr:=At6 s k
 refine Qa (Qd (Zc 2 J (A4 J (fun h1=>?_) (fun h1=>?_))))
 ·try simp at h1
  have hk2:k<256:=by omega
  refine A7 (Qa (B2 (Qd (La J0 J ‹_› J J ?_))));refine Z 1 J (Ca fb52 J (Dw1 s k hk2 _) ?_);rintro _ w2 ⟨rfl,hx2⟩;have hC:=hC.s0 hx2;have hB1:=hB1.u hx2
  refine Qc (A4 J (fun h2=>?_) (fun h2=>?_))
  ·refine Qd (Z 1 J (Ad J J (by omega) (Zc 1 J (Qb (Zc 2 J (Qb (Z 1 J (Ad J J (by omega) (Zc 1 J ⟨k+1,⟨rfl,(G2 J (by rw [Ab5];unfold Ck7;rw [Ek1 h2])),(G2 J (by rw [Ab5];unfold Ck7;rw [Ek1 h2])),rfl,trivial⟩,?_,?_⟩)))))))));exact ⟨hC,hB1,by omega⟩;omega
  ·refine A7 (Qb (Z 1 J (Ad J J (by omega) (Zc 1 J ⟨k+1,⟨rfl,(G2 J (by rw [Ab5];unfold Ck7;rw [Ek0 (by rw [h2];simp)])),(G2 J (by rw [Ab5];unfold Ck7;rw [Ek0 (by rw [h2];simp)])),rfl,trivial⟩,?_,?_⟩))));exact ⟨hC,hB1,by omega⟩;omega
 ·try simp at h1
  have hkk:k=256:=by omega
  subst hkk
  refine Xb (Qa (Qd (Zc 2 J (A4 J (fun h3=>?_) (fun h3=>?_)))))
  ·try simp at h3
   exact Qd (Zc 1 J (A6 (B4 J J ⟨J4 (by unfold Aa0;rw [Ek0 h3]),hC⟩)))
  ·try simp at h3
   exact A7 (Qd (Zc 2 J (A6 (B4 J J ⟨J4 (by unfold Aa0;rw [Ek1 (by simpa using h3)]),hC⟩))))
def clsT:ByteArray:=⟨#[91,93,45,94]⟩
def V6 (L:List Nat) (at_:Nat):Nat × Int × Int:=
 if L.length≤at_∨L.getD at_ 0∈B6 clsT then (0,((min at_ L.length:Nat):Int),4)
 else if L.getD at_ 0=92 then Co2 L at_
 else (smS [((L.getD at_ 0:Nat),(L.getD at_ 0:Nat))] false,(at_:Int)+1,0)
theorem Dw0 (s:ByteArray) (hs:s.size≤1000) (at_:Nat) (hat:at_≤2000) (w:World):Calls P 198 #[.string s,.int .i64 (at_:Nat)] w (Ret (EscR (V6 (B6 s) at_) w)):=by
 have hC:=A8 [] w;have hsl:=E5 s;have hlt:=R5 s;have hmn:((min at_ (B6 s).length:Nat):Int)=min ((at_:Nat):Int) (s.size:Int):=by omega
 refine D4 Tryz.func198 J J (Qd (B5 J (B8 N0 J) ?_));intro b1 w1 hb1 hs1 hx1 hB1;refine B5 J (B8 J3 J) ?_;intro b2 w2 hb2 hs2 hx2 hB2;have hC:=hC.s0 (hx1.s0 hx2);have hB1:=hB1.u hx2
 refine Qc (Qa (Qd (Z 2 J (C9 J (E9 Tryz.underlying9 J) (Z 2 J (C0 (d:=10) J (fun h1=>?_) (fun h1=>?_)))))))
 ·try simp at h1
  refine Qk J (Qk J (Qk J (Qk J (Zc 1 J (E3 J (Qd (C9 J (D7 N0 Av2 J (by rfl)) ?_)))))));refine Z 2 J (C9 J (E9 Tryz.underlying9 J) (C9 J (U9 J J) (C9 J (B1 J3 M4 J (by rfl)) ?_)));refine Pe J9 J ‹_› J J ?_;intro w3 hs3 hx3 hB1;have hB2:=hB2.q hx3 (by simp;omega);refine Pe G5 J ‹_› J J ?_;intro w4 hs4 hx4 hB2;have hC:=hC.step (hx3.j hx4) (by simp<;>omega);have hB1:=hB1.q hx4 (by simp;omega);refine Qc (A6 (C7 J J (A5 J0 ‹_› J J) J (A5 F8 ‹_› J J) ?_));exact ⟨hC,by unfold V6;rw [Ek1 (.inl (by omega)),C6,hmn];rfl⟩
 ·try simp at h1
  have hin:at_<s.size:=by omega
  obtain ⟨u8,hu,hu2⟩:=I5 s at_ hin;have hb:=hlt _ (G9 (B6 s) 0 at_ (by omega));refine Qu J (Z 1 J (Qu J (Z 1 J (Qu J (C9 J (Does.to (E7 Tryz.underlying9 J J (by omega) (by exact hu)) (J4 (show ((u8.toNat:Nat):Int)=(((B6 s).getD at_ 0:Nat):Int) by rw [hu2]))) ?_)))));refine Qu J (Ca fb171 J (rin_c clsT (by decide) ((B6 s).getD at_ 0) hb _) ?_);rintro _ w5 ⟨rfl,hx5⟩;have hC:=hC.s0 hx5;have hB1:=hB1.u hx5;have hB2:=hB2.u hx5
  refine Zc 1 J (A4 J (fun h2=>?_) (fun h2=>?_))
  ·rw [El7] at h2;refine Qd (C9 J (D7 N0 Av2 J (by rfl)) ?_);refine Z 2 J (C9 J (E9 Tryz.underlying9 J) (C9 J (U9 J J) (C9 J (B1 J3 M4 J (by rfl)) ?_)));refine Pe J9 J ‹_› J J ?_;intro w6 hs6 hx6 hB1;have hB2:=hB2.q hx6 (by simp;omega);refine Pe G5 J ‹_› J J ?_;intro w7 hs7 hx7 hB2;have hC:=hC.step (hx6.j hx7) (by simp<;>omega);have hB1:=hB1.q hx7 (by simp;omega);refine Qc (A6 (C7 J J (A5 J0 ‹_› J J) J (A5 F8 ‹_› J J) ?_));exact ⟨hC,by unfold V6;rw [Ek1 (.inr h2),C6,hmn];rfl⟩
  ·rw [decide_eq_false_iff_not] at h2
   have hE:V6 (B6 s) at_=if (B6 s).getD at_ 0=92 then Co2 (B6 s) at_ else (smS [(((B6 s).getD at_ 0:Nat),((B6 s).getD at_ 0:Nat))] false,(at_:Int)+1,0):=by
    unfold V6;rw [Ek0 (fun h=>h.elim (by omega) h2)]
   refine A7 (Qa (Qd (Z 2 J (C9 J (Does.to (E7 Tryz.underlying9 J J (by omega) (by exact hu)) (J4 (show ((u8.toNat:Nat):Int)=(((B6 s).getD at_ 0:Nat):Int) by rw [hu2]))) ?_))))
   refine Zc 1 J (A4 J (fun h3=>?_) (fun h3=>?_))
   ·rw [cmpB_eql] at h3;rw [Ek1 (by omega)] at hE;refine Qd (Z 2 J (Ca fb168 J (resc_c s hs at_ hat _) ?_));rintro _ w8 ⟨hx8,rfl⟩;have hB1:=hB1.u hx8;refine Z 2 J (Pe J9 J ‹_› J J ?_);intro w9 hs9 hx9 hB1;have hB2:=hB2.q (hx8.j hx9) (by simp<;>omega);refine Pe G5 J ‹_› J J ?_;intro w10 hs10 hx10 hB2;have hC:=hC.step ((hx8.j hx9).j hx10) (by simp<;>omega);have hB1:=hB1.q hx10 (by simp;omega);refine Qc (A6 (C7 J J (A5 J0 ‹_› J J) J (A5 F8 ‹_› J J) ?_));exact ⟨hC,by rw [hE];rfl⟩
   ·rw [cmpB_eqlF] at h3;rw [Ek0 (by omega)] at hE;refine A7 (Qa (C8 (S:=[b1]) 15 [(0,0),(0,1),(0,2),(0,3),(0,4),(0,5),(0,6),(0,7),(0,8),(0,11),(0,12),(0,13),(1,9),(1,10),(1,14),(2,15)] mo (by kernel_rfl) ?_));intro w11 hx11 hh11;have hCS11:=A8 ([b1]) w11;refine Z 2 J (D6 J (Does.to (E7 Tryz.underlying9 J J (by omega) (by exact hu)) (J4 (show ((u8.toNat:Nat):Int)=(((B6 s).getD at_ 0:Nat):Int) by rw [hu2]))) ?_);refine D6 J (H4 kn5 Tryz.underlying3 J (by exact I4 (by omega))) ?_;refine Z 2 J (D6 J (Does.to (E7 Tryz.underlying9 J J (by omega) (by exact hu)) (J4 (show ((u8.toNat:Nat):Int)=(((B6 s).getD at_ 0:Nat):Int) by rw [hu2]))) ?_);refine D6 J (H4 kn5 Tryz.underlying3 J (by exact I4 (by omega))) ?_;refine D6 J (D7 Q5 X5 J (by rfl)) ?_;refine Z 1 J (Ad J J (by omega) (D6 J (B1 J3 M4 J (by rfl)) ?_));refine E2 J (B7 At0 Tryz.underlying268 Q5 J J J (by rfl)) ?_;intro b12 w12 hb12 hs12 hx12 hB12;have hCS11:=hCS11.s0 hx12;refine ⟨hCS11,?_⟩;refine C5 J (C3 Ar9 J) (L7 [(((B6 s).getD at_ 0:Nat),((B6 s).getD at_ 0:Nat))] false _ _ J (by simp) _ ‹_›) ?_;rintro _ w13 ⟨rfl,hx13⟩;have hB1:=hB1.u ((hx11.s0 hx12).s0 hx13);have hCS11:=hCS11.s0 hx13;refine ⟨hCS11,?_⟩;refine H8 (G3 J9 J J ‹_› J J J J J) ?_;intro w14 hs14 hx14 hB1;have hB2:=hB2.q (((hx11.j hx12).j hx13).j hx14) (by simp<;>omega);have hCS11:=hCS11.step hx14 (by simp;done);refine ⟨hCS11,?_⟩;refine Pe G5 J ‹_› J J ?_;intro w15 hs15 hx15 hB2;have hC:=hC.step ((((hx11.j hx12).j hx13).j hx14).j hx15) (by simp<;>omega);have hB1:=hB1.q hx15 (by simp;omega);refine Qc (A6 (C7 J J (A5 J0 ‹_› J J) J (A5 F8 ‹_› J J) ?_));exact ⟨hC,by rw [hE];rfl⟩
theorem Dx9 (L:List Nat) (hL:∀ b∈L,b<256):∀ (f:Nat) (n:Int) (i:Nat),0≤n∧n≤100000→0≤(Ca3 L f n i).1∧(Ca3 L f n i).1≤100000∧i≤(Ca3 L f n i).2∧(Ca3 L f n i).2≤max i L.length
 |0,n,i,h=>⟨h.1,h.2,El1 _,by show i≤max i L.length;omega⟩
 |f+1,n,i,h=>by
  rw [Ca3]
  by_cases hd:Ee8 L i
  ·rw [Ek1 hd];have h1:=hd.1;have h2:=hd.2.1;have:=Dx9 L hL f (min (10*n+Ak3 (L.getD i 0)) 100000) (i+1) (by omega);exact ⟨this.1,this.2.1,by omega,by omega⟩
  ·rw [Ek0 hd];exact ⟨h.1,h.2,El1 _,by show i≤max i L.length;omega⟩
theorem S8 (L:List Nat) (hL:∀ b∈L,b<256) (at_:Nat):0≤(I9 L at_).1∧(I9 L at_).1≤1000∧∃ i:Nat,(I9 L at_).2.1=(i:Int)∧at_≤i∧i≤max at_ L.length:=by
 have:=Dx9 L hL (L.length - at_) 0 at_ (by omega);unfold I9;simp only []
 split
 ·exact ⟨by show (0:Int)≤0;omega,by show (0:Int)≤1000;omega,_,rfl,this.2.2.1,this.2.2.2⟩
 ·split
  ·exact ⟨by show (0:Int)≤0;omega,by show (0:Int)≤1000;omega,at_,rfl,El1 _,by omega⟩
  ·exact ⟨this.1,by show (Ca3 L (L.length - at_) 0 at_).1≤1000;omega,_,rfl,this.2.2.1,this.2.2.2⟩
def L9 (L:List Nat) (m n:Int) (i:Nat):Int × Int × Int × Int:=if L.length≤i∨L.getD i 0≠125 then (0,0,(i:Int),4) else (m,n,(i:Int)+1,0)
def K0 (L:List Nat) (at_:Nat):Int × Int × Int × Int:=
 let a:=I9 L at_
 if a.2.2≠0 then (0,0,a.2) else
 let i:=a.2.1.toNat
 if i<L.length∧L.getD i 0=44 then
  if L.length≤i+1∨L.getD (i+1) 0≠125 then
   let k:=I9 L (i+1)
   if k.2.2≠0 then (0,0,k.2) else if k.1<a.1 then (0,0,(i:Int)+1,5) else L9 L a.1 k.1 k.2.1.toNat
  else L9 L a.1 (-1) (i+1)
 else L9 L a.1 a.1 i
theorem Dw2 (s:ByteArray) (hs:s.size≤1000) (at_:Nat) (hat:at_≤2000) (w:World):Calls P 172 #[.string s,.int .i64 (at_:Nat)] w (Ret fun u w'=>Chg [] w w'∧u= .tuple #[.int .i64 (K0 (B6 s) at_).1,.int .i64 (K0 (B6 s) at_).2.1,endV (K0 (B6 s) at_).2.2]):=by
 have hC:=A8 [] w;have hsl:=E5 s;have hlt:=R5 s;have hno:=S8 (B6 s) hlt at_;have hE:K0 (B6 s) at_=K0 (B6 s) at_:=rfl
 conv at hE=>rhs;unfold K0
 refine D4 Tryz.func172 J J (Qd (Z 2 J (B5 J (B8 J3 J) ?_)));intro b1 w1 hb1 hs1 hx1 hB1;have hC:=hC.s0 hx1;refine Qc (Qd (Z 2 J (Ca fb201 J (Bi7 s hs at_ hat _) ?_)));rintro _ w2 ⟨hx2,rfl⟩;have hz2:=hx2.size;have hC:=hC.s0 hx2;have hB1:=hB1.u hx2;generalize I9 (B6 s) at_=a at*;obtain ⟨m,pz,e⟩:=a;obtain ⟨hm0,hm1,i,hi,hi1,hi2⟩:=hno;simp only [] at hm0 hm1 hi hE;subst hi;refine Z 3 J (B5 J (B8 J3 J) ?_);intro b3 w3 hb3 hs3 hx3 hB3;have hC:=hC.s0 hx3;have hB1:=hB1.u hx3;refine Z 1 J (Pb G5 J J ‹_› J J J J (by simp only [List.take,List.drop,List.append,Ek7,Ek8];rfl) ?_);intro w4 hs4 hx4 hB3;have hC:=hC.step hx4 (by simp;omega);have hB1:=hB1.q hx4 (by simp;omega);refine Qc (Qa (Qd (Fa Ac7 J (Lb o3 J ‹_› (by rfl) ?_))))
 refine Zc 1 J (A4 J (fun h1=>?_) (fun h1=>?_))
 ·try simp at h1
  refine Qa (C8 (S:=[]) 3 [(0,0),(0,1),(0,2),(2,3)] mo (by kernel_rfl) ?_);intro w5 hx5 hh5;have hC:=hC.s0 hx5;have hB1:=hB1.u hx5;have hB3:=hB3.u hx5;refine D6 J (C1 F8 J ‹_› (by simp;done) (by simp only [List.take,List.drop,List.append,Ek7,Ek8];rfl) J) ?_;refine Z 2 J (Pb G5 J J ‹_› J J J J (by simp only [List.take,List.drop,List.append,Ek7,Ek8];rfl) ?_);intro w6 hs6 hx6 hB1;have hC:=hC.step hx6 (by simp;omega);refine Qc (A6 (F3 J J J J (A5 F8 ‹_› (by simp only [List.take,List.drop,List.append,Ek7,Ek8];rfl) J) ?_));exact ⟨hC,by rw [hE,Ek1 h1];rfl⟩
 ·try simp at h1
  have h1':e=0:=by simpa using h1
  subst h1';rw [Ek0 (by simp)] at hE;simp only [Ek9] at hE;refine A7 (Qd (Zc 2 J (Qa (Qd (Fa G4 J (Lb o3 J ‹_› (by rfl) ?_))))))
  refine Z 1 J (C9 J (E9 Tryz.underlying9 J) (Z 2 J (C0 (d:=28) J (fun h2=>?_) (fun h2=>?_))))
  ·try simp at h2
   have hin:i<s.size:=by omega
   obtain ⟨u8,hu,hu2⟩:=I5 s i hin;refine Qu J (Z 1 J (Qu J (Fa G4 J (Qu J (Lb o3 J ‹_› (by rfl) ?_)))));refine Qu J (C9 J (Does.to (E7 Tryz.underlying9 J J (by omega) (by exact hu)) (J4 (show ((u8.toNat:Nat):Int)=(((B6 s).getD i 0:Nat):Int) by rw [hu2]))) ?_)
   refine Qu J (Zc 2 J (A4 J (fun h3=>?_) (fun h3=>?_)))
   ·rw [cmpB_eql] at h3;rw [Ek1 ⟨by omega,by omega⟩] at hE;refine Qd (Zc 1 J (Qd (Fa G4 J (Lb o3 J ‹_› (by rfl) ?_))));refine Ad J J (by omega) (Fa G4 J (Pb sz3 J J ‹_› J J J J (by simp only [List.take,List.drop,List.append,Ek7,Ek8];rfl) ?_));intro w7 hs7 hx7 hB3;have hC:=hC.step hx7 (by simp;omega);have hB1:=hB1.q hx7 (by simp;omega);refine Qc (Qd (Fa G4 J (Lb o3 J ‹_› (by rfl) ?_)))
    refine Z 1 J (C9 J (E9 Tryz.underlying9 J) (Z 2 J (C0 (d:=44) J (fun h4=>?_) (fun h4=>?_))))
    ·try simp at h4
     rw [Ek1 (.inl (by omega))] at hE;have hno2:=S8 (B6 s) hlt (i+1);refine Qk J (Qk J (Qk J (Qk J (Qk J (Zc 1 J (E3 J (Qd (Z 1 J (Fa G4 J (Lb o3 J ‹_› (by rfl) ?_))))))))));refine Ca fb201 J (Bi7 s hs (i+1) (by omega) _) ?_;rintro _ w8 ⟨hx8,rfl⟩;have hz8:=hx8.size;have hC:=hC.s0 hx8;have hB1:=hB1.u hx8;have hB3:=hB3.u hx8;generalize I9 (B6 s) (i+1)=k at*;obtain ⟨kn,kz,ke⟩:=k;obtain ⟨hk0,hk1,j,hj,hj1,hj2⟩:=hno2;simp only [] at hk0 hk1 hj hE;subst hj;refine Z 3 J (B5 J (B8 J3 J) ?_);intro b9 w9 hb9 hs9 hx9 hB9;have hC:=hC.s0 hx9;have hB1:=hB1.u hx9;have hB3:=hB3.u hx9;refine Z 1 J (Pb G5 J J ‹_› J J J J (by simp only [List.take,List.drop,List.append,Ek7,Ek8];rfl) ?_);intro w10 hs10 hx10 hB9;have hC:=hC.step hx10 (by simp;omega);have hB1:=hB1.q hx10 (by simp;omega);have hB3:=hB3.q hx10 (by simp;omega);refine Qc (Qa (Qd (Fa Ac7 J (Lb o3 J ‹_› (by rfl) ?_))))
     refine Zc 1 J (A4 J (fun h6=>?_) (fun h6=>?_))
     ·try simp at h6
      refine Qa (C8 (S:=[]) 3 [(0,0),(0,1),(0,2),(2,3)] mo (by kernel_rfl) ?_);intro w11 hx11 hh11;have hC:=hC.s0 hx11;have hB1:=hB1.u hx11;have hB9:=hB9.u hx11;refine D6 J (C1 F8 J ‹_› (by simp;done) (by simp only [List.take,List.drop,List.append,Ek7,Ek8];rfl) J) ?_;refine Z 2 J (Pb G5 J J ‹_› J J J J (by simp only [List.take,List.drop,List.append,Ek7,Ek8];rfl) ?_);intro w12 hs12 hx12 hB1;have hC:=hC.step hx12 (by simp;omega);refine Qc (A6 (F3 J J J J (A5 F8 ‹_› (by simp only [List.take,List.drop,List.append,Ek7,Ek8];rfl) J) ?_));exact ⟨hC,by rw [hE,Ek1 h6];rfl⟩
     ·try simp at h6
      have h6':ke=0:=by simpa using h6
      subst h6';rw [Ek0 (by simp)] at hE
      refine A7 (Qa (Qd (Zc 3 J (A4 J (fun h7=>?_) (fun h7=>?_)))))
      ·try simp at h7
       refine Qa (C8 (S:=[]) 5 [(0,0),(0,1),(0,2),(0,3),(0,4),(2,5)] mo (by kernel_rfl) ?_);intro w13 hx13 hh13;have hC:=hC.s0 hx13;have hB1:=hB1.u hx13;have hB3:=hB3.u hx13;refine Fa G4 J (D6 J (B3 o3 J ‹_› (by simp;done) (by rfl)) ?_);refine D6 J (B1 J3 M4 J (by rfl)) ?_;refine Z 2 J (Pb G5 J J ‹_› J J J J (by simp only [List.take,List.drop,List.append,Ek7,Ek8];rfl) ?_);intro w14 hs14 hx14 hB1;have hC:=hC.step hx14 (by simp;omega);refine Qc (A6 (F3 J J J J (A5 F8 ‹_› (by simp only [List.take,List.drop,List.append,Ek7,Ek8];rfl) J) ?_));exact ⟨hC,by rw [hE,Ek1 h7];rfl⟩
      ·try simp at h7
       rw [Ek0 (by omega)] at hE;simp only [Ek9] at hE;refine A7 (Qd (Zc 2 J (Qb (La F8 J ‹_› (by simp only [List.take,List.drop,List.append,Ek7,Ek8];rfl) J ?_))));refine Pb G5 J J ‹_› J J J J (by simp only [List.take,List.drop,List.append,Ek7,Ek8];rfl) ?_;intro w15 hs15 hx15 hB3;have hC:=hC.step hx15 (by simp;omega);have hB1:=hB1.q hx15 (by simp;omega);refine Qc (Qa (Qd (Fa G4 J (Lb o3 J ‹_› (by rfl) ?_))))
       refine Z 1 J (C9 J (E9 Tryz.underlying9 J) (Z 2 J (C0 (d:=75) J (fun t1=>?_) (fun t1=>?_))))
       ·try simp at t1
        refine Qk J (Qk J (Qk J (Qk J (Qk J (Zc 1 J (E3 J (Qa (C8 (S:=[]) 5 [(0,0),(0,1),(0,2),(0,3),(0,4),(2,5)] mo (by kernel_rfl) ?_))))))));intro w16 hx16 hh16;have hC:=hC.s0 hx16;have hB1:=hB1.u hx16;have hB3:=hB3.u hx16;refine Fa G4 J (D6 J (B3 o3 J ‹_› (by simp;done) (by rfl)) ?_);refine D6 J (B1 J3 M4 J (by rfl)) ?_;refine Z 2 J (Pb G5 J J ‹_› J J J J (by simp only [List.take,List.drop,List.append,Ek7,Ek8];rfl) ?_);intro w17 hs17 hx17 hB1;have hC:=hC.step hx17 (by simp;omega);refine Qc (A6 (F3 J J J J (A5 F8 ‹_› (by simp only [List.take,List.drop,List.append,Ek7,Ek8];rfl) J) ?_));exact ⟨hC,by rw [hE];unfold L9;rw [Ek1 (.inl (by omega))];rfl⟩
       ·try simp at t1
        have hin:j<s.size:=by omega
        obtain ⟨u8,hu,hu2⟩:=I5 s (j) hin;refine Qu J (Z 1 J (Qu J (Fa G4 J (Qu J (Lb o3 J ‹_› (by rfl) ?_)))));refine Qu J (C9 J (Does.to (E7 Tryz.underlying9 J J (by omega) (by exact hu)) (J4 (show ((u8.toNat:Nat):Int)=(((B6 s).getD (j) 0:Nat):Int) by rw [hu2]))) ?_)
        refine Qu J (Zc 2 J (A4 J (fun t2=>?_) (fun t2=>?_)))
        ·rw [cmpB_neq] at t2;refine Qa (C8 (S:=[]) 5 [(0,0),(0,1),(0,2),(0,3),(0,4),(2,5)] mo (by kernel_rfl) ?_);intro w18 hx18 hh18;have hC:=hC.s0 hx18;have hB1:=hB1.u hx18;have hB3:=hB3.u hx18;refine Fa G4 J (D6 J (B3 o3 J ‹_› (by simp;done) (by rfl)) ?_);refine D6 J (B1 J3 M4 J (by rfl)) ?_;refine Z 2 J (Pb G5 J J ‹_› J J J J (by simp only [List.take,List.drop,List.append,Ek7,Ek8];rfl) ?_);intro w19 hs19 hx19 hB1;have hC:=hC.step hx19 (by simp;omega);refine Qc (A6 (F3 J J J J (A5 F8 ‹_› (by simp only [List.take,List.drop,List.append,Ek7,Ek8];rfl) J) ?_));exact ⟨hC,by rw [hE];unfold L9;rw [Ek1 (.inr (by omega))];rfl⟩
        ·rw [cmpB_neqF] at t2;refine A7 (Qa (C8 (S:=[]) 8 [(0,0),(0,1),(0,2),(0,3),(0,4),(0,5),(0,6),(0,7),(2,8)] mo (by kernel_rfl) ?_));intro w20 hx20 hh20;have hC:=hC.s0 hx20;have hB1:=hB1.u hx20;have hB3:=hB3.u hx20;refine Z 2 J (Fa G4 J (D6 J (B3 o3 J ‹_› (by simp;done) (by rfl)) ?_));refine Ad J J (by omega) (D6 J (B1 J3 M4 J (by rfl)) ?_);refine Z 2 J (Pb G5 J J ‹_› J J J J (by simp only [List.take,List.drop,List.append,Ek7,Ek8];rfl) ?_);intro w21 hs21 hx21 hB1;have hC:=hC.step hx21 (by simp;omega);refine Qc (A6 (F3 J J J J (A5 F8 ‹_› (by simp only [List.take,List.drop,List.append,Ek7,Ek8];rfl) J) ?_));exact ⟨hC,by rw [hE];unfold L9;rw [Ek0 (by omega)];rfl⟩
    ·try simp at h4
     have hin3:i+1<s.size:=by omega
     obtain ⟨u9,hu3,hu4⟩:=I5 s (i+1) hin3;refine Qu J (Z 1 J (Qu J (Fa G4 J (Qu J (Lb o3 J ‹_› (by rfl) ?_)))));refine Qu J (C9 J (Does.to (E7 Tryz.underlying9 J J (by omega) (by exact hu3)) (J4 (show ((u9.toNat:Nat):Int)=(((B6 s).getD (i+1) 0:Nat):Int) by rw [hu4]))) ?_)
     refine Qu J (Zc 2 J (A4 J (fun h5=>?_) (fun h5=>?_)))
     ·rw [cmpB_neq] at h5;rw [Ek1 (.inr (by omega))] at hE;have hno2:=S8 (B6 s) hlt (i+1);refine Qd (Z 1 J (Fa G4 J (Lb o3 J ‹_› (by rfl) ?_)));refine Ca fb201 J (Bi7 s hs (i+1) (by omega) _) ?_;rintro _ w22 ⟨hx22,rfl⟩;have hz22:=hx22.size;have hC:=hC.s0 hx22;have hB1:=hB1.u hx22;have hB3:=hB3.u hx22;generalize I9 (B6 s) (i+1)=k at*;obtain ⟨kn,kz,ke⟩:=k;obtain ⟨hk0,hk1,j,hj,hj1,hj2⟩:=hno2;simp only [] at hk0 hk1 hj hE;subst hj;refine Z 3 J (B5 J (B8 J3 J) ?_);intro b23 w23 hb23 hs23 hx23 hB23;have hC:=hC.s0 hx23;have hB1:=hB1.u hx23;have hB3:=hB3.u hx23;refine Z 1 J (Pb G5 J J ‹_› J J J J (by simp only [List.take,List.drop,List.append,Ek7,Ek8];rfl) ?_);intro w24 hs24 hx24 hB23;have hC:=hC.step hx24 (by simp;omega);have hB1:=hB1.q hx24 (by simp;omega);have hB3:=hB3.q hx24 (by simp;omega);refine Qc (Qa (Qd (Fa Ac7 J (Lb o3 J ‹_› (by rfl) ?_))))
      refine Zc 1 J (A4 J (fun h6=>?_) (fun h6=>?_))
      ·try simp at h6
       refine Qa (C8 (S:=[]) 3 [(0,0),(0,1),(0,2),(2,3)] mo (by kernel_rfl) ?_);intro w25 hx25 hh25;have hC:=hC.s0 hx25;have hB1:=hB1.u hx25;have hB23:=hB23.u hx25;refine D6 J (C1 F8 J ‹_› (by simp;done) (by simp only [List.take,List.drop,List.append,Ek7,Ek8];rfl) J) ?_;refine Z 2 J (Pb G5 J J ‹_› J J J J (by simp only [List.take,List.drop,List.append,Ek7,Ek8];rfl) ?_);intro w26 hs26 hx26 hB1;have hC:=hC.step hx26 (by simp;omega);refine Qc (A6 (F3 J J J J (A5 F8 ‹_› (by simp only [List.take,List.drop,List.append,Ek7,Ek8];rfl) J) ?_));exact ⟨hC,by rw [hE,Ek1 h6];rfl⟩
      ·try simp at h6
       have h6':ke=0:=by simpa using h6
       subst h6';rw [Ek0 (by simp)] at hE
       refine A7 (Qa (Qd (Zc 3 J (A4 J (fun h7=>?_) (fun h7=>?_)))))
       ·try simp at h7
        refine Qa (C8 (S:=[]) 5 [(0,0),(0,1),(0,2),(0,3),(0,4),(2,5)] mo (by kernel_rfl) ?_);intro w27 hx27 hh27;have hC:=hC.s0 hx27;have hB1:=hB1.u hx27;have hB3:=hB3.u hx27;refine Fa G4 J (D6 J (B3 o3 J ‹_› (by simp;done) (by rfl)) ?_);refine D6 J (B1 J3 M4 J (by rfl)) ?_;refine Z 2 J (Pb G5 J J ‹_› J J J J (by simp only [List.take,List.drop,List.append,Ek7,Ek8];rfl) ?_);intro w28 hs28 hx28 hB1;have hC:=hC.step hx28 (by simp;omega);refine Qc (A6 (F3 J J J J (A5 F8 ‹_› (by simp only [List.take,List.drop,List.append,Ek7,Ek8];rfl) J) ?_));exact ⟨hC,by rw [hE,Ek1 h7];rfl⟩
       ·try simp at h7
        rw [Ek0 (by omega)] at hE;simp only [Ek9] at hE;refine A7 (Qd (Zc 2 J (Qb (La F8 J ‹_› (by simp only [List.take,List.drop,List.append,Ek7,Ek8];rfl) J ?_))));refine Pb G5 J J ‹_› J J J J (by simp only [List.take,List.drop,List.append,Ek7,Ek8];rfl) ?_;intro w29 hs29 hx29 hB3;have hC:=hC.step hx29 (by simp;omega);have hB1:=hB1.q hx29 (by simp;omega);refine Qc (Qa (Qd (Fa G4 J (Lb o3 J ‹_› (by rfl) ?_))))
        refine Z 1 J (C9 J (E9 Tryz.underlying9 J) (Z 2 J (C0 (d:=75) J (fun t1=>?_) (fun t1=>?_))))
        ·try simp at t1
         refine Qk J (Qk J (Qk J (Qk J (Qk J (Zc 1 J (E3 J (Qa (C8 (S:=[]) 5 [(0,0),(0,1),(0,2),(0,3),(0,4),(2,5)] mo (by kernel_rfl) ?_))))))));intro w30 hx30 hh30;have hC:=hC.s0 hx30;have hB1:=hB1.u hx30;have hB3:=hB3.u hx30;refine Fa G4 J (D6 J (B3 o3 J ‹_› (by simp;done) (by rfl)) ?_);refine D6 J (B1 J3 M4 J (by rfl)) ?_;refine Z 2 J (Pb G5 J J ‹_› J J J J (by simp only [List.take,List.drop,List.append,Ek7,Ek8];rfl) ?_);intro w31 hs31 hx31 hB1;have hC:=hC.step hx31 (by simp;omega);refine Qc (A6 (F3 J J J J (A5 F8 ‹_› (by simp only [List.take,List.drop,List.append,Ek7,Ek8];rfl) J) ?_));exact ⟨hC,by rw [hE];unfold L9;rw [Ek1 (.inl (by omega))];rfl⟩
        ·try simp at t1
         have hin:j<s.size:=by omega
         obtain ⟨u8,hu,hu2⟩:=I5 s (j) hin;refine Qu J (Z 1 J (Qu J (Fa G4 J (Qu J (Lb o3 J ‹_› (by rfl) ?_)))));refine Qu J (C9 J (Does.to (E7 Tryz.underlying9 J J (by omega) (by exact hu)) (J4 (show ((u8.toNat:Nat):Int)=(((B6 s).getD (j) 0:Nat):Int) by rw [hu2]))) ?_)
         refine Qu J (Zc 2 J (A4 J (fun t2=>?_) (fun t2=>?_)))
         ·rw [cmpB_neq] at t2;refine Qa (C8 (S:=[]) 5 [(0,0),(0,1),(0,2),(0,3),(0,4),(2,5)] mo (by kernel_rfl) ?_);intro w32 hx32 hh32;have hC:=hC.s0 hx32;have hB1:=hB1.u hx32;have hB3:=hB3.u hx32;refine Fa G4 J (D6 J (B3 o3 J ‹_› (by simp;done) (by rfl)) ?_);refine D6 J (B1 J3 M4 J (by rfl)) ?_;refine Z 2 J (Pb G5 J J ‹_› J J J J (by simp only [List.take,List.drop,List.append,Ek7,Ek8];rfl) ?_);intro w33 hs33 hx33 hB1;have hC:=hC.step hx33 (by simp;omega);refine Qc (A6 (F3 J J J J (A5 F8 ‹_› (by simp only [List.take,List.drop,List.append,Ek7,Ek8];rfl) J) ?_));exact ⟨hC,by rw [hE];unfold L9;rw [Ek1 (.inr (by omega))];rfl⟩
         ·rw [cmpB_neqF] at t2;refine A7 (Qa (C8 (S:=[]) 8 [(0,0),(0,1),(0,2),(0,3),(0,4),(0,5),(0,6),(0,7),(2,8)] mo (by kernel_rfl) ?_));intro w34 hx34 hh34;have hC:=hC.s0 hx34;have hB1:=hB1.u hx34;have hB3:=hB3.u hx34;refine Z 2 J (Fa G4 J (D6 J (B3 o3 J ‹_› (by simp;done) (by rfl)) ?_));refine Ad J J (by omega) (D6 J (B1 J3 M4 J (by rfl)) ?_);refine Z 2 J (Pb G5 J J ‹_› J J J J (by simp only [List.take,List.drop,List.append,Ek7,Ek8];rfl) ?_);intro w35 hs35 hx35 hB1;have hC:=hC.step hx35 (by simp;omega);refine Qc (A6 (F3 J J J J (A5 F8 ‹_› (by simp only [List.take,List.drop,List.append,Ek7,Ek8];rfl) J) ?_));exact ⟨hC,by rw [hE];unfold L9;rw [Ek0 (by omega)];rfl⟩
     ·rw [cmpB_neqF] at h5;rw [Ek0 (by omega)] at hE;refine A7 (Qa (Qd (Fa G4 J (Lb o3 J ‹_› (by rfl) ?_))))
      refine Z 1 J (C9 J (E9 Tryz.underlying9 J) (Z 2 J (C0 (d:=75) J (fun t1=>?_) (fun t1=>?_))))
      ·try simp at t1
       refine Qk J (Qk J (Qk J (Qk J (Qk J (Zc 1 J (E3 J (Qa (C8 (S:=[]) 5 [(0,0),(0,1),(0,2),(0,3),(0,4),(2,5)] mo (by kernel_rfl) ?_))))))));intro w36 hx36 hh36;have hC:=hC.s0 hx36;have hB1:=hB1.u hx36;have hB3:=hB3.u hx36;refine Fa G4 J (D6 J (B3 o3 J ‹_› (by simp;done) (by rfl)) ?_);refine D6 J (B1 J3 M4 J (by rfl)) ?_;refine Z 2 J (Pb G5 J J ‹_› J J J J (by simp only [List.take,List.drop,List.append,Ek7,Ek8];rfl) ?_);intro w37 hs37 hx37 hB1;have hC:=hC.step hx37 (by simp;omega);refine Qc (A6 (F3 J J J J (A5 F8 ‹_› (by simp only [List.take,List.drop,List.append,Ek7,Ek8];rfl) J) ?_));exact ⟨hC,by rw [hE];unfold L9;rw [Ek1 (.inl (by omega))];rfl⟩
      ·try simp at t1
       have hin:i+1<s.size:=by omega
       obtain ⟨u8,hu,hu2⟩:=I5 s (i+1) hin;refine Qu J (Z 1 J (Qu J (Fa G4 J (Qu J (Lb o3 J ‹_› (by rfl) ?_)))));refine Qu J (C9 J (Does.to (E7 Tryz.underlying9 J J (by omega) (by exact hu)) (J4 (show ((u8.toNat:Nat):Int)=(((B6 s).getD (i+1) 0:Nat):Int) by rw [hu2]))) ?_)
       refine Qu J (Zc 2 J (A4 J (fun t2=>?_) (fun t2=>?_)))
       ·rw [cmpB_neq] at t2;refine Qa (C8 (S:=[]) 5 [(0,0),(0,1),(0,2),(0,3),(0,4),(2,5)] mo (by kernel_rfl) ?_);intro w38 hx38 hh38;have hC:=hC.s0 hx38;have hB1:=hB1.u hx38;have hB3:=hB3.u hx38;refine Fa G4 J (D6 J (B3 o3 J ‹_› (by simp;done) (by rfl)) ?_);refine D6 J (B1 J3 M4 J (by rfl)) ?_;refine Z 2 J (Pb G5 J J ‹_› J J J J (by simp only [List.take,List.drop,List.append,Ek7,Ek8];rfl) ?_);intro w39 hs39 hx39 hB1;have hC:=hC.step hx39 (by simp;omega);refine Qc (A6 (F3 J J J J (A5 F8 ‹_› (by simp only [List.take,List.drop,List.append,Ek7,Ek8];rfl) J) ?_));exact ⟨hC,by rw [hE];unfold L9;rw [Ek1 (.inr (by omega))];rfl⟩
       ·rw [cmpB_neqF] at t2;refine A7 (Qa (C8 (S:=[]) 8 [(0,0),(0,1),(0,2),(0,3),(0,4),(0,5),(0,6),(0,7),(2,8)] mo (by kernel_rfl) ?_));intro w40 hx40 hh40;have hC:=hC.s0 hx40;have hB1:=hB1.u hx40;have hB3:=hB3.u hx40;refine Z 2 J (Fa G4 J (D6 J (B3 o3 J ‹_› (by simp;done) (by rfl)) ?_));refine Ad J J (by omega) (D6 J (B1 J3 M4 J (by rfl)) ?_);refine Z 2 J (Pb G5 J J ‹_› J J J J (by simp only [List.take,List.drop,List.append,Ek7,Ek8];rfl) ?_);intro w41 hs41 hx41 hB1;have hC:=hC.step hx41 (by simp;omega);refine Qc (A6 (F3 J J J J (A5 F8 ‹_› (by simp only [List.take,List.drop,List.append,Ek7,Ek8];rfl) J) ?_));exact ⟨hC,by rw [hE];unfold L9;rw [Ek0 (by omega)];rfl⟩
   ·rw [cmpB_eqlF] at h3;rw [Ek0 (by omega)] at hE;refine A7 (Qa (Qd (Fa G4 J (Lb o3 J ‹_› (by rfl) ?_))))
    refine Z 1 J (C9 J (E9 Tryz.underlying9 J) (Z 2 J (C0 (d:=75) J (fun t1=>?_) (fun t1=>?_))))
    ·try simp at t1
     refine Qk J (Qk J (Qk J (Qk J (Qk J (Zc 1 J (E3 J (Qa (C8 (S:=[]) 5 [(0,0),(0,1),(0,2),(0,3),(0,4),(2,5)] mo (by kernel_rfl) ?_))))))));intro w42 hx42 hh42;have hC:=hC.s0 hx42;have hB1:=hB1.u hx42;have hB3:=hB3.u hx42;refine Fa G4 J (D6 J (B3 o3 J ‹_› (by simp;done) (by rfl)) ?_);refine D6 J (B1 J3 M4 J (by rfl)) ?_;refine Z 2 J (Pb G5 J J ‹_› J J J J (by simp only [List.take,List.drop,List.append,Ek7,Ek8];rfl) ?_);intro w43 hs43 hx43 hB1;have hC:=hC.step hx43 (by simp;omega);refine Qc (A6 (F3 J J J J (A5 F8 ‹_› (by simp only [List.take,List.drop,List.append,Ek7,Ek8];rfl) J) ?_));exact ⟨hC,by rw [hE];unfold L9;rw [Ek1 (.inl (by omega))];rfl⟩
    ·try simp at t1
     have hin:i<s.size:=by omega
     obtain ⟨u8,hu,hu2⟩:=I5 s (i) hin;refine Qu J (Z 1 J (Qu J (Fa G4 J (Qu J (Lb o3 J ‹_› (by rfl) ?_)))));refine Qu J (C9 J (Does.to (E7 Tryz.underlying9 J J (by omega) (by exact hu)) (J4 (show ((u8.toNat:Nat):Int)=(((B6 s).getD (i) 0:Nat):Int) by rw [hu2]))) ?_)
     refine Qu J (Zc 2 J (A4 J (fun t2=>?_) (fun t2=>?_)))
     ·rw [cmpB_neq] at t2;refine Qa (C8 (S:=[]) 5 [(0,0),(0,1),(0,2),(0,3),(0,4),(2,5)] mo (by kernel_rfl) ?_);intro w44 hx44 hh44;have hC:=hC.s0 hx44;have hB1:=hB1.u hx44;have hB3:=hB3.u hx44;refine Fa G4 J (D6 J (B3 o3 J ‹_› (by simp;done) (by rfl)) ?_);refine D6 J (B1 J3 M4 J (by rfl)) ?_;refine Z 2 J (Pb G5 J J ‹_› J J J J (by simp only [List.take,List.drop,List.append,Ek7,Ek8];rfl) ?_);intro w45 hs45 hx45 hB1;have hC:=hC.step hx45 (by simp;omega);refine Qc (A6 (F3 J J J J (A5 F8 ‹_› (by simp only [List.take,List.drop,List.append,Ek7,Ek8];rfl) J) ?_));exact ⟨hC,by rw [hE];unfold L9;rw [Ek1 (.inr (by omega))];rfl⟩
     ·rw [cmpB_neqF] at t2;refine A7 (Qa (C8 (S:=[]) 8 [(0,0),(0,1),(0,2),(0,3),(0,4),(0,5),(0,6),(0,7),(2,8)] mo (by kernel_rfl) ?_));intro w46 hx46 hh46;have hC:=hC.s0 hx46;have hB1:=hB1.u hx46;have hB3:=hB3.u hx46;refine Z 2 J (Fa G4 J (D6 J (B3 o3 J ‹_› (by simp;done) (by rfl)) ?_));refine Ad J J (by omega) (D6 J (B1 J3 M4 J (by rfl)) ?_);refine Z 2 J (Pb G5 J J ‹_› J J J J (by simp only [List.take,List.drop,List.append,Ek7,Ek8];rfl) ?_);intro w47 hs47 hx47 hB1;have hC:=hC.step hx47 (by simp;omega);refine Qc (A6 (F3 J J J J (A5 F8 ‹_› (by simp only [List.take,List.drop,List.append,Ek7,Ek8];rfl) J) ?_));exact ⟨hC,by rw [hE];unfold L9;rw [Ek0 (by omega)];rfl⟩
  ·try simp at h2
   rw [Ek0 (by omega)] at hE;refine Qk J (Qk J (Qk J (Qk J (Qk J (Zc 1 J (E4 J (A7 (Qa (Qd (Fa G4 J (Lb o3 J ‹_› (by rfl) ?_)))))))))))
   refine Z 1 J (C9 J (E9 Tryz.underlying9 J) (Z 2 J (C0 (d:=75) J (fun t1=>?_) (fun t1=>?_))))
   ·try simp at t1
    refine Qk J (Qk J (Qk J (Qk J (Qk J (Zc 1 J (E3 J (Qa (C8 (S:=[]) 5 [(0,0),(0,1),(0,2),(0,3),(0,4),(2,5)] mo (by kernel_rfl) ?_))))))));intro w48 hx48 hh48;have hC:=hC.s0 hx48;have hB1:=hB1.u hx48;have hB3:=hB3.u hx48;refine Fa G4 J (D6 J (B3 o3 J ‹_› (by simp;done) (by rfl)) ?_);refine D6 J (B1 J3 M4 J (by rfl)) ?_;refine Z 2 J (Pb G5 J J ‹_› J J J J (by simp only [List.take,List.drop,List.append,Ek7,Ek8];rfl) ?_);intro w49 hs49 hx49 hB1;have hC:=hC.step hx49 (by simp;omega);refine Qc (A6 (F3 J J J J (A5 F8 ‹_› (by simp only [List.take,List.drop,List.append,Ek7,Ek8];rfl) J) ?_));exact ⟨hC,by rw [hE];unfold L9;rw [Ek1 (.inl (by omega))];rfl⟩
   ·try simp at t1
    have hin:i<s.size:=by omega
    obtain ⟨u8,hu,hu2⟩:=I5 s (i) hin;refine Qu J (Z 1 J (Qu J (Fa G4 J (Qu J (Lb o3 J ‹_› (by rfl) ?_)))));refine Qu J (C9 J (Does.to (E7 Tryz.underlying9 J J (by omega) (by exact hu)) (J4 (show ((u8.toNat:Nat):Int)=(((B6 s).getD (i) 0:Nat):Int) by rw [hu2]))) ?_)
    refine Qu J (Zc 2 J (A4 J (fun t2=>?_) (fun t2=>?_)))
    ·rw [cmpB_neq] at t2;refine Qa (C8 (S:=[]) 5 [(0,0),(0,1),(0,2),(0,3),(0,4),(2,5)] mo (by kernel_rfl) ?_);intro w50 hx50 hh50;have hC:=hC.s0 hx50;have hB1:=hB1.u hx50;have hB3:=hB3.u hx50;refine Fa G4 J (D6 J (B3 o3 J ‹_› (by simp;done) (by rfl)) ?_);refine D6 J (B1 J3 M4 J (by rfl)) ?_;refine Z 2 J (Pb G5 J J ‹_› J J J J (by simp only [List.take,List.drop,List.append,Ek7,Ek8];rfl) ?_);intro w51 hs51 hx51 hB1;have hC:=hC.step hx51 (by simp;omega);refine Qc (A6 (F3 J J J J (A5 F8 ‹_› (by simp only [List.take,List.drop,List.append,Ek7,Ek8];rfl) J) ?_));exact ⟨hC,by rw [hE];unfold L9;rw [Ek1 (.inr (by omega))];rfl⟩
    ·rw [cmpB_neqF] at t2;refine A7 (Qa (C8 (S:=[]) 8 [(0,0),(0,1),(0,2),(0,3),(0,4),(0,5),(0,6),(0,7),(2,8)] mo (by kernel_rfl) ?_));intro w52 hx52 hh52;have hC:=hC.s0 hx52;have hB1:=hB1.u hx52;have hB3:=hB3.u hx52;refine Z 2 J (Fa G4 J (D6 J (B3 o3 J ‹_› (by simp;done) (by rfl)) ?_));refine Ad J J (by omega) (D6 J (B1 J3 M4 J (by rfl)) ?_);refine Z 2 J (Pb G5 J J ‹_› J J J J (by simp only [List.take,List.drop,List.append,Ek7,Ek8];rfl) ?_);intro w53 hs53 hx53 hB1;have hC:=hC.step hx53 (by simp;omega);refine Qc (A6 (F3 J J J J (A5 F8 ‹_› (by simp only [List.take,List.drop,List.append,Ek7,Ek8];rfl) J) ?_));exact ⟨hC,by rw [hE];unfold L9;rw [Ek0 (by omega)];rfl⟩
theorem Df3 (L:List Nat):∀ (k at_ n:Nat),(∀ m,Au1 L at_ k n= .inl m→at_+k≤L.length∨k=0)∧(∀ i,Au1 L at_ k n= .inr i→i≤L.length)
 |0,at_,n=>⟨fun m _=>.inr rfl,fun i h=>by cases h⟩
 |k+1,at_,n=>by
  rw [Au1]
  by_cases h1:L.length≤at_
  ·rw [Ek1 h1];exact ⟨fun m h=>(by cases h),fun i h=>by injection h with h;omega⟩
  ·rw [Ek0 h1]
   by_cases h2:Ak3 (L.getD at_ 0)<0
   ·rw [Ek1 h2];exact ⟨fun m h=>(by cases h),fun i h=>by injection h with h;omega⟩
   ·rw [Ek0 h2];have:=Df3 L k (at_+1) (16*n+(Ak3 (L.getD at_ 0)).toNat);exact ⟨fun m h=>by rcases this.1 m h with h|h<;>omega,this.2⟩
def EscPos (L:List Nat) (at_:Nat) (r:Nat × Int × Int):Prop:=∃ i:Nat,r.2.1=(i:Int)∧(r.2.2=0→at_+2≤i∧i≤L.length)∧i≤L.length+at_+1
theorem Dg4 (L:List Nat) (at_:Nat):EscPos L at_ (Co2 L at_):=by
 unfold Co2
 by_cases h1:L.length≤at_+1
 ·rw [Ek1 h1];exact ⟨L.length,rfl,fun h=>(by cases h),by omega⟩
 rw [Ek0 h1];simp only [];have h2:((at_:Int)+2)=((at_+2:Nat):Int):=by omega
 have hex:=Df3 L 2 (at_+2) 0;generalize L.getD (at_+1) 0=c
 by_cases g0:c∈B6 Dk7
 ·rw [Ek1 g0];exact ⟨at_+2,h2,fun _=>⟨by omega,by omega⟩,by omega⟩
 rw [Ek0 g0]
 by_cases g1:c=110
 ·rw [Ek1 g1];exact ⟨at_+2,h2,fun _=>⟨by omega,by omega⟩,by omega⟩
 rw [Ek0 g1]
 by_cases g2:c=116
 ·rw [Ek1 g2];exact ⟨at_+2,h2,fun _=>⟨by omega,by omega⟩,by omega⟩
 rw [Ek0 g2]
 by_cases g3:c=114
 ·rw [Ek1 g3];exact ⟨at_+2,h2,fun _=>⟨by omega,by omega⟩,by omega⟩
 rw [Ek0 g3]
 by_cases g4:c=102
 ·rw [Ek1 g4];exact ⟨at_+2,h2,fun _=>⟨by omega,by omega⟩,by omega⟩
 rw [Ek0 g4]
 by_cases g5:c=118
 ·rw [Ek1 g5];exact ⟨at_+2,h2,fun _=>⟨by omega,by omega⟩,by omega⟩
 rw [Ek0 g5]
 by_cases g6:c=100∨c=68
 ·rw [Ek1 g6];exact ⟨at_+2,h2,fun _=>⟨by omega,by omega⟩,by omega⟩
 rw [Ek0 g6]
 by_cases g7:c=119∨c=87
 ·rw [Ek1 g7];exact ⟨at_+2,h2,fun _=>⟨by omega,by omega⟩,by omega⟩
 rw [Ek0 g7]
 by_cases g8:c=115∨c=83
 ·rw [Ek1 g8];exact ⟨at_+2,h2,fun _=>⟨by omega,by omega⟩,by omega⟩
 rw [Ek0 g8]
 by_cases gx:c=120
 ·rw [Ek1 gx]
  cases hx:Au1 L (at_+2) 2 0 with
  |inl n=>have:=hex.1 _ hx;exact ⟨at_+4,by show (at_:Int)+4=_;omega,fun _=>⟨by omega,by omega⟩,by omega⟩
  |inr i=>have:=hex.2 _ hx;exact ⟨i,rfl,fun h=>(by cases h),by omega⟩
 rw [Ek0 gx]
 by_cases gu:c∈B6 unT
 ·rw [Ek1 gu];exact ⟨at_,rfl,fun h=>(by cases h),by omega⟩
 rw [Ek0 gu];exact ⟨at_+1,by show (at_:Int)+1=_;omega,fun h=>(by cases h),by omega⟩
theorem Ay6 (L:List Nat) (at_:Nat):∃ i:Nat,(V6 L at_).2.1=(i:Int)∧((V6 L at_).2.2=0→at_+1≤i∧i≤L.length)∧i≤L.length+at_+1:=by
 unfold V6
 by_cases h1:L.length≤at_∨L.getD at_ 0∈B6 clsT
 ·rw [Ek1 h1];exact ⟨_,rfl,fun h=>(by cases h),by omega⟩
 rw [Ek0 h1]
 by_cases h2:L.getD at_ 0=92
 ·rw [Ek1 h2];obtain ⟨i,h3,h4,h5⟩:=Dg4 L at_;exact ⟨i,h3,fun h=>⟨by have:=(h4 h).1;omega,(h4 h).2⟩,h5⟩
 ·rw [Ek0 h2];exact ⟨at_+1,by show (at_:Int)+1=_;omega,fun _=>⟨by omega,by have:=Eu0.1 h1;omega⟩,by omega⟩
def De4 (f g:Nat→Bool) (k:Nat):List Bool:=(List.range 256).map fun b=>if b<k then f b else g b
theorem K9 (f g:Nat→Bool) (k:Nat):(De4 f g k).length=256:=by simp [De4]
theorem De3 (f g:Nat→Bool) (k:Nat) (hk:k<256):(De4 f g k).getD k false=g k:=by
 simp [De4,Ek2,hk]
theorem Bg7 (f g:Nat→Bool) (k:Nat):(De4 f g k).set k (f k)=De4 f g (k+1):=by
 apply Em4;intro j;simp only [De4,En1,El8,Eo2,Eq4]
 by_cases hj:k=j
 ·subst hj
  by_cases h:k<256
  ·simp [h]
  ·simp [El5 (l:=List.range 256) (i:=k) (by simp;omega),h]
 ·simp only [Ek0 hj]
  by_cases h:j<256
  ·simp only [Em7 h,En4]
   congr 1
   by_cases h2:j<k
   ·simp [h2,show j<k+1 by omega]
   ·simp [h2,show ¬ j<k+1 by omega]
  ·simp [El5 (l:=List.range 256) (i:=j) (by simp;omega)]
theorem Cu9 {f g:Nat→Bool} {k:Nat} {on:List Bool} (h:on.length=256) (hf:∀ b,b<k→f b=on.getD b false) (hg:∀ b,g b=on.getD b false):De4 f g k=on:=by
 apply Em4;intro j;simp only [De4,El8]
 by_cases hj:j<256
 ·simp only [Em7 hj,En4];rw [Ek4 (by omega)]
  congr 1
  have e:on[j]=on.getD j false:=by rw [Ek2,Ek4 (by omega)];rfl
  rw [e]
  split
  ·exact hf j ‹_›
  ·exact hg j
 ·rw [El5 (l:=List.range 256) (i:=j) (by simp;omega),El5 (l:=on) (i:=j) (by omega)];rfl
def orS (on:List Bool) (s:Nat) (k:Nat):List Bool:=De4 (fun b=>on.getD b false||s.testBit b) (fun b=>on.getD b false) k
def Bq8 (on:List Bool) (a:Nat) (k:Nat):List Bool:=De4 (fun b=>decide (a≤b)||on.getD b false) (fun b=>on.getD b false) k
def Dd5 (on:List Bool) (k:Nat):List Bool:=De4 (fun b=> !on.getD b false) (fun b=>on.getD b false) k
theorem orS_zero {on:List Bool} (h:on.length=256) (s:Nat):orS on s 0=on:=Cu9 h (fun b hb=>by omega) (fun _=>rfl)
theorem Dy1 {on:List Bool} (h:on.length=256):Dd5 on 0=on:=Cu9 h (fun b hb=>by omega) (fun _=>rfl)
theorem Do5 {on:List Bool} (h:on.length=256) (a:Nat):Bq8 on a a=on:=Cu9 h (fun b hb=>by rw [El3 (by omega),Er3]) (fun _=>rfl)
def Ac8 (L:List Nat) (on:List Bool) (i:Nat):(Int × Int) ⊕ (List Bool × Nat):=
 let x:=V6 L i
 if x.2.2≠0 then .inl x.2 else
 let i1:=x.2.1.toNat
 let on1:=orS on x.1 256
 if L.length≤i1∨L.getD i1 0≠45 then .inr (on1,i1) else
 let a:=Aa0 x.1
 if a<0 then .inl ((i1:Int),4) else
 let y:=V6 L (i1+1)
 if y.2.2≠0 then .inl y.2 else
 let b:=Aa0 y.1
 if b<0 then .inl ((i1:Int)+1,4) else
 if b<a then .inl ((i:Int),5) else
 .inr (Bq8 on1 a.toNat (b.toNat+1),y.2.1.toNat)
def Cy5 (L:List Nat):Nat→Bool→List Bool→Nat→(Int × Int) ⊕ (List Bool × Nat)
 |0,_,_,_=>.inl (0,4)
 |f+1,first,on,i=>
  if first=true∨L.length≤i∨L.getD i 0≠93 then
   match Ac8 L on i with
   | .inl e=>.inl e
   | .inr (on',i')=>Cy5 L f false on' i'
  else .inr (on,i)
def Dy4 (L:List Nat) (at_:Nat):Bool:=decide (at_+1<L.length∧L.getD (at_+1) 0=94)
def Ap3 (L:List Nat) (at_:Nat):Nat × Int × Int:=
 let neg:=Dy4 L at_
 match Cy5 L (L.length+2) true (List.replicate 256 false) (at_+1+if neg then 1 else 0) with
 | .inl e=>(0,e)
 | .inr (on,i)=>(onS (if neg then Dd5 on 256 else on),(i:Int)+1,0)
theorem rclass_c (s:ByteArray) (hs:s.size≤1000) (at_:Nat) (hat:at_<s.size) (w:World):Calls P 169 #[.string s,.int .i64 (at_:Nat)] w (Ret (EscR (Ap3 (B6 s) at_) w)):=by
 have hC:=A8 [] w;have hsl:=E5 s;refine D4 Tryz.func169 J J (Qd (B5 J (B8 N0 J) ?_));intro b1 w1 hb1 hs1 hx1 hB1;refine B5 J (B8 J3 J) ?_;intro b2 w2 hb2 hs2 hx2 hB2;have hC:=hC.s0 (hx1.s0 hx2);have hB1:=hB1.u hx2
 refine Qc (Qd (Z 1 J (Ad J J (by omega) (Zc 1 J (I3 (fun e9 wr=>Sub [(0,.string s),(1,.int .i64 at_),(4,.pointer (some ⟨b1,0,none⟩)),(5,.pointer (some ⟨b2,0,none⟩)),(6,.int .i64 ((at_+1:Nat):Int)),(7,.bool (Dy4 (B6 s) at_))] e9∧Chg [] w wr∧Blk wr b1 (C4 0) 70∧Blk wr b2 [.int .i64 0,.int .i64 0] 232) ?_ ?_)))))
 ·refine Qb (Z 2 J (C9 J (E9 Tryz.underlying9 J) (Z 2 J (C0 (d:=26) J (fun n1=>?_) (fun n1=>?_)))))
  ·try simp at n1
   have hin:at_+1<s.size:=by omega
   obtain ⟨u8,hu,hu2⟩:=I5 s (at_+1) hin;refine Qu J (Z 1 J (Qu J (Z 1 J (Qu J (C9 J (Does.to (E7 Tryz.underlying9 J J (by omega) (by exact hu)) (J4 (show ((u8.toNat:Nat):Int)=(((B6 s).getD (at_+1) 0:Nat):Int) by rw [hu2]))) ?_)))));refine Qu J (Zc 3 J ⟨⟨rfl,rfl,rfl,rfl,(G2 J (by omega)),(H3 J (by unfold Dy4;rw [El4,cmpB_eql,El7];omega)),trivial⟩,?_⟩);exact ⟨hC,by rw [C6];exact hB1,hB2⟩
  ·try simp at n1
   refine Qk J (Qk J (Qk J (Qk J (Zc 2 J ⟨⟨rfl,rfl,rfl,rfl,(G2 J (by omega)),(H3 J (by unfold Dy4;symm;rw [decide_eq_false_iff_not];omega)),trivial⟩,?_⟩))));exact ⟨hC,by rw [C6];exact hB1,hB2⟩
 rintro e9 w9 ⟨hs9,hC,hB1,hB2⟩;refine I2 _ hs9 ?_;clear hs9 e9;have hE:Ap3 (B6 s) at_=Ap3 (B6 s) at_:=rfl
 conv at hE=>rhs;unfold Ap3
 simp only [] at hE;generalize hneg:Dy4 (B6 s) at_=neg at*;obtain ⟨i0,hi0,hi0b⟩:∃ i0,i0=at_+1+(if neg=true then 1 else 0)∧i0≤at_+2:=⟨_,rfl,by split<;>omega⟩;rw [← hi0] at hE
 refine I3 (fun e9 wr=>Sub [(0,.string s),(1,.int .i64 at_),(4,.pointer (some ⟨b1,0,none⟩)),(5,.pointer (some ⟨b2,0,none⟩)),(6,.int .i64 i0),(7,.bool neg)] e9∧Chg [] w wr∧Blk wr b1 (C4 0) 70∧Blk wr b2 [.int .i64 0,.int .i64 0] 232) ?_ ?_
 ·refine Qd (Zc 1 J (A4 J (fun n2=>?_) (fun n2=>?_)))
  ·refine Qb (Z 1 J (Ad J J (by omega) (Zc 1 J ⟨⟨rfl,rfl,rfl,rfl,(G2 J (by rw [hi0,Ek1 n2];omega)),rfl,trivial⟩,?_⟩)));exact ⟨hC,hB1,hB2⟩
  ·refine A7 ⟨⟨rfl,rfl,rfl,rfl,(G2 J (by rw [hi0,Ek0 (by rw [n2];simp)])),rfl,trivial⟩,?_⟩;exact ⟨hC,hB1,hB2⟩
 rintro e9 w9 ⟨hs9,hC,hB1,hB2⟩;refine I2 _ hs9 ?_;clear hs9 e9
 try have hlB2:=hB2.lt
 refine Qd (B5 J (O7 el43 zr4 J (cs:=X4 (List.replicate 256 false)) (by omega) (by omega) (by show (madeCells #[_] (Int.toNat 256*1)).toList=_;rw [T4];simp [X4])) ?_);intro b3 w3 hb3 hs3 hx3 hB3;have hC:=hC.s0 hx3;have hB1:=hB1.u hx3;have hB2:=hB2.u hx3;generalize hr:Cy5 (B6 s) ((B6 s).length+2) true (List.replicate 256 false) i0=r at*
 refine Zc 1 J (Qa (Qd (Zc 1 J (B2 (D8 (σ:=Nat × Bool × List Bool × Nat) (fun (f,fi,on,i)=>[(0,.string s),(1,.int .i64 at_),(4,.pointer (some ⟨b1,0,none⟩)),(5,.pointer (some ⟨b2,0,none⟩)),(6,.int .i64 i),(7,.bool neg),(8,.slice (some ⟨b3,0,none⟩) 256 256),(9,.bool fi)]) (fun (f,fi,on,i) wr=>Chg [] w wr∧Blk wr b1 (C4 0) 70∧Blk wr b2 [.int .i64 0,.int .i64 0] 232∧Blk wr b3 (X4 on) 4∧on.length=256∧Cy5 (B6 s) f fi on i=r∧(B6 s).length+2≤f+i∧i≤s.size+2∧(fi=true→2≤f)∧(fi=false→i≤s.size)) (fun (f,fi,on,i) wr=>f) ((B6 s).length+2,true,List.replicate 256 false,i0) (sb J) ?_ ?_)))))
 ·exact ⟨hC,hB1,hB2,hB3,by simp,hr,by omega,by omega,fun _=>by omega,fun h=>by cases h⟩
 rintro ⟨f,fi,on,i⟩ w9 ⟨hC,hB1,hB2,hB3,hol,hN,hf,hi,hfi,hfn⟩
 have hf1:∃ g,f=g+1:=by
  cases fi with
  |true=>exact ⟨f - 1,by have:=hfi rfl;omega⟩
  |false=>exact ⟨f - 1,by have:=hfn rfl;omega⟩
 obtain ⟨f,rfl⟩:=hf1;rw [Cy5] at hN
 refine I3 (fun e9 wr=>Sub [(0,.string s),(1,.int .i64 at_),(4,.pointer (some ⟨b1,0,none⟩)),(5,.pointer (some ⟨b2,0,none⟩)),(6,.int .i64 i),(7,.bool neg),(8,.slice (some ⟨b3,0,none⟩) 256 256)] e9∧Chg [] w wr∧Blk wr b1 (C4 0) 70∧Blk wr b2 [.int .i64 0,.int .i64 0] 232∧Blk wr b3 (X4 on) 4∧(fi=true∨(B6 s).length≤i∨(B6 s).getD i 0≠93)) ?_ ?_
 ·refine Qd (Z 2 J (C0 (d:=37) J (fun c1=>?_) (fun c1=>?_)))
  ·refine Qk J (Qk J (Qk J (Qk J (Z 2 J (Qk J (Qk J (Qk J (Qk J (Zc 1 J (E3 J (A7 ⟨(sb J),?_⟩)))))))))));exact ⟨hC,hB1,hB2,hB3,.inl c1⟩
  ·refine Qu J (Z 1 J (Qu J (Z 1 J (Qu J (C9 J (E9 Tryz.underlying9 J) (Qu J (Z 3 J (C0 (d:=43) J (fun c2=>?_) (fun c2=>?_)))))))))
   ·try simp at c2
    refine Qk J (Qk J (Qk J (Qk J (Zc 1 J (E3 J (A7 ⟨(sb J),?_⟩))))));exact ⟨hC,hB1,hB2,hB3,.inr (.inl (by omega))⟩
   ·try simp at c2
    have hin:i<s.size:=by omega
    obtain ⟨u8,hu,hu2⟩:=I5 s i hin;refine Qu J (Z 1 J (Qu J (Z 1 J (Qu J (C9 J (Does.to (E7 Tryz.underlying9 J J (by omega) (by exact hu)) (J4 (show ((u8.toNat:Nat):Int)=(((B6 s).getD i 0:Nat):Int) by rw [hu2]))) ?_)))))
    refine Qu J (Zc 2 J (A4 J (fun c3=>?_) (fun c3=>?_)))
    ·rw [cmpB_neq] at c3;refine A7 ⟨(sb J),?_⟩;exact ⟨hC,hB1,hB2,hB3,.inr (.inr (by omega))⟩
    ·rw [cmpB_neqF] at c3;rw [Ek0 (by rw [c1];simp only [Er7,false_or,Eu0];omega)] at hN;rw [← hN] at hE;simp only [] at hE
     refine Xb (Qa (Qd (Zc 1 J (B2 (D8 (σ:=Nat) (fun k=>[(0,.string s),(1,.int .i64 at_),(4,.pointer (some ⟨b1,0,none⟩)),(5,.pointer (some ⟨b2,0,none⟩)),(6,.int .i64 i),(7,.bool neg),(8,.slice (some ⟨b3,0,none⟩) 256 256),(19,.int .i64 k)]) (fun k wr=>Chg [] w wr∧Blk wr b1 (C4 0) 70∧Blk wr b2 [.int .i64 0,.int .i64 0] 232∧Blk wr b3 (X4 (if neg=true then Dd5 on k else on)) 4∧k≤256) (fun k wr=>256 - k) 0 (sb J) ?_ ?_)))))
     ·exact ⟨hC,hB1,hB2,by rw [Dy1 hol,ite_self];exact hB3,El0 _⟩
     rintro k w8 ⟨hC,hB1,hB2,hB3,hk⟩
     refine Qa (Qd (Z 3 J (C0 (d:=135) J (fun d1=>?_) (fun d1=>?_))))
     ·try simp at d1
      have hk2:k<256:=by omega
      refine Qu J (Zc 2 J (A4 J (fun d2=>?_) (fun d2=>?_)))
      ·rw [Ek1 d2] at hB3;have hrb:=hB3.rd (F:=fun _=>True) (sz:=1) (m:=256) (by rw [O6];exact K9 _ _ _) trivial;have hcb:=(hrb.one (Bo6 (Dd5 on k) k (by unfold Dd5;rw [K9];exact hk2))).2;rw [show (Dd5 on k).getD k false=on.getD k false from De3 _ _ k hk2] at hcb;refine A7 (Qa (B2 (Qb (Z 4 J (C9 J (B0 sl43 J J (by omega) (by omega)) (Lc o4 J hcb (Z 1 J (C9 J (B0 sl43 J J (by omega) (by omega)) (Pb (cs':=(X4 (Dd5 on (k+1)))) sz4 J J hB3 J J J (by rw [O6,Ep4];unfold Dd5;rw [K9];omega) (by rw [Ek9,El6,Z9 _ _ _ (by rw [O6];unfold Dd5;rw [K9];exact hk2),show Dd5 on (k+1)=(Dd5 on k).set k (!on.getD k false) from (Bg7 _ _ k).symm];unfold X4;rw [Et1]) ?_)))))))));intro w4 hs4 hx4 hB3;have hC:=hC.step hx4 (by simp;omega);have hB1:=hB1.q hx4 (by simp;omega);have hB2:=hB2.q hx4 (by simp;omega);refine Qc (Qb (Z 1 J (Ad J J (by omega) (Zc 1 J ⟨k+1,sb J,?_,?_⟩))));exact ⟨hC,hB1,hB2,by rw [Ek1 d2];exact hB3,by omega⟩;omega
      ·have hnf:∀ q,(if neg=true then Dd5 on q else on)=on:=fun q=>Ek0 (by rw [d2];simp)
       rw [hnf] at hB3;refine Xb (Qd (Z 1 J (Ca fb200 J (Ct5 (fun x=>x<w8.heap.size) on (some ⟨b3,0,none⟩) 256 (hol) _ (fun x h=>by have:=hC.size;omega) (hB3.rd (by rw [O6];exact hol) (by have:=hB3.lt;exact this))) ?_)));rintro _ w5 ⟨rfl,hx5⟩;have hB1:=hB1.u hx5;refine Z 1 J (Ad J J (by omega) (C9 J (B1 J3 M4 J (by rfl)) ?_));refine Pe J9 J ‹_› J J ?_;intro w6 hs6 hx6 hB1;have hB2:=hB2.q (hx5.j hx6) (by simp<;>omega);refine Pe G5 J ‹_› J J ?_;intro w7 hs7 hx7 hB2;have hC:=hC.step ((hx5.j hx6).j hx7) (by simp<;>omega);have hB1:=hB1.q hx7 (by simp;omega);refine Qc (A6 (C7 J J (A5 J0 ‹_› J J) J (A5 F8 ‹_› J J) ?_));exact ⟨hC,by rw [hE,hnf];rfl⟩
     ·try simp at d1
      have hkk:k=256:=by omega
      subst hkk;refine Qk J (Zc 1 J (E4 J (Xb (Qd (Z 1 J (Ca fb200 J (Ct5 (fun x=>x<w8.heap.size) (if neg=true then Dd5 on 256 else on) (some ⟨b3,0,none⟩) 256 (by split;exact K9 _ _ _;exact hol) _ (fun x h=>by have:=hC.size;omega) (hB3.rd (by rw [O6];split;exact K9 _ _ _;exact hol) (by have:=hB3.lt;exact this))) ?_))))));rintro _ w8 ⟨rfl,hx8⟩;have hB1:=hB1.u hx8;refine Z 1 J (Ad J J (by omega) (C9 J (B1 J3 M4 J (by rfl)) ?_));refine Pe J9 J ‹_› J J ?_;intro w9 hs9 hx9 hB1;have hB2:=hB2.q (hx8.j hx9) (by simp<;>omega);refine Pe G5 J ‹_› J J ?_;intro w10 hs10 hx10 hB2;have hC:=hC.step ((hx8.j hx9).j hx10) (by simp<;>omega);have hB1:=hB1.q hx10 (by simp;omega);refine Qc (A6 (C7 J J (A5 J0 ‹_› J J) J (A5 F8 ‹_› J J) ?_));exact ⟨hC,by rw [hE];rfl⟩
 rintro e9 w8 ⟨hs9,hC,hB1,hB2,hB3,hgo⟩;refine I2 _ hs9 ?_;clear hs9 e9
 try have hlB2:=hB2.lt
 try have hlB3:=hB3.lt
 rw [Ek1 hgo] at hN;have hip:=Ay6 (B6 s) i;unfold Ac8 at hN;simp only [] at hN;refine Qa (B2 (Qd (Zc 2 J (Qd (Z 2 J (Ca fb198 J (Dw0 s hs i (by omega) _) ?_))))));rintro _ w11 ⟨hx11,rfl⟩;have hz11:=hx11.size;generalize V6 (B6 s) i=x at*;obtain ⟨xs,xp,xe⟩:=x;obtain ⟨i1,hi1,hi1b,hi1c⟩:=hip;simp only [] at hi1 hi1b hi1c hN;subst hi1;refine Z 3 J (B5 J (B8 N0 J) ?_);intro b12 w12 hb12 hs12 hx12 hB12;refine B5 J (B8 J3 J) ?_;intro b13 w13 hb13 hs13 hx13 hB13;have hB12:=hB12.u hx13;refine Pe J9 J ‹_› J J ?_;intro w14 hs14 hx14 hB12;have hB13:=hB13.q hx14 (by simp;omega);refine Pe G5 J ‹_› J J ?_;intro w15 hs15 hx15 hB13;have hC:=hC.step ((((hx11.j hx12).j hx13).j hx14).j hx15) (by simp<;>omega);have hB1:=hB1.q ((((hx11.j hx12).j hx13).j hx14).j hx15) (by simp<;>omega);have hB2:=hB2.q ((((hx11.j hx12).j hx13).j hx14).j hx15) (by simp<;>omega);have hB3:=hB3.q ((((hx11.j hx12).j hx13).j hx14).j hx15) (by simp<;>omega);have hB12:=hB12.q hx15 (by simp;omega);refine Qc (Qa (Qd (Fa Ac7 J (Lb o3 J ‹_› (by rfl) ?_))))
 refine Zc 1 J (A4 J (fun e1=>?_) (fun e1=>?_))
 ·try simp at e1
  rw [Ek1 e1] at hN;refine Qa (C8 (S:=[b1]) 3 [(0,0),(0,1),(1,2),(2,3)] mo (by kernel_rfl) ?_);intro w16 hx16 hh16;have hB1:=hB1.u hx16;have hB13:=hB13.u hx16;have hCS16:=A8 ([b1]) w16;refine D6 J (D7 N0 Av2 J (by rfl)) ?_;refine D6 J (C1 F8 J ‹_› (by simp;omega) J J) ?_;refine H8 (G3 J9 J J ‹_› J J J J J) ?_;intro w17 hs17 hx17 hB1;have hB2:=hB2.q (hx16.j hx17) (by simp<;>omega);have hCS16:=hCS16.step hx17 (by simp;done);refine ⟨hCS16,?_⟩;refine Pe G5 J ‹_› J J ?_;intro w18 hs18 hx18 hB2;have hC:=hC.step ((hx16.j hx17).j hx18) (by simp<;>omega);have hB1:=hB1.q hx18 (by simp;omega);refine Qc (A6 (C7 J J (A5 J0 ‹_› J J) J (A5 F8 ‹_› J J) ?_));exact ⟨hC,by rw [hE,← hN,C6];rfl⟩
 ·try simp at e1
  have e1':xe=0:=by simpa using e1
  subst e1';rw [Ek0 (by simp)] at hN;simp only [Ek9] at hN;have hi2:=hi1b J;refine A7 (Qd (Fa G4 J (Lb o3 J ‹_› (by rfl) ?_)))
  refine Zc 1 J (Qa (Qd (Zc 1 J (B2 (D8 (σ:=Nat) (fun k=>[(0,.string s),(1,.int .i64 at_),(4,.pointer (some ⟨b1,0,none⟩)),(5,.pointer (some ⟨b2,0,none⟩)),(6,.int .i64 i1),(7,.bool neg),(8,.slice (some ⟨b3,0,none⟩) 256 256),(10,.int .i64 i),(11,.pointer (some ⟨b12,0,none⟩)),(13,.int .i64 k)]) (fun k wr=>Chg [] w wr∧Blk wr b1 (C4 0) 70∧Blk wr b2 [.int .i64 0,.int .i64 0] 232∧Blk wr b3 (X4 (orS on xs k)) 4∧Blk wr b12 (C4 xs) 70∧k≤256) (fun k wr=>256 - k) 0 (sb J) ?_ ?_)))))
  ·exact ⟨hC,hB1,hB2,by rw [orS_zero hol];exact hB3,hB12,El0 _⟩
  rintro k w7 ⟨hC,hB1,hB2,hB3,hB12,hk⟩
  try have hlB2:=hB2.lt
  try have hlB3:=hB3.lt
  try have hlB12:=hB12.lt
  refine Qa (Qd (Zc 2 J (A4 J (fun v1=>?_) (fun v1=>?_))))
  ·try simp at v1
   have hk2:k<256:=by omega
   have hrb:=hB3.rd (F:=fun _=>True) (sz:=1) (m:=256) (by rw [O6];exact K9 _ _ _) trivial;have hcb:=(hrb.one (Bo6 (orS on xs k) k (by unfold orS;rw [K9];exact hk2))).2;rw [show (orS on xs k).getD k false=on.getD k false from De3 _ _ k hk2] at hcb
   refine A7 (Qa (B2 (Qb (Z 4 J (C9 J (B0 sl43 J J (by omega) (by omega)) (Lc o4 J hcb (Z 1 J (C0 (d:=73) J (fun q1=>?_) (fun q1=>?_)))))))))
   ·refine Qk J (Qk J (Qk J (Z 1 J (C9 J (B0 sl43 J J (by omega) (by omega)) (Pb (cs':=(X4 (orS on xs (k+1)))) sz4 J J hB3 J J J (by rw [O6,Ep4];unfold orS;rw [K9];omega) (by rw [Ek9,El6,Z9 _ _ _ (by rw [O6];unfold orS;rw [K9];exact hk2),show orS on xs (k+1)=(orS on xs k).set k (on.getD k false||xs.testBit k) from (Bg7 _ _ k).symm,q1];unfold X4;rw [Et1];rfl) ?_)))));intro w19 hs19 hx19 hB3;have hC:=hC.step hx19 (by simp;omega);have hB1:=hB1.q hx19 (by simp;omega);have hB2:=hB2.q hx19 (by simp;omega);have hB12:=hB12.q hx19 (by simp;omega);refine Qc (Qb (Z 1 J (Ad J J (by omega) (Zc 1 J ⟨k+1,sb J,?_,?_⟩))));exact ⟨hC,hB1,hB2,hB3,hB12,by omega⟩;omega
   ·refine Qu J (La J0 J ‹_› J J ?_);refine Qu J (Z 1 J (Qu J (Ca fb52 J (Dw1 xs k hk2 _) ?_)));rintro _ w20 ⟨rfl,hx20⟩;have hB3:=hB3.u hx20;refine Z 1 J (C9 J (B0 sl43 J J (by omega) (by omega)) (Pb (cs':=(X4 (orS on xs (k+1)))) sz4 J J hB3 J J J (by rw [O6,Ep4];unfold orS;rw [K9];omega) (by rw [Ek9,El6,Z9 _ _ _ (by rw [O6];unfold orS;rw [K9];exact hk2),show orS on xs (k+1)=(orS on xs k).set k (on.getD k false||xs.testBit k) from (Bg7 _ _ k).symm,q1];unfold X4;rw [Et1];rfl) ?_));intro w21 hs21 hx21 hB3;have hC:=hC.step (hx20.j hx21) (by simp<;>omega);have hB1:=hB1.q (hx20.j hx21) (by simp<;>omega);have hB2:=hB2.q (hx20.j hx21) (by simp<;>omega);have hB12:=hB12.q (hx20.j hx21) (by simp<;>omega);refine Qc (Qb (Z 1 J (Ad J J (by omega) (Zc 1 J ⟨k+1,sb J,?_,?_⟩))));exact ⟨hC,hB1,hB2,hB3,hB12,by omega⟩;omega
  ·try simp at v1
   have hkk:k=256:=by omega
   subst hkk
   refine Xb (Qa (Qd (Z 2 J (C9 J (E9 Tryz.underlying9 J) (Z 2 J (C0 (d:=83) J (fun u1=>?_) (fun u1=>?_)))))))
   ·try simp at u1
    rw [Ek1 (.inl (by omega))] at hN;simp only [] at hN;refine Qk J (Qk J (Qk J (Qk J (Zc 1 J (E3 J (Xb (Qb (Zc 1 J ⟨(f,false,orS on xs 256,i1),sb J,?_,?_⟩))))))));exact ⟨hC,hB1,hB2,hB3,K9 _ _ _,hN,by omega,by omega,fun h=>(by cases h),fun _=>by omega⟩;show f<f+1;omega
   ·try simp at u1
    have hin:i1<s.size:=by omega
    obtain ⟨u8,hu,hu2⟩:=I5 s i1 hin;refine Qu J (Z 1 J (Qu J (Z 1 J (Qu J (C9 J (Does.to (E7 Tryz.underlying9 J J (by omega) (by exact hu)) (J4 (show ((u8.toNat:Nat):Int)=(((B6 s).getD i1 0:Nat):Int) by rw [hu2]))) ?_)))))
    refine Qu J (Zc 2 J (A4 J (fun u2=>?_) (fun u2=>?_)))
    ·rw [cmpB_neq] at u2;rw [Ek1 (.inr (by omega))] at hN;simp only [] at hN;refine Xb (Qb (Zc 1 J ⟨(f,false,orS on xs 256,i1),sb J,?_,?_⟩));exact ⟨hC,hB1,hB2,hB3,K9 _ _ _,hN,by omega,by omega,fun h=>(by cases h),fun _=>by omega⟩;show f<f+1;omega
    ·rw [cmpB_neqF] at u2;rw [Ek0 (by omega)] at hN;refine A7 (Qd (La J0 J ‹_› J J ?_));refine Ca fb199 J (Dv6 xs _) ?_;rintro _ w22 ⟨rfl,hx22⟩;have hz22:=hx22.size;have hC:=hC.s0 hx22;have hB1:=hB1.u hx22;have hB2:=hB2.u hx22;have hB3:=hB3.u hx22;have har:=Bk0 xs;generalize Aa0 xs=a at*
     refine Zc 1 J (Qa (Qd (Zc 2 J (A4 J (fun a1=>?_) (fun a1=>?_)))))
     ·try simp at a1
      rw [Ek1 a1] at hN;refine Qd (C9 J (D7 N0 Av2 J (by rfl)) ?_);refine Z 1 J (C9 J (B1 J3 M4 J (by rfl)) ?_);refine Pe J9 J ‹_› J J ?_;intro w23 hs23 hx23 hB1;have hB2:=hB2.q hx23 (by simp;omega);refine Pe G5 J ‹_› J J ?_;intro w24 hs24 hx24 hB2;have hC:=hC.step (hx23.j hx24) (by simp<;>omega);have hB1:=hB1.q hx24 (by simp;omega);refine Qc (A6 (C7 J J (A5 J0 ‹_› J J) J (A5 F8 ‹_› J J) ?_));exact ⟨hC,by rw [hE,← hN,C6];rfl⟩
     ·try simp at a1
      rw [Ek0 (by omega)] at hN;have hip:=Ay6 (B6 s) (i1+1);refine A7 (Qd (Z 2 J (Ad J J (by omega) (Ca fb198 J (Dw0 s hs (i1+1) (by omega) _) ?_))));rintro _ w25 ⟨hx25,rfl⟩;have hz25:=hx25.size;generalize V6 (B6 s) (i1+1)=y at*;obtain ⟨ys,yp,ye⟩:=y;obtain ⟨i3,hi3,hi3b,hi3c⟩:=hip;simp only [] at hi3 hi3b hi3c hN;subst hi3;refine Z 3 J (B5 J (B8 N0 J) ?_);intro b26 w26 hb26 hs26 hx26 hB26;refine B5 J (B8 J3 J) ?_;intro b27 w27 hb27 hs27 hx27 hB27;have hB26:=hB26.u hx27;refine Pe J9 J ‹_› J J ?_;intro w28 hs28 hx28 hB26;have hB27:=hB27.q hx28 (by simp;omega);refine Pe G5 J ‹_› J J ?_;intro w29 hs29 hx29 hB27;have hC:=hC.step ((((hx25.j hx26).j hx27).j hx28).j hx29) (by simp<;>omega);have hB1:=hB1.q ((((hx25.j hx26).j hx27).j hx28).j hx29) (by simp<;>omega);have hB2:=hB2.q ((((hx25.j hx26).j hx27).j hx28).j hx29) (by simp<;>omega);have hB3:=hB3.q ((((hx25.j hx26).j hx27).j hx28).j hx29) (by simp<;>omega);have hB26:=hB26.q hx29 (by simp;omega);refine Qc (Qa (Qd (Fa Ac7 J (Lb o3 J ‹_› (by rfl) ?_))))
      refine Zc 1 J (A4 J (fun e3=>?_) (fun e3=>?_))
      ·try simp at e3
       rw [Ek1 e3] at hN;refine Qa (C8 (S:=[b1]) 3 [(0,0),(0,1),(1,2),(2,3)] mo (by kernel_rfl) ?_);intro w30 hx30 hh30;have hB1:=hB1.u hx30;have hB27:=hB27.u hx30;have hCS30:=A8 ([b1]) w30;refine D6 J (D7 N0 Av2 J (by rfl)) ?_;refine D6 J (C1 F8 J ‹_› (by simp;omega) J J) ?_;refine H8 (G3 J9 J J ‹_› J J J J J) ?_;intro w31 hs31 hx31 hB1;have hB2:=hB2.q (hx30.j hx31) (by simp<;>omega);have hCS30:=hCS30.step hx31 (by simp;done);refine ⟨hCS30,?_⟩;refine Pe G5 J ‹_› J J ?_;intro w32 hs32 hx32 hB2;have hC:=hC.step ((hx30.j hx31).j hx32) (by simp<;>omega);have hB1:=hB1.q hx32 (by simp;omega);refine Qc (A6 (C7 J J (A5 J0 ‹_› J J) J (A5 F8 ‹_› J J) ?_));exact ⟨hC,by rw [hE,← hN,C6];rfl⟩
      ·try simp at e3
       have e3':ye=0:=by simpa using e3
       subst e3';rw [Ek0 (by simp)] at hN;simp only [Ek9] at hN;have hi4:=hi3b J;refine A7 (Qd (La J0 J ‹_› J J ?_));refine Ca fb199 J (Dv6 ys _) ?_;rintro _ w33 ⟨rfl,hx33⟩;have hC:=hC.s0 hx33;have hB1:=hB1.u hx33;have hB2:=hB2.u hx33;have hB3:=hB3.u hx33;have hB27:=hB27.u hx33;have hbr:=Bk0 ys;generalize Aa0 ys=b at*
       refine Zc 1 J (Qa (Qd (Zc 2 J (A4 J (fun f1=>?_) (fun f1=>?_)))))
       ·try simp at f1
        rw [Ek1 f1] at hN;refine Qd (C9 J (D7 N0 Av2 J (by rfl)) ?_);refine Z 1 J (Ad J J (by omega) (C9 J (B1 J3 M4 J (by rfl)) ?_));refine Pe J9 J ‹_› J J ?_;intro w34 hs34 hx34 hB1;have hB2:=hB2.q hx34 (by simp;omega);refine Pe G5 J ‹_› J J ?_;intro w35 hs35 hx35 hB2;have hC:=hC.step (hx34.j hx35) (by simp<;>omega);have hB1:=hB1.q hx35 (by simp;omega);refine Qc (A6 (C7 J J (A5 J0 ‹_› J J) J (A5 F8 ‹_› J J) ?_));exact ⟨hC,by rw [hE,← hN,C6];rfl⟩
       ·try simp at f1
        rw [Ek0 (by omega)] at hN
        refine A7 (Qa (Qd (Zc 3 J (A4 J (fun f2=>?_) (fun f2=>?_)))))
        ·try simp at f2
         rw [Ek1 f2] at hN;refine Qd (C9 J (D7 N0 Av2 J (by rfl)) ?_);refine Z 1 J (C9 J (B1 J3 M4 J (by rfl)) ?_);refine Pe J9 J ‹_› J J ?_;intro w36 hs36 hx36 hB1;have hB2:=hB2.q hx36 (by simp;omega);refine Pe G5 J ‹_› J J ?_;intro w37 hs37 hx37 hB2;have hC:=hC.step (hx36.j hx37) (by simp<;>omega);have hB1:=hB1.q hx37 (by simp;omega);refine Qc (A6 (C7 J J (A5 J0 ‹_› J J) J (A5 F8 ‹_› J J) ?_));exact ⟨hC,by rw [hE,← hN,C6];rfl⟩
        ·try simp at f2
         rw [Ek0 (by omega)] at hN;obtain ⟨a,rfl⟩:=Ep8 (show 0≤a by omega);obtain ⟨b,rfl⟩:=Ep8 (show 0≤b by omega);simp only [Ek9] at hN
         refine A7 (Qa (Qd (Zc 2 J (B2 (D8 (σ:=Nat) (fun c=>[(0,.string s),(1,.int .i64 at_),(4,.pointer (some ⟨b1,0,none⟩)),(5,.pointer (some ⟨b2,0,none⟩)),(7,.bool neg),(8,.slice (some ⟨b3,0,none⟩) 256 256),(16,.pointer (some ⟨b27,0,none⟩)),(17,.int .i64 (b:Nat)),(18,.int .i64 c)]) (fun c wr=>Chg [] w wr∧Blk wr b1 (C4 0) 70∧Blk wr b2 [.int .i64 0,.int .i64 0] 232∧Blk wr b3 (X4 (Bq8 (orS on xs 256) a c)) 4∧Blk wr b27 [.int .i64 (i3:Nat),.int .i64 0] 232∧a≤c∧c≤b+1) (fun c wr=>b+1 - c) a (sb J) ?_ ?_)))))
         ·exact ⟨hC,hB1,hB2,by rw [Do5 (on:=orS on xs 256) (K9 _ _ _)];exact hB3,hB27,El1 _,by omega⟩
         rintro c w6 ⟨hC,hB1,hB2,hB3,hB27,hca,hcb⟩
         refine Qa (Qd (Zc 3 J (A4 J (fun g1=>?_) (fun g1=>?_))))
         ·try simp at g1
          have hc2:c<256:=by omega
          refine A7 (Qa (B2 (Qb (Z 2 J (C9 J (B0 sl43 J J (by omega) (by omega)) (Pb (cs':=(X4 (Bq8 (orS on xs 256) a (c+1)))) sz4 J J hB3 J J J (by rw [O6,Ep4];unfold Bq8;rw [K9];omega) (by rw [Ek9,El6,Z9 _ _ _ (by rw [O6];unfold Bq8;rw [K9];exact hc2),show Bq8 (orS on xs 256) a (c+1)=(Bq8 (orS on xs 256) a c).set c (decide (a≤c)||(orS on xs 256).getD c false) from (Bg7 _ _ c).symm,El2 hca,Bool.true_or];unfold X4;rw [Et1]) ?_))))));intro w38 hs38 hx38 hB3;have hC:=hC.step hx38 (by simp;omega);have hB1:=hB1.q hx38 (by simp;omega);have hB2:=hB2.q hx38 (by simp;omega);have hB27:=hB27.q hx38 (by simp;omega);refine Qc (Qb (Z 1 J (Ad J J (by omega) (Zc 1 J ⟨c+1,sb J,?_,?_⟩))));exact ⟨hC,hB1,hB2,hB3,hB27,by omega,by omega⟩;show b+1 - (c+1)<b+1 - c;omega
         ·try simp at g1
          have hcc:c=b+1:=by omega
          subst hcc;refine Xb (Qb (Fa G4 J (Lb o3 J ‹_› (by rfl) ?_)));refine Zc 1 J (Qb (Zc 1 J ⟨(f,false,Bq8 (orS on xs 256) a (b+1),i3),sb J,?_,?_⟩));exact ⟨hC,hB1,hB2,hB3,K9 _ _ _,hN,by omega,by omega,fun h=>(by cases h),fun _=>by omega⟩;show f<f+1;omega
structure RTk where
 kind:Int
 frm:Int
 till:Int
 set:Nat
 mn:Int
 mx:Int
 lz:Bool
deriving Inhabited
def Av7 (t:RTk):List Value:=[.int .i64 t.kind,.int .i64 t.frm,.int .i64 t.till]++C4 t.set++[.int .i64 t.mn,.int .i64 t.mx,.bool t.lz]
def endC (x:Int × Int):List Value:=[.int .i64 x.1,.int .i64 x.2]
def Eg5:ByteArray:=⟨#[42,43,63,123]⟩
def Cf2 (L:List Nat) (t:RTk) (e:Int × Int):RTk × Int × Int:=
 if e.2≠0 then (t,e) else
 let i:=e.1.toNat
 let y:RTk × Nat:=if i<L.length∧L.getD i 0=63 then ({ t with lz:=true },i+1) else (t,i)
 (y.1,(y.2:Int),if y.2<L.length∧L.getD y.2 0=43 then 6 else 0)
def Cg6 (L:List Nat) (at_:Nat):RTk × Int × Int:=
 let c:=L.getD at_ 0
 let e:Int × Int:=((at_:Int)+1,0)
 let t:RTk:=⟨0,at_,0,0,0,0,false⟩
 if c=92 then let x:=Co2 L at_;({ t with set:=x.1 },x.2)
 else if c=91 then let x:=Ap3 L at_;({ t with set:=x.1 },x.2)
 else if c=40 then
  if at_+1<L.length∧L.getD (at_+1) 0=63 then ({ t with kind:=2 },if L.length≤at_+2∨L.getD (at_+2) 0≠58 then ((at_:Int),6) else ((at_:Int)+3,0))
  else ({ t with kind:=1 },e)
 else if c=41 then ({ t with kind:=3 },e)
 else if c=124 then ({ t with kind:=4 },e)
 else if c=46 then ({ t with set:=smS [(10,10)] true },e)
 else if c=94∨c=36 then (t,(at_:Int),6)
 else if c=93∨c=125 then (t,(at_:Int),4)
 else if c∉B6 Eg5 then ({ t with set:=smS [((c:Int),(c:Int))] false },e)
 else
  let t5:RTk:={ t with kind:=5,mx:= -1 }
  if c=43 then Cf2 L { t5 with mn:=1 } e
  else if c=63 then Cf2 L { t5 with mx:=1 } e
  else if c=123 then let b:=K0 L (at_+1);Cf2 L { t5 with mn:=b.1,mx:=b.2.1 } b.2.2
  else Cf2 L t5 e
def Z1 (L:List Nat):Nat→Nat→List RTk→List RTk × Int × Int
 |0,_,l=>(l,(l.length:Int),0)
 |f+1,at_,l=>
  if at_<L.length then
   let x:=Cg6 L at_
   if x.2.2≠0 then ([],x.2) else Z1 L f x.2.1.toNat (l++[{ x.1 with till:=x.2.1 }])
  else (l,(l.length:Int),0)
def K2 (L:List Nat):List RTk × Int × Int:=Z1 L (L.length+1) 0 []
theorem Bc5 (L:List Nat) (m n:Int) (i:Nat):∃ j:Nat,(L9 L m n i).2.2.1=(j:Int)∧j≤i+1:=by
 unfold L9
 by_cases h:L.length≤i∨L.getD i 0≠125
 ·rw [Ek1 h];exact ⟨i,rfl,by omega⟩
 ·rw [Ek0 h];exact ⟨i+1,by show (i:Int)+1=_;omega,by omega⟩
theorem Cz2 (L:List Nat) (hL:∀ b∈L,b<256) (at_:Nat):∃ j:Nat,(K0 L at_).2.2.1=(j:Int)∧j≤L.length+at_+3:=by
 obtain ⟨_,_,i,hi,_,hi2⟩:=S8 L hL at_;unfold K0;simp only [];generalize I9 L at_=a at*;obtain ⟨m,p,e⟩:=a;simp only [] at hi;subst hi;simp only [Ek9]
 by_cases h1:e≠0
 ·rw [Ek1 h1];exact ⟨i,rfl,by omega⟩
 rw [Ek0 h1]
 by_cases h2:i<L.length∧L.getD i 0=44
 ·rw [Ek1 h2]
  by_cases h3:L.length≤i+1∨L.getD (i+1) 0≠125
  ·rw [Ek1 h3];obtain ⟨_,_,k,hk,_,hk2⟩:=S8 L hL (i+1);generalize I9 L (i+1)=b at*;obtain ⟨m2,p2,e2⟩:=b;simp only [] at hk;subst hk;simp only [Ek9]
   by_cases h4:e2≠0
   ·rw [Ek1 h4];exact ⟨k,rfl,by omega⟩
   rw [Ek0 h4]
   by_cases h5:m2<m
   ·rw [Ek1 h5];exact ⟨i+1,by show (i:Int)+1=_;omega,by omega⟩
   rw [Ek0 h5];obtain ⟨j,hj,hj2⟩:=Bc5 L m m2 k;exact ⟨j,hj,by omega⟩
  ·rw [Ek0 h3];obtain ⟨j,hj,hj2⟩:=Bc5 L m (-1) (i+1);exact ⟨j,hj,by omega⟩
 ·rw [Ek0 h2];obtain ⟨j,hj,hj2⟩:=Bc5 L m m i;exact ⟨j,hj,by omega⟩
end Go.Clt
