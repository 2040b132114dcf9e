import Derived.Calls
import Derived.OrdersHeld
import Derived.Still
import Derived.Tactics
import Derived.Below
import Derived.Laws.AppendOwn
import Derived.Laws.Sem
import Derived.KernelRfl
import Derived.Laws.CopyRow
import Derived.Laws.Tables
import Derived.Laws.Entries
import Derived.Laws.IdiomRangeMap
import Derived.WalkKit
import Derived.Laws.CopyOwn
import Derived.Laws.MakeOwn
import Derived.Laws.Slices
import Derived.Maps.AppendAt
import Derived.Test.YtckdapbopihofaaGreatDoorProg
import Derived.Shelf.Strings.Builder1
import Derived.Shelf.Small.Strs
import Derived.Shelf.Strconv.Itoa0
import Derived.Shelf.Strconv.Itoa1
import Derived.Shelf.LaysM
import Derived.Shelf.Strconv.Itoa2
import Derived.Shelf.Strconv.Itoa3
import Derived.Shelf.Strings.Search1
import Derived.Shelf.Bits.Mul64
import Derived.Laws.Externs
/- The word of any place, any word's place, and the next one (WordsPlaces). A part of that proof: Base, Ops, Eff, Sl, Fork, Fill, Ali, Facts, Shelf, Lib, Sets, TokenP, TokenQ, Nat, Bytes, Token. Conditions: none beyond the statement's own. By an AI agent; no person has read it. -/
set_option linter.unusedVariables false
set_option linter.unusedSimpArgs false
set_option maxRecDepth 8000
set_option maxHeartbeats 4000000
namespace Go.Clt
theorem Ek0:type_of% @if_neg:= @if_neg
theorem Ek1:type_of% @if_pos:= @if_pos
theorem Ek2:type_of% @List.getD_eq_getElem?_getD:= @List.getD_eq_getElem?_getD
theorem Ek3:type_of% @List.mem_singleton:= @List.mem_singleton
theorem Ek4:type_of% @List.getElem?_eq_getElem:= @List.getElem?_eq_getElem
theorem Ek5:type_of% @List.length_append:= @List.length_append
theorem Ek6:type_of% @Bool.and_eq_true:= @Bool.and_eq_true
theorem Ek7:type_of% @List.cons_append:= @List.cons_append
theorem Ek8:type_of% @List.nil_append:= @List.nil_append
theorem Ek9:type_of% @Int.toNat_natCast:= @Int.toNat_natCast
theorem El0:type_of% @Nat.zero_le:= @Nat.zero_le
theorem El1:type_of% @Nat.le_refl:= @Nat.le_refl
theorem El2:type_of% @decide_eq_true:= @decide_eq_true
theorem El3:type_of% @decide_eq_false:= @decide_eq_false
theorem El4:type_of% @Bool.eq_iff_iff:= @Bool.eq_iff_iff
theorem El5:type_of% @List.getElem?_eq_none:= @List.getElem?_eq_none
theorem El6:type_of% @Nat.zero_add:= @Nat.zero_add
theorem El7:type_of% @decide_eq_true_iff:= @decide_eq_true_iff
theorem El8:type_of% @List.getElem?_map:= @List.getElem?_map
theorem El9:type_of% @List.getD_cons_succ:= @List.getD_cons_succ
theorem Em0:type_of% @decide_eq_true_eq:= @decide_eq_true_eq
theorem Em1:type_of% @List.mem_cons_self:= @List.mem_cons_self
theorem Em2:type_of% @List.getElem?_append_right:= @List.getElem?_append_right
theorem Em3:type_of% @Nat.add_assoc:= @Nat.add_assoc
theorem Em4:type_of% @List.ext_getElem?:= @List.ext_getElem?
theorem Em5:type_of% @List.getElem?_eq_some_iff:= @List.getElem?_eq_some_iff
theorem Em6:type_of% @List.getElem?_append_left:= @List.getElem?_append_left
theorem Em7:type_of% @List.getElem?_range:= @List.getElem?_range
theorem Em8:type_of% @List.mem_cons_of_mem:= @List.mem_cons_of_mem
theorem Em9:type_of% @List.mem_range:= @List.mem_range
theorem En0:type_of% @List.take_of_length_le:= @List.take_of_length_le
theorem En1:type_of% @List.getElem?_set:= @List.getElem?_set
theorem En2:type_of% @List.length_cons:= @List.length_cons
theorem En3:type_of% @List.map_cons:= @List.map_cons
theorem En4:type_of% @Option.map_some:= @Option.map_some
theorem En5:type_of% @List.length_replicate:= @List.length_replicate
theorem En6:type_of% @Nat.le_trans:= @Nat.le_trans
theorem En7:type_of% @List.mem_append:= @List.mem_append
theorem En8:type_of% @Nat.mul_one:= @Nat.mul_one
theorem En9:type_of% @List.foldl_append:= @List.foldl_append
theorem Eo0:type_of% @List.flatMap_cons:= @List.flatMap_cons
theorem Eo1:type_of% @Option.getD_some:= @Option.getD_some
theorem Eo2:type_of% @List.length_map:= @List.length_map
theorem Eo3:type_of% @Array.getD_eq_getD_getElem?:= @Array.getD_eq_getD_getElem?
theorem Eo4:type_of% @List.mem_cons:= @List.mem_cons
theorem Eo5:type_of% @Array.getElem?_eq_some_iff:= @Array.getElem?_eq_some_iff
theorem Eo6:type_of% @List.take_length:= @List.take_length
theorem Eo7:type_of% @of_decide_eq_true:= @of_decide_eq_true
theorem Eo8:type_of% @List.map_append:= @List.map_append
theorem Eo9:type_of% @List.mem_map:= @List.mem_map
theorem Ep0:type_of% @List.length_singleton:= @List.length_singleton
theorem Ep1:type_of% @List.append_nil:= @List.append_nil
theorem Ep2:type_of% @List.getElem?_mapIdx:= @List.getElem?_mapIdx
theorem Ep3:type_of% @List.take_succ_cons:= @List.take_succ_cons
theorem Ep4:type_of% @Nat.ble_eq:= @Nat.ble_eq
theorem Ep5:type_of% @Nat.mod_lt:= @Nat.mod_lt
theorem Ep6:type_of% @Option.isSome_iff_exists:= @Option.isSome_iff_exists
theorem Ep7:type_of% @List.range_succ:= @List.range_succ
theorem Ep8:type_of% @Int.eq_ofNat_of_zero_le:= @Int.eq_ofNat_of_zero_le
theorem Ep9:type_of% @List.take_add_one:= @List.take_add_one
theorem Eq0:type_of% @List.set_eq_take_append_cons_drop:= @List.set_eq_take_append_cons_drop
theorem Eq1:type_of% @List.foldl_cons:= @List.foldl_cons
theorem Eq2:type_of% @List.take_succ_eq_append_getElem:= @List.take_succ_eq_append_getElem
theorem Eq3:type_of% @List.map_congr_left:= @List.map_congr_left
theorem Eq4:type_of% @List.length_range:= @List.length_range
theorem Eq5:type_of% @List.filter_append:= @List.filter_append
theorem Eq6:type_of% @List.eq_nil_of_length_eq_zero:= @List.eq_nil_of_length_eq_zero
theorem Eq7:type_of% @Nat.lt_or_ge:= @Nat.lt_or_ge
theorem Eq8:type_of% @List.foldl_nil:= @List.foldl_nil
theorem Eq9:type_of% @Option.bind_eq_some_iff:= @Option.bind_eq_some_iff
theorem Er0:type_of% @Nat.testBit_mod_two_pow:= @Nat.testBit_mod_two_pow
theorem Er1:type_of% @List.any_eq_true:= @List.any_eq_true
theorem Er2:type_of% @List.mem_iff_getElem:= @List.mem_iff_getElem
theorem Er3:type_of% @Bool.false_or:= @Bool.false_or
theorem Er4:type_of% @List.mem_filter:= @List.mem_filter
theorem Er5:type_of% @List.all_eq_true:= @List.all_eq_true
theorem Er6:type_of% @Nat.lt_succ_self:= @Nat.lt_succ_self
theorem Er7:type_of% @Bool.false_eq_true:= @Bool.false_eq_true
theorem Er8:type_of% @Prod.mk.injEq:= @Prod.mk.injEq
theorem Er9:type_of% @Nat.eq_of_testBit_eq:= @Nat.eq_of_testBit_eq
theorem Es0:type_of% @List.take_zero:= @List.take_zero
theorem Es1:type_of% @List.getElem?_cons_succ:= @List.getElem?_cons_succ
theorem Es2:type_of% @List.length_eq_zero_iff:= @List.length_eq_zero_iff
theorem Es3:type_of% @Nat.testBit_div_two_pow:= @Nat.testBit_div_two_pow
theorem Es4:type_of% @List.getElem?_replicate:= @List.getElem?_replicate
theorem Es5:type_of% @List.replicate_succ:= @List.replicate_succ
theorem Es6:type_of% @List.flatten_append:= @List.flatten_append
theorem Es7:type_of% @Option.map_eq_some_iff:= @Option.map_eq_some_iff
theorem Es8:type_of% @Nat.succ_mul:= @Nat.succ_mul
theorem Es9:type_of% @List.length_filter_le:= @List.length_filter_le
theorem Et0:type_of% @Array.getElem?_eq_getElem:= @Array.getElem?_eq_getElem
theorem Et1:type_of% @List.map_set:= @List.map_set
theorem Et2:type_of% @List.getElem?_cons_zero:= @List.getElem?_cons_zero
theorem Et3:type_of% @Nat.mod_eq_of_lt:= @Nat.mod_eq_of_lt
theorem Et4:type_of% @List.filter_cons:= @List.filter_cons
theorem Et5:type_of% @List.length_take:= @List.length_take
theorem Et6:type_of% @Nat.lt_of_lt_of_le:= @Nat.lt_of_lt_of_le
theorem Et7:type_of% @of_decide_eq_false:= @of_decide_eq_false
theorem Et8:type_of% @List.length_set:= @List.length_set
theorem Et9:type_of% @List.eq_replicate_iff:= @List.eq_replicate_iff
theorem Eu0:type_of% @not_or:= @not_or
theorem Eu1:type_of% @Bool.eq_false_iff:= @Bool.eq_false_iff
theorem Eu2:type_of% @List.drop_eq_getElem_cons:= @List.drop_eq_getElem_cons
theorem Eu3:type_of% @Nat.lt_trans:= @Nat.lt_trans
theorem Eu4:type_of% @List.mem_reverse:= @List.mem_reverse
theorem Eu5:type_of% @Bool.true_and:= @Bool.true_and
theorem Eu6:type_of% @List.length_nil:= @List.length_nil
theorem Eu7:type_of% @List.cons.injEq:= @List.cons.injEq
theorem Eu8:type_of% @List.nodup_cons:= @List.nodup_cons
theorem Eu9:type_of% @Nat.zero_mul:= @Nat.zero_mul
theorem Ev0:type_of% @Nat.sub_self:= @Nat.sub_self
theorem Ev1:type_of% @Nat.add_zero:= @Nat.add_zero
theorem J{α:Sort _}{a:α}:a=a:=rfl
end Go.Clt
section
namespace Go.Clt
open Go
theorem Eh3 {i d:Nat} (h:¬ i=d):Nat.beq i d=false:=by
 cases hb:Nat.beq i d with
 |false=>rfl
 |true=>exact absurd (Nat.eq_of_beq_eq_true hb) h
abbrev Env:=List (Nat × Value)
def lk:Env→Nat→Option Value
 |[],_=>none
 |(j,v)::r,i=>cond (Nat.beq i j) (some v) (lk r i)
def ev (e:Env):Operand→Option Value
 | .tmp t=>lk e t
 | .const v=>some v
 | .global g=>some (.pointer (some ⟨g,0,none⟩))
 | .func f=>some (.func (.func f) #[] #[])
theorem G2 {e:Env} {i:Nat} {k:IntKind} {a b:Int} (h:lk e i=some (.int k a)) (hab:a=b):lk e i=some (.int k b):=by rw [h,hab]
theorem H3 {e:Env} {i:Nat} {a b:Bool} (h:lk e i=some (.bool a)) (hab:a=b):lk e i=some (.bool b):=by rw [h,hab]
theorem R0 {e:Env} {i:Nat} {a b:Value} (h:lk e i=some a) (hab:a=b):lk e i=some b:=by rw [h,hab]
structure Rep (n:Nat) (a:Act) (e:Env):Prop where
 size:a.tmps.size=n
 get:∀ i v,lk e i=some v→a.tmps.getD i undef=v
 defers:a.defers=[]
theorem Rep.ev {n:Nat} {a:Act} {e:Env} (h:Rep n a e) {x:Operand} {v:Value} (hx:ev e x=some v):a.eval x=v:=by
 cases x with
 |tmp t=>exact h.get t v hx
 |const u=>exact Option.some.inj hx
 |global g=>exact Option.some.inj hx
 |func f=>exact Option.some.inj hx
theorem Rep.put {n:Nat} {a:Act} {e:Env} (h:Rep n a e) (d:Nat) (v:Value) (hd:Nat.blt d n=true):Rep n (a.put (some d) v) ((d,v)::e):=by
 have hd':d<n:=by simpa [Nat.blt_eq] using hd
 refine ⟨by simp [Act.put,h.size],fun i u hi=>?_,by simp [Act.put,h.defers]⟩;simp only [lk] at hi
 by_cases hid:i=d
 ·subst hid;simp at hi;subst hi;simp [Act.put,h.size,hd']
 ·have hb:=Eh3 hid;rw [hb] at hi;have:=h.get i u hi
  simpa [Act.put,Array.getElem?_setIfInBounds_ne (Ne.symm hid)] using this
def Sub:Env→Env→Prop
 |[],_=>True
 |(j,v)::r,e=>lk e j=some v∧Sub r e
theorem Sub.get {e' e:Env} (h:Sub e' e):∀ i v,lk e' i=some v→lk e i=some v:=by
 induction e' with
 |nil=>intro i v hi;simp [lk] at hi
 |cons p r ih=>
  intro i v hi;simp only [lk] at hi
  cases hb:Nat.beq i p.1 with
  |true=>
   rw [hb] at hi;have:i=p.1:=by simpa using hb
   subst this;simp at hi;subst hi;exact h.1
  |false=>rw [hb] at hi;exact ih h.2 i v hi
theorem Rep.sub {n:Nat} {a:Act} {e e':Env} (h:Rep n a e) (hs:Sub e' e):Rep n a e':=⟨h.size,fun i v hi=>h.get i v (hs.get i v hi),h.defers⟩
def Cq1:List Value→Nat→Env
 |[],_=>[]
 |v::r,i=>(i,v)::Cq1 r (i+1)
theorem Ea5 (l:List Value):∀ (k i:Nat) (v:Value),lk (Cq1 l k) i=some v→k≤i∧l[i - k]?=some v:=by
 induction l with
 |nil=>intro k i v h;simp [Cq1,lk] at h
 |cons u r ih=>
  intro k i v h;simp only [Cq1,lk] at h
  by_cases hik:i=k
  ·subst hik;simp at h;subst h;exact ⟨El1 _,by simp⟩
  ·have hb:=Eh3 hik;rw [hb] at h;obtain ⟨h1,h2⟩:=ih (k+1) i v h;refine ⟨by omega,?_⟩;have:i - k=(i - (k+1))+1:=by omega
   rw [this,Es1];exact h2
section
variable {P:Program} {n:Nat}
def Cj5 (n:Nat) (N:Env→World→Prop) (B:Nat→Env→World→Prop) (R:Env→World→Prop):Exit→Act→World→Prop
 | .normal,a,w=>∃ e,Rep n a e∧N e w
 | .exit k,a,w=>∃ e,Rep n a e∧B k e w
 | .ret,a,w=>∃ e,Rep n a e∧R e w
 |_,_,_=>False
def EW (P:Program) (n:Nat) (c:Code) (N:Env→World→Prop) (B:Nat→Env→World→Prop) (R:Env→World→Prop) (e:Env) (w:World):Prop:=
 ∀ a,Rep n a e→c.wp P (Cj5 n N B R) a w
variable {N:Env→World→Prop} {B:Nat→Env→World→Prop} {R:Env→World→Prop} {e:Env} {w:World}
theorem I2 {c:Code} (e':Env) (hs:Sub e' e) (h:EW P n c N B R e' w):EW P n c N B R e w:=fun a ha=>h a (ha.sub hs)
theorem Ej2 {x y:Code} (h:EW P n x (fun e w=>EW P n y N B R e w) B R e w):EW P n (.seq x y) N B R e w:=fun a ha=>
 wp_seq (Code.wp_mono (fun ex a' w' hq=>by
  cases ex with
  |normal=>obtain ⟨e',he',hN⟩:=hq;exact hN a' he'
  |_=>exact hq) (h a ha))
theorem A7 (h:N e w):EW P n .skip N B R e w:=fun a ha=>wp_skip ⟨e,ha,h⟩
theorem A6 (h:R e w):EW P n .ret N B R e w:=fun a ha=>wp_ret ⟨e,ha,h⟩
theorem Av4 {k:Nat} (h:B k e w):EW P n (.exit k) N B R e w:=fun a ha=>wp_exit ⟨e,ha,h⟩
def brk (id:Nat) (N:Env→World→Prop) (B:Nat→Env→World→Prop) (k:Nat) (e:Env) (w:World):Prop:=cond (Nat.beq k id) (N e w) (B k e w)
theorem B2 {id:Nat} {c:Code} (h:EW P n c N (brk id N B) R e w):EW P n (.block id c) N B R e w:=fun a ha=>
 wp_block (Code.wp_mono (fun ex a' w' hq=>by
  cases ex with
  |exit k=>
   obtain ⟨e',he',hB⟩:=hq;simp only [Exit.inBlock,brk] at hB ⊢
   by_cases hk:k=id
   ·subst hk;simp at hB ⊢;exact ⟨e',he',hB⟩
   ·have hb:=Eh3 hk;rw [hb] at hB;simp only [cond_false] at hB;rw [Ek0 hk];exact ⟨e',he',hB⟩
  |_=>exact hq) (h a ha))
theorem Aj3 {id:Nat} (h:N e w):brk id N B id e w:=by unfold brk;simp;exact h
theorem Ar0 {k id:Nat} (hk:Nat.beq k id=false) (h:B k e w):brk id N B k e w:=by unfold brk;rw [hk];exact h
theorem A4 {c:Operand} {x y:Code} {t:Bool} (hc:ev e c=some (.bool t)) (h1:t=true→EW P n x N B R e w) (h2:t=false→EW P n y N B R e w):EW P n (.cond c x y) N B R e w:=fun a ha=>
 wp_cond_split (ha.ev hc) (fun ht=>h1 ht a ha) (fun ht=>h2 ht a ha)
theorem E3 {c:Operand} {x y:Code} (hc:ev e c=some (.bool true)) (h1:EW P n x N B R e w):EW P n (.cond c x y) N B R e w:=A4 hc (fun _=>h1) (fun h=>by cases h)
theorem E4 {c:Operand} {x y:Code} (hc:ev e c=some (.bool false)) (h1:EW P n y N B R e w):EW P n (.cond c x y) N B R e w:=A4 hc (fun h=>by cases h) (fun _=>h1)
theorem EW.mono {c:Code} {N':Env→World→Prop} {B':Nat→Env→World→Prop} {R':Env→World→Prop} (hN:∀ e w,N e w→N' e w) (hB:∀ k e w,B k e w→B' k e w) (hR:∀ e w,R e w→R' e w) (h:EW P n c N B R e w):EW P n c N' B' R' e w:=fun a ha=>
 Code.wp_mono (fun ex a' w' hq=>by
  cases ex with
  |normal=>obtain ⟨e',he',hN'⟩:=hq;exact ⟨e',he',hN _ _ hN'⟩
  |exit k=>obtain ⟨e',he',hN'⟩:=hq;exact ⟨e',he',hB _ _ _ hN'⟩
  |ret=>obtain ⟨e',he',hN'⟩:=hq;exact ⟨e',he',hR _ _ hN'⟩
  |_=>exact hq) (h a ha)
theorem I3 {x y:Code} (M:Env→World→Prop) (h:EW P n x M B R e w) (h2:∀ e w,M e w→EW P n y N B R e w):EW P n (.seq x y) N B R e w:=
 Ej2 (EW.mono h2 (fun _ _ _ h=>h) (fun _ _ h=>h) h)
theorem D8 {c:Code} {σ:Type} (E:σ→Env) (I:σ→World→Prop) (μ:σ→World→Nat) (s0:σ) (hs:Sub (E s0) e) (h0:I s0 w)
  (round:∀ s w,I s w→EW P n c (fun e' w'=>∃ s',Sub (E s') e'∧I s' w'∧μ s' w'<μ s w) B R (E s) w):EW P n (.loop c) N B R e w:=by
 intro a ha b k cs
 have key:∀ m s w,μ s w=m→I s w→∀ a,Rep n a (E s)→∃ ex a' w',Cj5 n N B R ex a' w'∧Arrives P (lone (b.at a (.code c:: .inLoop c::k)) cs w) b k cs ex a' w':=by
  intro m
  induction m using Nat.strongRecOn with
  |_ m ih=>
   intro s w hm hI a ha;obtain ⟨ex,a1,w1,hq,harr⟩:=round s w hI a ha b (.inLoop c::k) cs
   cases ex with
   |normal=>
    obtain ⟨e',he',s',hs',hI',hlt⟩:=hq;obtain ⟨ex2,a2,w2,hq2,harr2⟩:=ih (μ s' w1) (by omega) s' w1 rfl hI' a1 (he'.sub hs');exact ⟨ex2,a2,w2,hq2,.of_steps (Steps.trans harr (.one step_inLoop)) harr2⟩
   |exit j=>exact ⟨.exit j,a1,w1,hq,.pass (x:=.inLoop c) rfl (fun _ _=>.inl (by simp)) harr⟩
   |ret=>exact ⟨.ret,a1,w1,hq,.pass (x:=.inLoop c) rfl (fun _ _=>.inl (by simp)) harr⟩
   |_=>exact hq.elim
 obtain ⟨ex,a',w',hq,harr⟩:=key _ s0 w rfl h0 a (ha.sub hs);exact ⟨ex,a',w',hq,.of_steps (.one step_loop) harr⟩
end
section
variable {P:Program} {ops:Array Oper} {Q:Exit→Act→World→Prop} {md:Region.Mode} {S:World→Prop} {tl:Nat}
def Aj9 (P:Program) (md:Region.Mode) (ops:Array Oper) (Q:Exit→Act→World→Prop) (S:World→Prop) (tl:Nat):Nat→Array Bool→Act→World→Prop
 |0,listed,a,w=>Region.ready md ops listed=[]∧Q .normal a w
 |fuel+1,listed,a,w=>
  (Region.ready md ops listed=[]→Q .normal a w)∧
  ∀ i∈Region.ready md ops listed,wpOp P ops Q i (fun a' w'=>(i<tl→S w')∧Aj9 P md ops Q S tl fuel (listed.setIfInBounds i true) a' w') a w
theorem Ba6:∀ (fuel:Nat) (listed:Array Bool) (a:Act) (w:World),Aj9 P md ops Q S tl fuel listed a w→wpAny P md ops Q fuel listed a w
 |0,_,_,_,h=>h
 |fuel+1,_,_,_,h=>⟨h.1,fun i hi=>wpOp_mono (fun a' w' h'=>Ba6 fuel _ a' w' h'.2) (h.2 i hi)⟩
def Bb2 (md:Region.Mode) (ops:Array Oper) (j:Nat):List Nat:=((ops[j]?).map fun o=>(o.after.toList.filter (Region.binds md)).map (·.on)).getD []
def Cp1 (md:Region.Mode) (ops:Array Oper):Nat→List Nat→List Nat
 |0,l=>l
 |f+1,l=>Cp1 md ops f (l++l.flatMap (Bb2 md ops)).eraseDups
def tailF (md:Region.Mode) (ops:Array Oper) (F tl:Nat):Bool:=
 (List.range ops.size).all fun j=>decide (j<tl)||(let c:=Cp1 md ops F (Bb2 md ops j);(List.range tl).all fun i=>c.contains i)
def Cs9 (md:Region.Mode) (ops:Array Oper) (tl:Nat):Bool:=tailF md ops 9 tl
def Closed (md:Region.Mode) (ops:Array Oper) (listed:Array Bool):Prop:=∀ k,listed.getD k false=true→∀ o,ops[k]?=some o→∀ e∈o.after,Region.binds md e=true→listed.getD e.on false=true
theorem Bk7 {k j:Nat} (h:k∈Bb2 md ops j):∃ o,ops[j]?=some o∧∃ e∈o.after,Region.binds md e=true∧e.on=k:=by
 unfold Bb2 at h
 cases ho:ops[j]? with
 |none=>rw [ho] at h;simp at h
 |some o=>
  rw [ho] at h;simp only [En4,Eo1,Eo9,Er4] at h;obtain ⟨e,⟨h1,h2⟩,h3⟩:=h;exact ⟨o,rfl,e,by simpa using h1,h2,h3⟩
theorem Az5 {listed:Array Bool} (hc:Closed md ops listed):∀ (f:Nat) (l:List Nat),(∀ k∈l,listed.getD k false=true)→∀ k∈Cp1 md ops f l,listed.getD k false=true
 |0,l,h=>h
 |f+1,l,h=>Az5 hc f _ fun k hk=>by
  rw [List.mem_eraseDups,En7,List.mem_flatMap] at hk
  rcases hk with hk|⟨j,hj,hk⟩
  ·exact h k hk
  ·obtain ⟨o,ho,e,he,hb,rfl⟩:=Bk7 hk;exact hc j (h j hj) o ho e he hb
theorem Cs8 {F:Nat} (h:tailF md ops F tl=true) {listed:Array Bool} (hc:Closed md ops listed) {i j:Nat} {oj:Oper} (hi:i<tl) (hj:¬ j<tl) (ho:ops[j]?=some oj) (hall:∀ e∈oj.after,Region.binds md e=true→listed.getD e.on false=true):listed.getD i false=true:=by
 have hlt:j<ops.size:=(Eo5.1 ho).1;unfold tailF at h;rw [Er5] at h;have h1:=h j (Em9.2 hlt);simp only [hj,decide_false,Er3] at h1;rw [Er5] at h1;have h2:=h1 i (Em9.2 hi)
 have hL:∀ k∈Cp1 md ops F (Bb2 md ops j),listed.getD k false=true:=by
  refine Az5 hc F _ (fun k hk=>?_);obtain ⟨o,ho',e,he,hb,rfl⟩:=Bk7 hk;rw [ho] at ho';injection ho' with ho'
  subst ho';exact hall e he hb
 generalize Cp1 md ops F (Bb2 md ops j)=L at h2 hL;exact hL i (List.contains_iff_mem.1 h2)
theorem Closed.add {listed:Array Bool} (hc:Closed md ops listed) {j:Nat} {oj:Oper} (ho:ops[j]?=some oj) (hall:∀ e∈oj.after,Region.binds md e=true→listed.getD e.on false=true):Closed md ops (listed.setIfInBounds j true):=by
 intro k hk o hok e he hb
 by_cases hkj:k=j
 ·subst hkj;rw [ho] at hok;injection hok with hok
  subst hok;exact getD_set_true (hall e he hb)
 ·rw [getD_set_ne false (Ne.symm hkj)] at hk;exact getD_set_true (hc k hk o hok e he hb)
theorem Bd2 {i:Nat} {oi:Oper} {v:Value} (hi:ops[i]?=some oi) (hsel:∀ (j:Nat) (o:Oper) cs b,ops[j]?=some o→o.op≠ .select cs b)
  (hQ:∀ c a w,Q (.panic c) (a.put oi.dst v) w→Q (.panic c) a w) (ht:Cs9 md ops tl=true) (hit:i<tl):
  ∀ (fuel:Nat) (listed:Array Bool) (a:Act) (w:World),Closed md ops listed→
   (∀ j oj,ops[j]?=some oj→j≠i→listed.getD j true=false→(∀ e∈oj.after,Region.binds md e=true→e.on≠i)→oi.apart ops oj=true)→
   i∈Region.ready md ops listed→YieldsIf P ops S oi v a→S w→
   Aj9 P md ops Q S tl fuel (listed.setIfInBounds i true) (a.put oi.dst v) w→Aj9 P md ops Q S tl (fuel+1) listed a w:=by
 intro fuel
 induction fuel with
 |zero=>
  intro listed a w hcl _ hr hy hS H;refine ⟨fun h=>(by rw [h] at hr;cases hr),fun j hj=>?_⟩
  by_cases hji:j=i
  ·subst hji;exact hy.wpOp hi hS ⟨fun _=>hS,H⟩
  ·have:=ready_mono hj hji;rw [H.1] at this
   cases this
 |succ fuel ih=>
  intro listed a w hcl hfree hr hy hS H;refine ⟨fun h=>(by rw [h] at hr;cases hr),fun j hj=>?_⟩
  by_cases hji:j=i
  ·subst hji;exact hy.wpOp hi hS ⟨fun _=>hS,H⟩
  ·have h1:=H.2 j (ready_mono hj hji);obtain ⟨hjun,oj,hoj,hall⟩:=mem_ready.1 hj
   have hnot:∀ e∈oj.after,Region.binds md e=true→e.on≠i:=fun e he hb heq=>by
    have h1:=hall e he hb;have h0:=(mem_ready.1 hr).1;rw [heq] at h1
    rcases Eq7 i listed.size with h'|h'
    ·simp [h'] at h0 h1;rw [h0] at h1;cases h1
    ·simp [Array.getElem?_eq_none h'] at h1
   have hjt:j<tl:=by
    rcases Eq7 j tl with h|h
    ·exact h
    ·have h1:=Cs8 (show tailF md ops 9 tl=true from ht) hcl hit (Nat.not_lt.2 h) hoj hall;have h0:=(mem_ready.1 hr).1
     rcases Eq7 i listed.size with h'|h'
     ·simp [h'] at h0 h1;rw [h0] at h1;cases h1
     ·simp [Array.getElem?_eq_none h'] at h1
   have h2:=wpOp_putIf hoj (hfree j oj hoj hji hjun hnot) (fun cs b=>hsel i oi cs b hi) (fun cs b=>hsel j oj cs b hoj) hQ hy h1
   have hfree':∀ k ok,ops[k]?=some ok→k≠i→(listed.setIfInBounds j true).getD k true=false→
     (∀ e∈ok.after,Region.binds md e=true→e.on≠i)→oi.apart ops ok=true:=fun k ok hk hki hun hno=>by
    refine hfree k ok hk hki ?_ hno
    by_cases hjk:j=k
    ·subst hjk;exact hjun
    ·rw [getD_set_ne true hjk] at hun;exact hun
   refine wpOp_mono (fun a' w' h3=>⟨h3.2.1,ih (listed.setIfInBounds j true) a' w' (hcl.add hoj hall) hfree' (ready_mono hr (Ne.symm hji)) h3.1 (h3.2.1 hjt) ?_⟩) h2;rw [Array.setIfInBounds_comm _ _ hji];exact h3.2.2
def wpO (P:Program) (ops:Array Oper) (Q:Exit→Act→World→Prop) (o:Oper) (K:Act→World→Prop) (a:Act) (w:World):Prop:=
 if Region.wanted o (yielded ops a.tmps) then o.wp P a w K Q∨(o.asks P a w∧LetsOut Q) else K (a.put o.dst undef) w
theorem Ah5 {i:Nat} {o:Oper} (hi:ops[i]?=some o) {K:Act→World→Prop} {a:Act} {w:World} (h:wpO P ops Q o K a w):wpOp P ops Q i K a w:=by
 unfold wpOp;simp only [hi];exact h
def N3 (P:Program) (ops:Array Oper) (S:World→Prop) (Q:Exit→Act→World→Prop):List (Nat × Oper)→Act→World→Prop
 |[],a,w=>Q .normal a w
 |(0,o)::r,a,w=>∃ v,YieldsIf P ops S o v a∧N3 P ops S Q r (a.put o.dst v) w
 |(1,o)::r,a,w=>wpO P ops Q o (fun a' w'=>S w'∧N3 P ops S Q r a' w') a w
 |(_+2,o)::r,a,w=>wpO P ops Q o (fun a' w'=>N3 P ops S Q r a' w') a w
def Cu0 (md:Region.Mode) (ops:Array Oper) (tl:Nat):List (Nat × Nat)→Array Bool→Bool
 |[],listed=>(Region.ready md ops listed).isEmpty
 |(k,i)::r,listed=>
  (match k with
   |0=>decide (i<tl) && (Region.ready md ops listed).contains i && Region.free md ops listed i
   |1=>decide (i<tl) && (Region.ready md ops listed==[i])
   |_=>decide (tl≤i) && (Region.ready md ops listed==[i]) && r.all fun p=>decide (tl≤p.2)) && Cu0 md ops tl r (listed.setIfInBounds i true)
def Bz9 (ops:Array Oper) (l:List (Nat × Nat)):List (Nat × Oper):=l.map fun p=>(p.1,ops.getD p.2 default)
theorem Ag3 (hs:Region.noSelect ops=true) (ht:Cs9 md ops tl=true) (hQ:∀ c a w,¬ Q (.panic c) a w):∀ (l:List (Nat × Nat)) (listed:Array Bool) (a:Act) (w:World),
  Closed md ops listed→Cu0 md ops tl l listed=true→(S w∨∀ p∈l,tl≤p.2)→N3 P ops S Q (Bz9 ops l) a w→Aj9 P md ops Q S tl l.length listed a w
 |[],listed,a,w,_,hB,_,h=>⟨by simpa [Cu0] using hB,h⟩
 |(k,i)::r,listed,a,w,hcl,hB,hS,h=>by
  simp only [Cu0,Ek6] at hB;obtain ⟨hk,hB⟩:=hB;have hget:∀ {o:Oper},ops[i]?=some o→ops.getD i default=o:=fun {o} ho=>by simp [ho]
  match k,hk,h with
  |0,hk,h=>
   simp only [Ek6,Em0] at hk;obtain ⟨⟨hit,hr⟩,hf⟩:=hk;have hr':i∈Region.ready md ops listed:=by simpa using hr
   obtain ⟨_,o,ho,hall⟩:=mem_ready.1 hr';simp only [Bz9,En3,N3,hget ho] at h;obtain ⟨v,hy,h⟩:=h;have hSw:S w:=hS.resolve_right fun hall=>by have:=hall (0,i) (Em1 ..);simp only at this;omega
   exact Bd2 ho (Region.noSelect_spec hs) (fun c a w hq=>absurd hq (hQ c _ w)) ht hit r.length listed a w hcl (Region.free_spec ho hf) hr' hy hSw
    (Ag3 hs ht hQ r _ _ _ (hcl.add ho hall) hB (.inl hSw) h)
  |1,hk,h=>
   simp only [Ek6,Em0,beq_iff_eq] at hk;obtain ⟨hit,hr⟩:=hk;have hr':i∈Region.ready md ops listed:=by simp [hr]
   obtain ⟨_,o,ho,hall⟩:=mem_ready.1 hr';simp only [Bz9,En3,N3,hget ho] at h;refine ⟨fun h0=>(by rw [hr] at h0;cases h0),fun j hj=>?_⟩;have hji:j=i:=by simpa [hr] using hj
   rw [hji];exact wpOp_mono (fun a' w' h'=>⟨fun _=>h'.1,Ag3 hs ht hQ r _ _ _ (hcl.add ho hall) hB (.inl h'.1) h'.2⟩) (Ah5 ho h)
  |k+2,hk,h=>
   simp only [Ek6,Em0,beq_iff_eq,Er5] at hk;obtain ⟨⟨hit,hr⟩,hrest⟩:=hk;have hr':i∈Region.ready md ops listed:=by simp [hr]
   obtain ⟨_,o,ho,hall⟩:=mem_ready.1 hr';simp only [Bz9,En3,N3,hget ho] at h;refine ⟨fun h0=>(by rw [hr] at h0;cases h0),fun j hj=>?_⟩;have hji:j=i:=by simpa [hr] using hj
   rw [hji];exact wpOp_mono (fun a' w' h'=>⟨fun hlt=>absurd hlt (by omega),Ag3 hs ht hQ r _ _ _ (hcl.add ho hall) hB (.inr hrest) h'⟩) (Ah5 ho h)
theorem Bb6:∀ (l:List Oper) (a:Act) (w:World),N3 P ops S Q (l.map fun o=>(2,o)) a w→wpList P ops Q l a w
 |[],_,_,h=>h
 |o::l,a,w,h=>by
  simp only [En3,N3,wpO] at h;unfold wpList
  split
  ·rename_i hw
   rw [Ek1 hw] at h;exact h.imp (Oper.wp_mono fun a' w' h'=>Bb6 l a' w' h') id
  ·rename_i hw
   rw [Ek0 hw] at h;exact Bb6 l _ _ h
end
section
variable {P:Program} {n:Nat} {ops:Array Oper} {S:World→Prop} {N:Env→World→Prop} {B:Nat→Env→World→Prop} {R:Env→World→Prop} {e:Env} {w:World}
def EP (P:Program) (n:Nat) (ops:Array Oper) (S:World→Prop) (N:Env→World→Prop) (B:Nat→Env→World→Prop) (R:Env→World→Prop) (l:List (Nat × Oper)) (e:Env) (w:World):Prop:=
 ∀ a,Rep n a e→N3 P ops S (Cj5 n N B R) l a w
theorem EW.reg {id:Nat} {l:List Oper} (h:EP P n l.toArray (fun _=>True) N B R (l.map fun o=>(2,o)) e w):EW P n (.region id l.toArray false) N B R e w:=fun a ha=>
 wp_region_lit (Bb6 l a w (h a ha))
theorem EW.drw {id:Nat} (S:World→Prop) (tl:Nat) (l:List (Nat × Nat)) (hm:P.follows .mixedOrders=true)
  (hB:(Region.noSelect ops && Cs9 .any ops tl && Cu0 .any ops tl l (Array.replicate ops.size false) && l.length==ops.size)=true)
  (hS:S { w with drawn:=w.drawn+1 }) (h:EP P n ops S N B R (Bz9 ops l) e { w with drawn:=w.drawn+1 }):EW P n (.region id ops true) N B R e w:=fun a ha=>by
 simp only [Ek6,beq_iff_eq] at hB;obtain ⟨⟨⟨h1,h2⟩,h3⟩,h4⟩:=hB;refine wp_region_any hm (Ba6 (S:=S) (tl:=tl) _ _ _ _ ?_);rw [← h4];rw [← h4] at h3;exact Ag3 h1 h2 (fun c a w hq=>hq) l _ a _ (fun k hk=>by rw [Eo3,Array.getElem?_replicate] at hk;split at hk<;>simp at hk) h3 (.inl hS) (h a ha)
theorem EP.nil (h:N e w):EP P n ops S N B R [] e w:=fun a ha=>⟨e,ha,h⟩
def Does (P:Program) (n:Nat) (e:Env) (o:Oper) (φ:World→Prop) (v:Value):Prop:=∀ a w,Rep n a e→φ w→(execOp a.eval o).run P w= .ok (.value v) w
section
variable {rest:List (Nat × Oper)} {d:Nat} {op:Op} {t:TypeId} {p:String} {af:Array Edge} {v:Value}
theorem D6 (hd:Nat.blt d n=true) (hy:Does P n e ⟨some d,op,t,p,af,none⟩ S v) (h:EP P n ops S N B R rest ((d,v)::e) w):
  EP P n ops S N B R ((0,⟨some d,op,t,p,af,none⟩)::rest) e w:=fun a ha=>
 ⟨v,.inl ⟨rfl,fun w' hS=>hy a w' ha hS⟩,h _ (ha.put d v hd)⟩
theorem C9 (hd:Nat.blt d n=true) (hy:Does P n e ⟨some d,op,t,p,af,none⟩ (fun w'=>w'=w) v) (h:EP P n ops S N B R rest ((d,v)::e) w):
  EP P n ops S N B R ((2,⟨some d,op,t,p,af,none⟩)::rest) e w:=fun a ha=>by
 simp only [N3,wpO,Region.wanted,if_true];refine .inl ?_;unfold Oper.wp;rw [hy a w ha J];exact h _ (ha.put d v hd)
theorem Cz7 {w':World} (hd:Nat.blt d n=true) (hy:∀ a,Rep n a e→(execOp a.eval ⟨some d,op,t,p,af,none⟩).run P w= .ok (.value v) w') (h:EP P n ops S N B R rest ((d,v)::e) w'):
  EP P n ops S N B R ((2,⟨some d,op,t,p,af,none⟩)::rest) e w:=fun a ha=>by
 simp only [N3,wpO,Region.wanted,if_true];refine .inl ?_;unfold Oper.wp;rw [hy a ha];exact h _ (ha.put d v hd)
theorem EP.x1 {w':World} (hd:Nat.blt d n=true) (hy:∀ a,Rep n a e→(execOp a.eval ⟨some d,op,t,p,af,none⟩).run P w= .ok (.value v) w') (hS:S w') (h:EP P n ops S N B R rest ((d,v)::e) w'):
  EP P n ops S N B R ((1,⟨some d,op,t,p,af,none⟩)::rest) e w:=fun a ha=>by
 simp only [N3,wpO,Region.wanted,if_true];refine .inl ?_;unfold Oper.wp;rw [hy a ha];exact ⟨hS,h _ (ha.put d v hd)⟩
theorem EP.s2 {w':World} (hy:∀ a,Rep n a e→(execOp a.eval ⟨none,op,t,p,af,none⟩).run P w= .ok .skip w') (h:EP P n ops S N B R rest e w'):
  EP P n ops S N B R ((2,⟨none,op,t,p,af,none⟩)::rest) e w:=fun a ha=>by
 simp only [N3,wpO,Region.wanted,if_true];refine .inl ?_;unfold Oper.wp;rw [hy a ha];exact h _ ha
theorem EP.s1 {w':World} (hy:∀ a,Rep n a e→(execOp a.eval ⟨none,op,t,p,af,none⟩).run P w= .ok .skip w') (hS:S w') (h:EP P n ops S N B R rest e w'):
  EP P n ops S N B R ((1,⟨none,op,t,p,af,none⟩)::rest) e w:=fun a ha=>by
 simp only [N3,wpO,Region.wanted,if_true];refine .inl ?_;unfold Oper.wp;rw [hy a ha];exact ⟨hS,h _ ha⟩
def Ret (T:Value→World→Prop):Ending→World→Prop
 | .returned v,w=>T v w
 |_,_=>False
theorem EP.c2 {f:FuncId} {args:Array Value} {T:Value→World→Prop} (hd:Nat.blt d n=true) (hy:∀ a,Rep n a e→(execOp a.eval ⟨some d,op,t,p,af,none⟩).run P w= .ok (.enter f args) w)
  (hc:Calls P f args w (Ret T)) (h:∀ v w',T v w'→EP P n ops S N B R rest ((d,v)::e) w'):EP P n ops S N B R ((2,⟨some d,op,t,p,af,none⟩)::rest) e w:=fun a ha=>by
 simp only [N3,wpO,Region.wanted,if_true];refine .inl ?_;unfold Oper.wp;rw [hy a ha];refine hc.mono fun x w' hx=>?_
 cases x with
 |returned v=>exact h v w' hx _ (ha.put d v hd)
 |_=>exact hx.elim
theorem EP.c1 {f:FuncId} {args:Array Value} {T:Value→World→Prop} (hd:Nat.blt d n=true) (hy:∀ a,Rep n a e→(execOp a.eval ⟨some d,op,t,p,af,none⟩).run P w= .ok (.enter f args) w)
  (hc:Calls P f args w (Ret T)) (h:∀ v w',T v w'→S w'∧EP P n ops S N B R rest ((d,v)::e) w'):EP P n ops S N B R ((1,⟨some d,op,t,p,af,none⟩)::rest) e w:=fun a ha=>by
 simp only [N3,wpO,Region.wanted,if_true];refine .inl ?_;unfold Oper.wp;rw [hy a ha];refine hc.mono fun x w' hx=>?_
 cases x with
 |returned v=>exact ⟨(h v w' hx).1,(h v w' hx).2 _ (ha.put d v hd)⟩
 |_=>exact hx.elim
end
end
end Go.Clt
end
section
namespace Go.Clt
open Go Go.RowKit
section
variable {P:Program} {n:Nat}
def Fin (P:Program) (fn:Func) (T:Value→World→Prop) (e:Env) (w:World):Prop:=∀ a,Rep fn.ntmps a e→∃ v,(results fn a.tmps).run P w= .ok v w∧T v w
theorem D4 {f:FuncId} {fn:Func} {c:Code} {args:Array Value} {w:World} {T:Value→World→Prop} (hf:P.funcs[f]?=some fn) (hb:fn.body=some c) (hn:Nat.ble args.size fn.ntmps=true)
  (h:EW P fn.ntmps c (Fin P fn T) (fun _ _ _=>False) (Fin P fn T) (Cq1 args.toList 0) w):Calls P f args w (Ret T):=by
 refine calls_of_wp hf hb (Code.wp_mono ?_ (h _ ⟨?_,fun i v hi=>?_,rfl⟩))
 ·intro ex a w' hq
  cases ex with
  |normal=>obtain ⟨e',he',hN⟩:=hq;obtain ⟨v,hr,hT⟩:=hN a he';exact ⟨he'.defers,v,hr,hT⟩
  |ret=>obtain ⟨e',he',hN⟩:=hq;obtain ⟨v,hr,hT⟩:=hN a he';exact ⟨he'.defers,v,hr,hT⟩
  |exit k=>obtain ⟨e',he',hN⟩:=hq;exact hN.elim
  |_=>exact hq.elim
 ·have:=Nat.le_of_ble_eq_true hn;simp;omega
 ·obtain ⟨_,h2⟩:=Ea5 _ 0 i v hi;simp only [Nat.sub_zero] at h2;have hlt:i<args.toList.length:=(Em5.1 h2).1;simp at hlt;have h3:args[i]?=some v:=by simpa using h2
  simp [Array.getElem?_append,hlt,h3];exact (Eo5.1 h3).2
variable {fn:Func} {T:Value→World→Prop} {e:Env} {w:World}
theorem T5 (hr:fn.results= #[]) (h:T (.tuple #[]) w):Fin P fn T e w:=fun a _=>⟨_,results_none hr _ _ _,h⟩
theorem B4 {t:Tmp} {v:Value} (hr:fn.results= #[.tmp t]) (hv:lk e t=some v) (h:T v w):Fin P fn T e w:=fun a ha=>⟨v,by rw [results_tmp hr,ha.get t v hv],h⟩
theorem J1 {t u:Tmp} {v x:Value} (hr:fn.results= #[.tmp t,.tmp u]) (hv:lk e t=some v) (hx:lk e u=some x) (h:T (.tuple #[v,x]) w):Fin P fn T e w:=fun a ha=>
 ⟨_,by rw [results_tmp2 hr,ha.get t v hv,ha.get u x hx],h⟩
theorem O9 {t u s:Tmp} {v x y:Value} (hr:fn.results= #[.tmp t,.tmp u,.tmp s]) (hv:lk e t=some v) (hx:lk e u=some x) (hy:lk e s=some y) (h:T (.tuple #[v,x,y]) w):Fin P fn T e w:=fun a ha=>by
 have h1:=ha.get t v hv;have h2:=ha.get u x hx;have h3:=ha.get s y hy;exact ⟨.tuple #[v,x,y],by simp [results,hr,← h1,← h2,← h3],h⟩
theorem D5 {t:Tmp} {τ:TypeId} {a0:Addr} {v:Value} (hr:fn.results= #[.cell t τ]) (hv:lk e t=some (.pointer (some a0))) (hl:(loadVar τ a0).run P w= .ok v w) (h:T v w):Fin P fn T e w:=fun a ha=>by
 have h1:=ha.get t _ hv;refine ⟨v,?_,h⟩;simp only [results,hr];simp only [Eo3] at h1;simp [h1,asAddr,hl]
theorem I7 {t u:Tmp} {τ:TypeId} {a0:Addr} {v x:Value} (hr:fn.results= #[.cell t τ,.tmp u]) (hv:lk e t=some (.pointer (some a0))) (hl:(loadVar τ a0).run P w= .ok v w) (hx:lk e u=some x) (h:T (.tuple #[v,x]) w):Fin P fn T e w:=fun a ha=>by
 have h1:=ha.get t _ hv;have h2:=ha.get u x hx;refine ⟨_,?_,h⟩;simp only [results,hr];simp only [Eo3] at h1;simp [h1,asAddr,hl,← h2]
end
structure Chg (S:List Nat) (w w':World):Prop where
 os:w'.os=w.os
 tape:w'.tape=w.tape
 output:w'.output=w.output
 size:w.heap.size≤w'.heap.size
 same:∀ b,b<w.heap.size→b∉S→w'.heap[b]?=w.heap[b]?
theorem A8 (S:List Nat) (w:World):Chg S w w:=⟨rfl,rfl,rfl,El1 _,fun _ _ _=>rfl⟩
theorem Chg.drawn (S:List Nat) (w:World):Chg S w { w with drawn:=w.drawn+1 }:=⟨rfl,rfl,rfl,El1 _,fun _ _ _=>rfl⟩
theorem Chg.alloc (S:List Nat) (w:World) (o:Obj):Chg S w (w.alloc o):=⟨rfl,rfl,rfl,by simp,fun b hb _=>heap_alloc_old w o hb⟩
theorem Chg.step {S S2:List Nat} {w w1 w2:World} (h:Chg S w w1) (k:Chg S2 w1 w2) (hs:∀ b∈S2,b∈S∨w.heap.size≤b):Chg S w w2:=
 ⟨k.os.trans h.os,k.tape.trans h.tape,k.output.trans h.output,En6 h.size k.size,fun b hb hn=>by
  rw [k.same b (Et6 hb h.size) (fun hm=>by rcases hs b hm with h'|h';exact hn h';omega)]
  exact h.same b hb hn⟩
theorem Chg.s0 {S:List Nat} {w w1 w2:World} (h:Chg S w w1) (k:Chg [] w1 w2):Chg S w w2:=h.step k (fun b hb=>by cases hb)
theorem Bf1 {w w1:World} {row:Option Nat} (h:w.grownBy w1 row):Chg row.toList w w1:=⟨h.os,h.tape,h.output,h.size,fun b hb hn=>h.block b hb (fun e=>hn (by rw [← e];simp))⟩
def Blk (w:World) (b:Nat) (cs:List Value) (t:TypeId):Prop:=w.heap[b]?=some (.cells cs.toArray t (0,0))
theorem Blk.lt {w:World} {b:Nat} {cs:List Value} {t:TypeId} (h:Blk w b cs t):b<w.heap.size:=(Eo5.1 h).1
theorem Blk.q {S:List Nat} {w w':World} {b:Nat} {cs:List Value} {t:TypeId} (h:Blk w b cs t) (k:Chg S w w') (hb:b∉S):Blk w' b cs t:=(k.same b h.lt hb).trans h
theorem Blk.u {w w':World} {b:Nat} {cs:List Value} {t:TypeId} (h:Blk w b cs t) (k:Chg [] w w'):Blk w' b cs t:=h.q k (by simp)
theorem Blk.ne {w:World} {b b':Nat} {cs cs':List Value} {t t':TypeId} (h:Blk w b cs t) (h':Blk w b' cs' t') (hne:t≠t'):b≠b':=by
 rintro rfl;have:=h.symm.trans h';injection this with this
 injection this with _ ht
 exact hne ht
theorem Blk.cell {w:World} {b:Nat} {cs:List Value} {t:TypeId} (h:Blk w b cs t) (i:Nat):w.cell? ⟨b,i,none⟩=cs[i]?:=by simp [World.cell?,show w.heap[b]?=_ from h]
theorem Eh1 (w:World) (cs:List Value) (t:TypeId):Blk (w.alloc (.cells cs.toArray t)) w.heap.size cs t:=heap_alloc_new w _
def Keeps (φ:World→Prop) (b:Nat) (w:World):Prop:=∀ w',φ w'→w'.heap[b]?=w.heap[b]?
theorem F4 {w:World} (b:Nat):Keeps (fun w'=>w'=w) b w:=fun w' h=>by rw [h]
theorem Keeps.q {S:List Nat} {w:World} {b:Nat} (hb:b<w.heap.size) (hn:b∉S):Keeps (Chg S w) b w:=fun w' h=>h.same b hb hn
theorem Keeps.blk {φ:World→Prop} {b:Nat} {w:World} (h:Keeps φ b w) {cs:List Value} {t:TypeId} (hb:Blk w b cs t) (w':World) (hw:φ w'):Blk w' b cs t:=(h w' hw).trans hb
theorem Keeps.cell {φ:World→Prop} {b off:Nat} {w:World} (h:Keeps φ b w) {v:Value} (hc:w.cell? ⟨b,off,none⟩=some v) (w':World) (hw:φ w'):w'.cell? ⟨b,off,none⟩=some v:=by
 unfold World.cell? at*;rw [h w' hw];exact hc
def aggB (P:Program) (t:TypeId):Bool:=match P.underlying t with|some (.struct _)|some (.array _ _)=>true|_=>false
def Ay4 (P:Program) (t:TypeId):Bool:=(P.underlying t).isSome
def one (P:Program) (t:TypeId):Bool:=Ay4 P t && !aggB P t && (P.cellsOf t==1)
def agg (P:Program) (t:TypeId) (k:Nat):Bool:=Ay4 P t && aggB P t && ((P.info? t).map (·.size)==some k)
theorem add0 (b off j:Nat):(⟨b,off,none⟩:Addr).add j=⟨b,off+j,none⟩:=by unfold Addr.add;split<;>simp_all
section
variable {P:Program} {w:World}
theorem Ag1 {t:TypeId} (h:Ay4 P t=true):(isAgg t).run P w= .ok (aggB P t) w:=by
 unfold Ay4 at h;obtain ⟨d,hd⟩:=Ep6.1 h;simp [isAgg,run_underlying hd,aggB,hd]
 cases d<;>rfl
theorem one_agg {t:TypeId} (h:one P t=true):aggB P t=false:=by simp [one] at h;exact h.1.2
theorem Dx6 {t:TypeId} (h:one P t=true):Ay4 P t=true:=by simp [one] at h;exact h.1.1
theorem Bi5 {t:TypeId} (h:one P t=true) {b off:Nat} {v:Value} (hc:w.cell? ⟨b,off,none⟩=some v):(loadVar t ⟨b,off,none⟩).run P w= .ok v w:=by
 simp [loadVar,Ag1 (Dx6 h),one_agg h,hc]
theorem Am5 {t:TypeId} {k:Nat} (h:agg P t k=true) {b off:Nat} {cs:List Value} (hl:cs.length=k) (hc:∀ j v,cs[j]?=some v→w.cell? ⟨b,off+j,none⟩=some v):
  (loadVar t ⟨b,off,none⟩).run P w= .ok (.agg cs.toArray) w:=by
 simp only [agg,Ek6,beq_iff_eq,Es7] at h;obtain ⟨⟨h1,h2⟩,i,hi,hs⟩:=h;have:=run_loadCells_list (P:=P) (w:=w) ⟨b,off,none⟩ cs (fun j v hj=>by rw [add0];exact hc j v hj);simp [loadVar,Ag1 h1,h2,sizeOf,typeInfo,hi,hs,← hl,this]
theorem Cr5 {t τ:TypeId} {k:Nat} (h:agg P τ k=true) {b off:Nat} {cs:List Value} (hb:Blk w b cs t) (hl:((cs.drop off).take k).length=k):
  (loadVar τ ⟨b,off,none⟩).run P w= .ok (.agg ((cs.drop off).take k).toArray) w:=
 Am5 h hl fun j v hj=>by
  rw [hb.cell];rw [List.getElem?_take] at hj
  split at hj
  ·rwa [List.getElem?_drop] at hj
  ·cases hj
theorem A5 {t τ:TypeId} {k:Nat} (h:agg P τ k=true) {b off:Nat} {cs vs:List Value} (hb:Blk w b cs t) (hv:(cs.drop off).take k=vs) (hl:vs.length=k):
  (loadVar τ ⟨b,off,none⟩).run P w= .ok (.agg vs.toArray) w:=by
 have:=Cr5 h hb (off:=off) (by rw [hv];exact hl)
 rwa [hv] at this
end
section
variable {P:Program} {n:Nat} {e:Env} {φ:World→Prop} {dst:Option Tmp} {t:TypeId} {p:String} {af:Array Edge} {g:Option (Nat × Bool)}
theorem Ej5 {x:Operand} {v:Value} (hx:ev e x=some v):Does P n e ⟨dst,.move x,t,p,af,g⟩ φ v:=fun a w ha _=>by simp [execOp,ha.ev hx]
theorem Da0 {x:Operand} {v:Value} (hx:ev e x=some v):Does P n e ⟨dst,.assign x,t,p,af,g⟩ φ v:=fun a w ha _=>by simp [execOp,ha.ev hx]
theorem Dr2 {c x y:Operand} {v:Value} (hc:ev e c=some (.bool true)) (hx:ev e x=some v):Does P n e ⟨dst,.pick c x y,t,p,af,g⟩ φ v:=fun a w ha _=>by simp [execOp,ha.ev hc,asBool,ha.ev hx]
theorem Dr3 {c x y:Operand} {v:Value} (hc:ev e c=some (.bool false)) (hx:ev e y=some v):Does P n e ⟨dst,.pick c x y,t,p,af,g⟩ φ v:=fun a w ha _=>by simp [execOp,ha.ev hc,asBool,ha.ev hx]
theorem Cr3 {x:Operand} {i:Nat} {vs:Array Value} {v:Value} (hx:ev e x=some (.tuple vs)) (hv:vs[i]?=some v):Does P n e ⟨dst,.extract x i,t,p,af,g⟩ φ v:=fun a w ha _=>by
 simp [execOp,ha.ev hx,Instr.extract,hv]
theorem Cg2 {x:Operand} {ad:Addr} (hx:ev e x=some (.pointer (some ad))):Does P n e ⟨dst,.nilCheck x,t,p,af,g⟩ φ (.pointer (some ad)):=fun a w ha _=>by simp [execOp,ha.ev hx]
def Bj5:Value→Value→Bool
 | .nilIface,.nilIface=>false
 | .agg _,.agg _=>false
 |_,_=>true
theorem Cx8 (op:BinOp) (τ:TypeId) (x y:Operand) {a b:Value} (h:Bj5 a b=true) (w:World):(eqGuard op τ x y a b).run P w= .ok () w:=by
 cases op<;>first
  |rfl
  |(cases a<;>first
    |rfl
    |(cases b<;>first
      |rfl
      |(simp [Bj5] at h;done)))
theorem N4 {op:BinOp} {τ τ':TypeId} {x y:Operand} {u v r:Value} (hx:ev e x=some u) (hy:ev e y=some v)
  (hg:Bj5 u v=true) (hr:∀ w,φ w→(binOp op τ u v).run P w= .ok r w):Does P n e ⟨dst,.binOp op τ x y τ',t,p,af,g⟩ φ r:=fun a w ha hw=>by
 simp [execOp,ha.ev hx,ha.ev hy,Cx8 op τ x y hg,hr w hw]
theorem Ae8 {τ τ':TypeId} {x y:Operand} {k:IntKind} {i j:Int} (hx:ev e x=some (.int k i)) (hy:ev e y=some (.int k j)):Does P n e ⟨dst,.binOp .add τ x y τ',t,p,af,g⟩ φ (.int k (k.wrap (i+j))):=
 N4 hx hy J fun w _=>by simp [binOp,Op.intArith]
theorem Ab2 {τ τ':TypeId} {x y:Operand} {k:IntKind} {i j:Int} (hx:ev e x=some (.int k i)) (hy:ev e y=some (.int k j)):Does P n e ⟨dst,.binOp .sub τ x y τ',t,p,af,g⟩ φ (.int k (k.wrap (i - j))):=
 N4 hx hy J fun w _=>by simp [binOp,Op.intArith]
theorem Cg4 {τ τ':TypeId} {x y:Operand} {k:IntKind} {i j:Int} (hx:ev e x=some (.int k i)) (hy:ev e y=some (.int k j)):Does P n e ⟨dst,.binOp .mul τ x y τ',t,p,af,g⟩ φ (.int k (k.wrap (i*j))):=
 N4 hx hy J fun w _=>by simp [binOp,Op.intArith]
theorem I4 {x:Int} (h: -9223372036854775808≤x∧x≤9223372036854775807):IntKind.i64.wrap x=x:=by
 unfold IntKind.wrap;simp [IntKind.bits,IntKind.signed];split<;>omega
theorem Al5 {x:Int} (h:0≤x∧x≤255):IntKind.u8.wrap x=x:=by unfold IntKind.wrap;simp [IntKind.bits,IntKind.signed];omega
theorem Ap7 {x:Int} (h:0≤x∧x≤18446744073709551615):IntKind.u64.wrap x=x:=by unfold IntKind.wrap;simp [IntKind.bits,IntKind.signed];omega
theorem Bq1 {τ τ':TypeId} {x y:Operand} {i j:Int} (hx:ev e x=some (.int .i64 i)) (hy:ev e y=some (.int .i64 j)) (h: -9223372036854775808≤i+j∧i+j≤9223372036854775807):Does P n e ⟨dst,.binOp .add τ x y τ',t,p,af,g⟩ φ (.int .i64 (i+j)):=by
 have:=Ae8 (P:=P) (n:=n) (dst:=dst) (t:=t) (p:=p) (af:=af) (g:=g) (φ:=φ) (τ:=τ) (τ':=τ') hx hy
 rwa [I4 h] at this
theorem Cq9 {τ τ':TypeId} {x y:Operand} {i j:Int} (hx:ev e x=some (.int .i64 i)) (hy:ev e y=some (.int .i64 j)) (h: -9223372036854775808≤i - j∧i - j≤9223372036854775807):Does P n e ⟨dst,.binOp .sub τ x y τ',t,p,af,g⟩ φ (.int .i64 (i - j)):=by
 have:=Ab2 (P:=P) (n:=n) (dst:=dst) (t:=t) (p:=p) (af:=af) (g:=g) (φ:=φ) (τ:=τ) (τ':=τ') hx hy
 rwa [I4 h] at this
theorem Ap6 {τ τ':TypeId} {x y:Operand} {i j:Int} (hx:ev e x=some (.int .i64 i)) (hy:ev e y=some (.int .i64 j)) (h: -9223372036854775808≤i*j∧i*j≤9223372036854775807):Does P n e ⟨dst,.binOp .mul τ x y τ',t,p,af,g⟩ φ (.int .i64 (i*j)):=by
 have:=Cg4 (P:=P) (n:=n) (dst:=dst) (t:=t) (p:=p) (af:=af) (g:=g) (φ:=φ) (τ:=τ) (τ':=τ') hx hy
 rwa [I4 h] at this
theorem Does.quo {τ τ':TypeId} {x y:Operand} {k:IntKind} {i j:Int} (hx:ev e x=some (.int k i)) (hy:ev e y=some (.int k j)) (hj:j≠0):Does P n e ⟨dst,.binOp .quo τ x y τ',t,p,af,g⟩ φ (.int k (k.wrap (i.tdiv j))):=
 N4 hx hy J fun w _=>by simp [binOp,Op.intDiv,hj]
theorem Dj2 {τ τ':TypeId} {x y:Operand} {k:IntKind} {i j:Int} (hx:ev e x=some (.int k i)) (hy:ev e y=some (.int k j)) (hj:j≠0):Does P n e ⟨dst,.binOp .rem τ x y τ',t,p,af,g⟩ φ (.int k (i.tmod j)):=
 N4 hx hy J fun w _=>by simp [binOp,Op.intDiv,hj]
theorem Ah4 {τ τ':TypeId} {x y:Operand} {k:IntKind} {i j:Int} (hx:ev e x=some (.int k i)) (hy:ev e y=some (.int k j)) (h0:0≤i) (hj:0<j) (hw:k.wrap (i / j)=i / j):Does P n e ⟨dst,.binOp .quo τ x y τ',t,p,af,g⟩ φ (.int k (i / j)):=by
 have:=Does.quo (P:=P) (n:=n) (dst:=dst) (t:=t) (p:=p) (af:=af) (g:=g) (φ:=φ) (τ:=τ) (τ':=τ') hx hy (by omega)
 rwa [Int.tdiv_eq_ediv_of_nonneg h0,hw] at this
theorem Ba1 {τ τ':TypeId} {x y:Operand} {k:IntKind} {i j:Int} (hx:ev e x=some (.int k i)) (hy:ev e y=some (.int k j)) (h0:0≤i) (hj:0<j):Does P n e ⟨dst,.binOp .rem τ x y τ',t,p,af,g⟩ φ (.int k (i % j)):=by
 have:=Dj2 (P:=P) (n:=n) (dst:=dst) (t:=t) (p:=p) (af:=af) (g:=g) (φ:=φ) (τ:=τ) (τ':=τ') hx hy (by omega)
 rwa [Int.tmod_eq_emod_of_nonneg h0] at this
theorem H4 {τ τ':TypeId} {k:IntKind} {x:Operand} {k':IntKind} {i:Int} (hs:Ay4 P τ=true) (hd:P.underlying τ'=some (.int k)) (hx:ev e x=some (.int k' i)) (hw:k.wrap i=i):Does P n e ⟨dst,.convert τ τ' x,t,p,af,g⟩ φ (.int k i):=fun a w ha _=>by
 obtain ⟨d,hd'⟩:=Ep6.1 hs;simp [execOp,ha.ev hx,convert,run_underlying hd',run_underlying hd,Conv.intToInt,hw]
theorem Dj1 {τ τ':TypeId} {x y:Operand} {k k':IntKind} {i j:Int} (hx:ev e x=some (.int k i)) (hy:ev e y=some (.int k' j)) (hj:0≤j):Does P n e ⟨dst,.binOp .shl τ x y τ',t,p,af,g⟩ φ (.int k (k.wrap (i*2 ^ (min j.toNat k.bits)))):=
 N4 hx hy J fun w _=>by simp [binOp,Op.shift,Int.not_lt.2 hj]
theorem Ab3 {τ τ':TypeId} {x y:Operand} {k k':IntKind} {i j:Int} (hx:ev e x=some (.int k i)) (hy:ev e y=some (.int k' j)) (hj:0≤j):Does P n e ⟨dst,.binOp .shr τ x y τ',t,p,af,g⟩ φ (.int k (i.fdiv (2 ^ (min j.toNat k.bits)))):=
 N4 hx hy J fun w _=>by simp [binOp,Op.shift,Int.not_lt.2 hj]
def Ba5 (op:BinOp) (k:IntKind) (x y:Int):Int:=
 let a:=BitVec.ofInt k.bits x
 let b:=BitVec.ofInt k.bits y
 match op with
 | .and=>k.wrap (a &&& b).toNat
 | .or=>k.wrap (a|||b).toNat
 | .xor=>k.wrap (a ^^^ b).toNat
 |_=>k.wrap (a &&& ~~~b).toNat
theorem Q4 {op:BinOp} {τ τ':TypeId} {x y:Operand} {k:IntKind} {i j:Int} (ho:(match op with| .and| .or| .xor| .andNot=>true|_=>false)=true) (hx:ev e x=some (.int k i)) (hy:ev e y=some (.int k j)):
  Does P n e ⟨dst,.binOp op τ x y τ',t,p,af,g⟩ φ (.int k (Ba5 op k i j)):=
 N4 hx hy J fun w _=>by cases op<;>simp at ho<;>simp [binOp,Op.intBits,Ba5]
def Aa4 (op:BinOp) (x y:Int):Bool:=
 match op with
 | .eql=>x==y| .neq=>x !=y| .lss=>decide (x<y)| .leq=>decide (x≤y)| .gtr=>decide (x > y)|_=>decide (x≥y)
@[simp] theorem cmpB_eql (a b:Int):(Aa4 .eql a b=true)=(a=b):=by simp [Aa4]
@[simp] theorem cmpB_eqlF (a b:Int):(Aa4 .eql a b=false)=¬ (a=b):=by simp [Aa4]
@[simp] theorem cmpB_neq (a b:Int):(Aa4 .neq a b=true)=¬ (a=b):=by simp [Aa4]
@[simp] theorem cmpB_neqF (a b:Int):(Aa4 .neq a b=false)=(a=b):=by simp [Aa4]
@[simp] theorem cmpB_lss (a b:Int):(Aa4 .lss a b=true)=(a<b):=by simp [Aa4]
@[simp] theorem cmpB_lssF (a b:Int):(Aa4 .lss a b=false)=(b≤a):=by simp [Aa4]
@[simp] theorem cmpB_leq (a b:Int):(Aa4 .leq a b=true)=(a≤b):=by simp [Aa4]
@[simp] theorem cmpB_leqF (a b:Int):(Aa4 .leq a b=false)=(b<a):=by simp [Aa4]
@[simp] theorem cmpB_gtr (a b:Int):(Aa4 .gtr a b=true)=(b<a):=by simp [Aa4]
@[simp] theorem cmpB_gtrF (a b:Int):(Aa4 .gtr a b=false)=(a≤b):=by simp [Aa4]
@[simp] theorem cmpB_geq (a b:Int):(Aa4 .geq a b=true)=(b≤a):=by simp [Aa4]
@[simp] theorem cmpB_geqF (a b:Int):(Aa4 .geq a b=false)=(a<b):=by simp [Aa4]
theorem Bh5 {op:BinOp} {τ τ':TypeId} {x y:Operand} {k:IntKind} {i j:Int} (ho:(match op with| .eql| .neq| .lss| .leq| .gtr| .geq=>true|_=>false)=true) (hx:ev e x=some (.int k i)) (hy:ev e y=some (.int k j)):
  Does P n e ⟨dst,.binOp op τ x y τ',t,p,af,g⟩ φ (.bool (Aa4 op i j)):=
 N4 hx hy J fun w _=>by cases op<;>simp at ho<;>simp [binOp,Op.intCmp,Aa4]
theorem Does.not {τ:TypeId} {x:Operand} {b:Bool} (hx:ev e x=some (.bool b)):Does P n e ⟨dst,.unOp .not τ x,t,p,af,g⟩ φ (.bool !b):=fun a w ha _=>by simp [execOp,ha.ev hx,Op.unary]
theorem Does.neg {τ:TypeId} {x:Operand} {k:IntKind} {i:Int} (hx:ev e x=some (.int k i)):Does P n e ⟨dst,.unOp .neg τ x,t,p,af,g⟩ φ (.int k (k.wrap (0 - i))):=fun a w ha _=>by simp [execOp,ha.ev hx,Op.unary,Op.intArith]
theorem Does.cpl {τ:TypeId} {x:Operand} {k:IntKind} {i:Int} (hx:ev e x=some (.int k i)):Does P n e ⟨dst,.unOp .xor τ x,t,p,af,g⟩ φ (.int k (Ba5 .xor k (if k.signed then -1 else k.max) i)):=fun a w ha _=>by
 simp [execOp,ha.ev hx,Op.unary,Op.intBits,Ba5]
theorem Aj8 {τ τ':TypeId} {x y:Operand} {i j:Bool} (hu:P.underlying τ=some .bool) (hx:ev e x=some (.bool i)) (hy:ev e y=some (.bool j)):Does P n e ⟨dst,.binOp .neq τ x y τ',t,p,af,g⟩ φ (.bool !(i==j)):=
 N4 hx hy J fun w _=>by
  have h:∀ d:Nat,(Op.equalIn (d+1) τ (.bool i) (.bool j)).run P w= .ok (i==j) w:=fun d=>by simp [Op.equalIn,run_underlying hu]
  simp only [binOp];simp [Op.equal,Op.maxDepth,h 9999]
theorem Ae7 {τ τ':TypeId} {x y:Operand} {i j:ByteArray} (hx:ev e x=some (.string i)) (hy:ev e y=some (.string j)):Does P n e ⟨dst,.binOp .eql τ x y τ',t,p,af,g⟩ φ (.bool (i.toList==j.toList)):=
 N4 hx hy J fun w _=>by simp [binOp,Op.stringOp]
theorem Cg3 {τ τ':TypeId} {x y:Operand} {i j:ByteArray} (hx:ev e x=some (.string i)) (hy:ev e y=some (.string j)):Does P n e ⟨dst,.binOp .neq τ x y τ',t,p,af,g⟩ φ (.bool !(i.toList==j.toList)):=
 N4 hx hy J fun w _=>by simp [binOp,Op.stringOp]
theorem Ba2 {τ τ':TypeId} {x y:Operand} {i j:ByteArray} (hx:ev e x=some (.string i)) (hy:ev e y=some (.string j)) (h:i.size+j.size≤9223372036854775807):Does P n e ⟨dst,.binOp .add τ x y τ',t,p,af,g⟩ φ (.string (i++j)):=
 N4 hx hy J fun w _=>by
  have:¬ (((i.size+j.size:Nat):Int) > IntKind.i64.max):=by show ¬ (((i.size+j.size:Nat):Int) > 9223372036854775807);omega
  simp only [binOp,Op.stringOp];rw [Ek0 this]
  rfl
theorem Cr4 {τ τ':TypeId} {k:IntKind} {x:Operand} {k':IntKind} {i:Int} (hs:Ay4 P τ=true) (hd:P.underlying τ'=some (.int k)) (hx:ev e x=some (.int k' i)):Does P n e ⟨dst,.convert τ τ' x,t,p,af,g⟩ φ (.int k (k.wrap i)):=fun a w ha _=>by
 obtain ⟨d,hd'⟩:=Ep6.1 hs;simp [execOp,ha.ev hx,convert,run_underlying hd',run_underlying hd,Conv.intToInt]
theorem U9 {x y:Operand} {k:IntKind} {i j:Int} {ts:Array TypeId} (hx:ev e x=some (.int k i)) (hy:ev e y=some (.int k j)):
  Does P n e ⟨dst,.call { callee:=.builtin .min,args:= #[x,y],argTypes:=ts },t,p,af,g⟩ φ (.int k (Min.min i j)):=fun a w ha _=>by
 have:(if j<i then j else i)=Min.min i j:=by split<;>omega
 simp [execOp,resolve,invoke,builtin,ha.ev hx,ha.ev hy,Builtin.min_,Builtin.min2,this]
theorem Y9 {x y:Operand} {k:IntKind} {i j:Int} {ts:Array TypeId} (hx:ev e x=some (.int k i)) (hy:ev e y=some (.int k j)):
  Does P n e ⟨dst,.call { callee:=.builtin .max,args:= #[x,y],argTypes:=ts },t,p,af,g⟩ φ (.int k (Max.max i j)):=fun a w ha _=>by
 have:(if i<j then j else i)=Max.max i j:=by split<;>omega
 simp [execOp,resolve,invoke,builtin,ha.ev hx,ha.ev hy,Builtin.max_,Builtin.max2,this]
theorem E9 {x:Operand} {s:ByteArray} {τ:TypeId} (hu:P.underlying τ=some .string) (hx:ev e x=some (.string s)):
  Does P n e ⟨dst,.call { callee:=.builtin .len,args:= #[x],argTypes:= #[τ] },t,p,af,g⟩ φ (.int .i64 s.size):=fun a w ha _=>by
 simp [execOp,resolve,invoke,builtin,ha.ev hx,Builtin.len_,run_underlying hu,goInt]
theorem Ej7 {x:Operand} {A:Option Addr} {m c:Nat} {τ el:TypeId} (hu:P.underlying τ=some (.slice el)) (hx:ev e x=some (.slice A m c)):
  Does P n e ⟨dst,.call { callee:=.builtin .len,args:= #[x],argTypes:= #[τ] },t,p,af,g⟩ φ (.int .i64 m):=fun a w ha _=>by
 simp [execOp,resolve,invoke,builtin,ha.ev hx,Builtin.len_,run_underlying hu,goInt]
def O4 (P:Program) (s:TypeId) (f off:Nat):Bool:=
 match P.underlying s with
 |some (.struct fs)=>(match fs[f]? with|some x=>x.offset==off && (match P.info? x.type with|some i=>i.size !=0|none=>false)|none=>false)
 |_=>false
theorem Br2 {s:TypeId} {x:Operand} {f off b o:Nat} (hf:O4 P s f off=true) (hx:ev e x=some (.pointer (some ⟨b,o,none⟩))):Does P n e ⟨dst,.fieldAddr s x f,t,p,af,g⟩ φ (.pointer (some ⟨b,o+off,none⟩)):=fun a w ha _=>by
 unfold O4 at hf
 cases hu:P.underlying s with
 |none=>rw [hu] at hf;cases hf
 |some d=>
  rw [hu] at hf
  cases d<;>try (cases hf;done)
  rename_i fs
  simp only at hf
  cases hfs:fs[f]? with
  |none=>rw [hfs] at hf;cases hf
  |some y=>
   rw [hfs] at hf;simp only [Ek6,beq_iff_eq] at hf;obtain ⟨h1,h2⟩:=hf
   cases hi:P.info? y.type with
   |none=>rw [hi] at h2;cases h2
   |some i=>
    rw [hi] at h2;have h2':i.size≠0:=by simpa using h2
    simp [execOp,ha.ev hx,Instr.fieldAt,run_underlying hu,hfs,Instr.sureAddr,fieldPlace,sizeOf,typeInfo,hi,h2',add0,h1]
def slB (P:Program) (τ:TypeId) (sz:Nat):Bool:=match P.underlying τ with|some (.slice el)=>(P.info? el).map (·.size)==some sz|_=>false
theorem Bg1 {τ:TypeId} {sz:Nat} (h:slB P τ sz=true):∃ el i,P.underlying τ=some (.slice el)∧P.info? el=some i∧i.size=sz:=by
 unfold slB at h
 cases hu:P.underlying τ with
 |none=>rw [hu] at h;cases h
 |some d=>
  rw [hu] at h
  cases d<;>try (cases h;done)
  simp only [beq_iff_eq,Es7] at h;obtain ⟨i,hi,hs⟩:=h;exact ⟨_,i,rfl,hi,hs⟩
theorem C2 {τ:TypeId} {sz:Nat} {x y:Operand} {b o m c:Nat} {k:IntKind} {i:Int} (ht:slB P τ sz=true) (hx:ev e x=some (.slice (some ⟨b,o,none⟩) m c)) (hy:ev e y=some (.int k i)) (h0:0≤i) (h1:i<m):
  Does P n e ⟨dst,.indexAddr τ x y,t,p,af,g⟩ φ (.pointer (some ⟨b,o+i.toNat*sz,none⟩)):=fun a w ha _=>by
 obtain ⟨el,inf,hu,hi,hs⟩:=Bg1 ht;simp [execOp,ha.ev hx,ha.ev hy,Instr.indexAt,asIntOf,run_underlying hu,h0,h1,sizeOf,typeInfo,hi,hs,add0]
theorem B0 {τ:TypeId} {x y:Operand} {b o m c:Nat} {k:IntKind} {i:Int} (ht:slB P τ 1=true) (hx:ev e x=some (.slice (some ⟨b,o,none⟩) m c)) (hy:ev e y=some (.int k i)) (h0:0≤i) (h1:i<m):
  Does P n e ⟨dst,.indexAddr τ x y,t,p,af,g⟩ φ (.pointer (some ⟨b,o+i.toNat,none⟩)):=by
 have:=C2 (P:=P) (n:=n) (e:=e) (dst:=dst) (t:=t) (p:=p) (af:=af) (g:=g) (φ:=φ) ht hx hy h0 h1
 rwa [En8] at this
def arB (P:Program) (τ:TypeId) (len sz:Nat):Bool:=match P.underlying τ with|some (.array l el)=>l==len && (P.info? el).map (·.size)==some sz|_=>false
theorem Cf5 {τ:TypeId} {len sz:Nat} (h:arB P τ len sz=true):∃ el i,P.underlying τ=some (.array len el)∧P.info? el=some i∧i.size=sz:=by
 unfold arB at h
 cases hu:P.underlying τ with
 |none=>rw [hu] at h;cases h
 |some d=>
  rw [hu] at h
  cases d<;>try (cases h;done)
  rename_i l el
  simp only [Ek6,beq_iff_eq,Es7] at h;obtain ⟨rfl,i,hi,hs⟩:=h;exact ⟨_,i,rfl,hi,hs⟩
theorem Bp9 {τ:TypeId} {len sz:Nat} {x y:Operand} {b o:Nat} {k:IntKind} {i:Int} (ht:arB P τ len sz=true) (hx:ev e x=some (.pointer (some ⟨b,o,none⟩))) (hy:ev e y=some (.int k i)) (h0:0≤i) (h1:i<len):
  Does P n e ⟨dst,.indexAddr τ x y,t,p,af,g⟩ φ (.pointer (some ⟨b,o+i.toNat*sz,none⟩)):=fun a w ha _=>by
 obtain ⟨el,inf,hu,hi,hs⟩:=Cf5 ht;simp [execOp,ha.ev hx,ha.ev hy,Instr.indexAt,asIntOf,run_underlying hu,Instr.sureAddr,h0,h1,sizeOf,typeInfo,hi,hs,add0]
theorem E6 {τ:TypeId} {len:Nat} {x y:Operand} {b o:Nat} {k:IntKind} {i:Int} (ht:arB P τ len 1=true) (hx:ev e x=some (.pointer (some ⟨b,o,none⟩))) (hy:ev e y=some (.int k i)) (h0:0≤i) (h1:i<len):
  Does P n e ⟨dst,.indexAddr τ x y,t,p,af,g⟩ φ (.pointer (some ⟨b,o+i.toNat,none⟩)):=by
 have:=Bp9 (P:=P) (n:=n) (e:=e) (dst:=dst) (t:=t) (p:=p) (af:=af) (g:=g) (φ:=φ) ht hx hy h0 h1
 rwa [En8] at this
theorem Av5 {τ:TypeId} {len:Nat} {x y:Operand} {cs:List Value} {k:IntKind} {i:Int} {v:Value} (ht:arB P τ len 1=true) (ha1:(match P.underlying τ with|some (.array _ el)=>Ay4 P el && !aggB P el|_=>false)=true) (hx:ev e x=some (.agg cs.toArray)) (hy:ev e y=some (.int k i)) (h0:0≤i) (h1:i<len) (hv:cs[i.toNat]?=some v):
  Does P n e ⟨dst,.index τ x y,t,p,af,g⟩ φ v:=fun a w ha _=>by
 obtain ⟨el,inf,hu,hi,hs⟩:=Cf5 ht;rw [hu] at ha1;simp only [Ek6,Bool.not_eq_true'] at ha1;simp [execOp,ha.ev hx,ha.ev hy,Instr.index,asIntOf,run_underlying hu,h0,h1,sizeOf,typeInfo,hi,hs,part,Ag1 ha1.1,ha1.2,hv]
theorem E7 {τ:TypeId} {x y:Operand} {s:ByteArray} {k:IntKind} {i:Int} {b:UInt8} (hu:P.underlying τ=some .string) (hx:ev e x=some (.string s)) (hy:ev e y=some (.int k i)) (h0:0≤i) (hb:s.data.toList[i.toNat]?=some b):
  Does P n e ⟨dst,.index τ x y,t,p,af,g⟩ φ (.int .u8 b.toNat):=fun a w ha _=>by
 have h1:s[i.toNat]?=some b:=by
  have hlt:=(Em5.1 hb).1;have hv:=(Em5.1 hb).2;have hlt':i.toNat<s.size:=by simpa using hlt
  rw [getElem?_pos s i.toNat hlt']
  congr 1
 simp [execOp,ha.ev hx,ha.ev hy,Instr.index,asIntOf,run_underlying hu,h0,h1]
theorem Ab9 {x:Operand} {τ:TypeId} {b o:Nat} {w0:World} {v:Value} (ht:one P τ=true) (hx:ev e x=some (.pointer (some ⟨b,o,none⟩))) (hk:Keeps φ b w0) (hc:w0.cell? ⟨b,o,none⟩=some v):Does P n e ⟨dst,.load τ x,t,p,af,g⟩ φ v:=fun a w ha hw=>by
 simp [execOp,ha.ev hx,Instr.loadAt,Instr.sureAddr,Bi5 ht (hk.cell hc w hw)]
theorem Bx5 {x:Operand} {τ t0:TypeId} {b o:Nat} {w0:World} {cs:List Value} {v:Value} (ht:one P τ=true) (hx:ev e x=some (.pointer (some ⟨b,o,none⟩))) (hk:Keeps φ b w0) (hb:Blk w0 b cs t0) (hv:cs[o]?=some v):Does P n e ⟨dst,.load τ x,t,p,af,g⟩ φ v:=
 Ab9 ht hx hk (by rw [hb.cell];exact hv)
theorem Bx6 {x:Operand} {τ t0:TypeId} {k b o:Nat} {w0:World} {cs vs:List Value} (ht:agg P τ k=true) (hx:ev e x=some (.pointer (some ⟨b,o,none⟩))) (hk:Keeps φ b w0) (hb:Blk w0 b cs t0) (hv:(cs.drop o).take k=vs) (hl:vs.length=k):
  Does P n e ⟨dst,.load τ x,t,p,af,g⟩ φ (.agg vs.toArray):=fun a w ha hw=>by
 have:=Cr5 (P:=P) ht (hk.blk hb w hw) (off:=o) (by rw [hv];exact hl);rw [hv] at this;simp [execOp,ha.ev hx,Instr.loadAt,Instr.sureAddr,this]
theorem E8 {x:Operand} {τ:TypeId} {k b o:Nat} {w0:World} {vs:List Value} (ht:agg P τ k=true) (hx:ev e x=some (.pointer (some ⟨b,o,none⟩))) (hk:Keeps φ b w0) (hc:∀ j v,vs[j]?=some v→w0.cell? ⟨b,o+j,none⟩=some v) (hl:vs.length=k):
  Does P n e ⟨dst,.load τ x,t,p,af,g⟩ φ (.agg vs.toArray):=fun a w ha hw=>by
 have:=Am5 (P:=P) (w:=w) ht hl (b:=b) (off:=o) (fun j v hj=>hk.cell (hc j v hj) w hw);simp [execOp,ha.ev hx,Instr.loadAt,Instr.sureAddr,this]
theorem B3 {x:Operand} {τ t0:TypeId} {b o:Nat} {S:List Nat} {w0:World} {cs:List Value} {v:Value} (ht:one P τ=true) (hx:ev e x=some (.pointer (some ⟨b,o,none⟩))) (hb:Blk w0 b cs t0) (hn:b∉S) (hv:cs[o]?=some v):Does P n e ⟨dst,.load τ x,t,p,af,g⟩ (Chg S w0) v:=
 Bx5 ht hx (Keeps.q hb.lt hn) hb hv
theorem C1 {x:Operand} {τ t0:TypeId} {k b o:Nat} {S:List Nat} {w0:World} {cs vs:List Value} (ht:agg P τ k=true) (hx:ev e x=some (.pointer (some ⟨b,o,none⟩))) (hb:Blk w0 b cs t0) (hn:b∉S) (hv:(cs.drop o).take k=vs) (hl:vs.length=k):
  Does P n e ⟨dst,.load τ x,t,p,af,g⟩ (Chg S w0) (.agg vs.toArray):=Bx6 ht hx (Keeps.q hb.lt hn) hb hv hl
theorem E0 {x:Operand} {τ:TypeId} {b o:Nat} {S:List Nat} {w0:World} {v:Value} (ht:one P τ=true) (hx:ev e x=some (.pointer (some ⟨b,o,none⟩))) (hc:w0.cell? ⟨b,o,none⟩=some v) (hn:b∉S):Does P n e ⟨dst,.load τ x,t,p,af,g⟩ (Chg S w0) v:=
 Ab9 ht hx (Keeps.q (World.block_lt_of_cell? w0 ⟨b,o,none⟩ hc) hn) hc
theorem J5 {x:Operand} {τ:TypeId} {k b o:Nat} {S:List Nat} {w0:World} {vs:List Value} (ht:agg P τ k=true) (hx:ev e x=some (.pointer (some ⟨b,o,none⟩))) (hc:b<w0.heap.size∧∀ j v,vs[j]?=some v→w0.cell? ⟨b,o+j,none⟩=some v) (hn:b∉S) (hl:vs.length=k):
  Does P n e ⟨dst,.load τ x,t,p,af,g⟩ (Chg S w0) (.agg vs.toArray):=E8 ht hx (Keeps.q hc.1 hn) hc.2 hl
theorem Ab4 {f:FuncId} {fi cp:Array Operand} {fv cv:Array Value} (hf:∀ a,Rep n a e→fi.map a.eval=fv) (hc:∀ a,Rep n a e→cp.map a.eval=cv):Does P n e ⟨dst,.makeFunc (.func f) fi cp,t,p,af,g⟩ φ (.func (.func f) fv cv):=fun a w ha _=>by
 simp [execOp,Instr.makeFunc,hf a ha,hc a ha]
end
end Go.Clt
end
section
namespace Go.Clt
open Go Go.RowKit
section
variable {P:Program} {n:Nat} {ops:Array Oper} {S:World→Prop} {N:Env→World→Prop} {B:Nat→Env→World→Prop} {R:Env→World→Prop} {e:Env} {w:World} {rest:List (Nat × Oper)}
theorem C0 {l:List (Nat × Oper)} {d:Nat} {b:Bool} (hb:lk e d=some (.bool b)) (h1:b=true→EP P n ops S N B R l ((d,.bool true)::e) w) (h2:b=false→EP P n ops S N B R l ((d,.bool false)::e) w):EP P n ops S N B R l e w:=by
 have key:∀ c:Bool,b=c→∀ a,Rep n a e→Rep n a ((d,.bool c)::e):=fun c hc a ha=>⟨ha.size,fun i v hi=>by
  simp only [lk] at hi
  cases hq:Nat.beq i d with
  |true=>
   rw [hq] at hi;have:i=d:=Nat.eq_of_beq_eq_true hq;subst this;simp at hi;subst hi;exact ha.get i _ (by rw [hb,hc])
  |false=>rw [hq] at hi;exact ha.get i v hi,ha.defers⟩
 intro a ha
 cases hc:b with
 |true=>exact h1 hc a (key true hc a ha)
 |false=>exact h2 hc a (key false hc a ha)
theorem Ch5 {a:Act} {j d:Nat} {c c':Bool} (ha:Rep n a e) (hj:(ops[j]?).bind (·.dst)=some d) (hd:Nat.blt d n=true) (hv:lk e d=some (.bool c)) {o:Oper} (ho:o.guard=some (j,c')):Region.wanted o (yielded ops a.tmps)=(c==c'):=by
 have h1:=ha.get d _ hv;have hlt:d<a.tmps.size:=by rw [ha.size];simpa [Nat.blt_eq] using hd
 have h2:a.tmps[d]?=some (.bool c):=by
  rw [Et0 hlt];rw [Eo3,Et0 hlt] at h1
  simpa using h1
 unfold Region.wanted;rw [ho];simp only [yielded,hj,Option.bind_some,h2]
 cases c<;>cases c'<;>rfl
section
variable {dst:Option Tmp} {op:Op} {t:TypeId} {p:String} {af:Array Edge}
theorem EP.ung {k j d:Nat} {c:Bool} (hj:(ops[j]?).bind (·.dst)=some d) (hd:Nat.blt d n=true) (hv:lk e d=some (.bool c)) (h:EP P n ops S N B R ((k,⟨dst,op,t,p,af,none⟩)::rest) e w):EP P n ops S N B R ((k,⟨dst,op,t,p,af,some (j,c)⟩)::rest) e w:=fun a ha=>by
 have h1:=h a ha;have hw:Region.wanted ⟨dst,op,t,p,af,some (j,c)⟩ (yielded ops a.tmps)=true:=by rw [Ch5 ha hj hd hv J];simp
 match k,h1 with
 |0,h1=>
  simp only [N3] at h1 ⊢;obtain ⟨v,hy,h2⟩:=h1;refine ⟨v,?_,h2⟩
  rcases hy with ⟨_,hy⟩|⟨hy,_⟩
  ·exact .inl ⟨hw,hy⟩
  ·simp [Region.wanted] at hy
 |1,h1=>
  simp only [N3,wpO] at h1 ⊢;rw [Ek1 hw];simp only [Region.wanted,if_true] at h1;exact h1
 |k+2,h1=>
  simp only [N3,wpO] at h1 ⊢;rw [Ek1 hw];simp only [Region.wanted,if_true] at h1;exact h1
theorem Ej3 {k j d x:Nat} {c c':Bool} (hj:(ops[j]?).bind (·.dst)=some d) (hd:Nat.blt d n=true) (hv:lk e d=some (.bool c)) (hc:(c==c')=false) (hx:Nat.blt x n=true) (hk:k=1→S w) (h:EP P n ops S N B R rest ((x,undef)::e) w):
  EP P n ops S N B R ((k,⟨some x,op,t,p,af,some (j,c')⟩)::rest) e w:=fun a ha=>by
 have hw:Region.wanted ⟨some x,op,t,p,af,some (j,c')⟩ (yielded ops a.tmps)=false:=by rw [Ch5 ha hj hd hv J];exact hc
 have h1:=h _ (ha.put x undef hx)
 match k,hk with
 |0,_=>simp only [N3];exact ⟨undef,.inr ⟨hw,rfl⟩,h1⟩
 |1,hk=>simp only [N3,wpO];rw [Ek0 (by rw [hw];simp)];exact ⟨hk rfl,h1⟩
 |k+2,_=>simp only [N3,wpO];rw [Ek0 (by rw [hw];simp)];exact h1
end
end
theorem C8 {P:Program} {n:Nat} {ops:Array Oper} {N:Env→World→Prop} {B:Nat→Env→World→Prop} {R:Env→World→Prop} {e:Env} {w:World} {id:Nat} {S:List Nat} (tl:Nat) (l:List (Nat × Nat)) (hm:P.follows .mixedOrders=true)
  (hB:(Region.noSelect ops && Cs9 .any ops tl && Cu0 .any ops tl l (Array.replicate ops.size false) && l.length==ops.size)=true)
  (h:∀ w',Chg [] w w'→w'.heap.size=w.heap.size→EP P n ops (Chg S w') N B R (Bz9 ops l) e w'):EW P n (.region id ops true) N B R e w:=
 EW.drw (Chg S { w with drawn:=w.drawn+1 }) tl l hm hB (A8 _ _) (h _ (Chg.drawn _ _) J)
section
variable {P:Program} {n:Nat} {ops:Array Oper} {S:World→Prop} {N:Env→World→Prop} {B:Nat→Env→World→Prop} {R:Env→World→Prop} {e:Env} {w:World}
variable {rest:List (Nat × Oper)} {d:Nat} {op:Op} {t:TypeId} {p:String} {af:Array Edge}
def News (P:Program) (n:Nat) (e:Env) (o:Oper) (w:World) (cs:List Value) (τ:TypeId) (mk:Nat→Value):Prop:=
 ∀ a,Rep n a e→(execOp a.eval o).run P w= .ok (.value (mk w.heap.size)) (w.alloc (.cells cs.toArray τ))
theorem B5 {cs:List Value} {τ:TypeId} {mk:Nat→Value} (hd:Nat.blt d n=true) (hy:News P n e ⟨some d,op,t,p,af,none⟩ w cs τ mk)
  (h:∀ b w',b=w.heap.size→w'.heap.size=b+1→Chg [] w w'→Blk w' b cs τ→EP P n ops S N B R rest ((d,mk b)::e) w'):EP P n ops S N B R ((2,⟨some d,op,t,p,af,none⟩)::rest) e w:=
 Cz7 hd hy (h _ _ J (by simp) (Chg.alloc [] w _) (Eh1 w cs τ))
theorem E2 {cs:List Value} {τ:TypeId} {mk:Nat→Value} (hd:Nat.blt d n=true) (hy:News P n e ⟨some d,op,t,p,af,none⟩ w cs τ mk)
  (h:∀ b w',b=w.heap.size→w'.heap.size=b+1→Chg [] w w'→Blk w' b cs τ→S w'∧EP P n ops S N B R rest ((d,mk b)::e) w'):EP P n ops S N B R ((1,⟨some d,op,t,p,af,none⟩)::rest) e w:=
 let h':=h _ _ J (by simp) (Chg.alloc [] w _) (Eh1 w cs τ)
 EP.x1 hd hy h'.1 h'.2
def K5 (P:Program) (τ:TypeId):Option Value:=(P.info? τ).bind (·.zero)
variable {dst:Option Tmp} {g:Option (Nat × Bool)}
theorem E1 {x:Operand} {τ:TypeId} {v:Value} {cs:List Value} (hx:ev e x=some v) (hc:v.cells=cs.toArray):News P n e ⟨dst,.box τ x,t,p,af,g⟩ w cs τ (fun b=>.pointer (some ⟨b,0,none⟩)):=fun a ha=>by
 simp [execOp,ha.ev hx,Instr.box,newVar,newRow,hc]
theorem B8 {τ:TypeId} {z:Value} {cs:List Value} (hz:K5 P τ=some z) (hc:z.cells=cs.toArray):News P n e ⟨dst,.alloc τ,t,p,af,g⟩ w cs τ (fun b=>.pointer (some ⟨b,0,none⟩)):=fun a ha=>by
 unfold K5 at hz;obtain ⟨i,hi,hz⟩:=Eq9.1 hz;simp [execOp,Instr.alloc,zeroValue,typeInfo,hi,hz,newVar,newRow,hc]
def evs (e:Env):List Operand→Option (List Value)
 |[]=>some []
 |x::r=>match ev e x with
  |none=>none
  |some v=>match evs e r with
   |none=>none
   |some vs=>some (v::vs)
def evp (e:Env):List (Nat × Operand)→Option (List (Nat × Value))
 |[]=>some []
 |q::r=>match ev e q.2 with
  |none=>none
  |some v=>match evp e r with
   |none=>none
   |some vs=>some ((q.1,v)::vs)
theorem Bk9 {parts:Array (Nat × Operand)} {vs:List (Nat × Value)} {a:Act} (ha:Rep n a e) (hp:evp e parts.toList=some vs):(parts.map fun (i,x)=>(i,a.eval x)).toList=vs:=by
 obtain ⟨l⟩:=parts;simp only [List.map_toArray] at*
 induction l generalizing vs with
 |nil=>simp [evp] at hp;subst hp;rfl
 |cons q r ih=>
  simp only [evp] at hp
  cases hv:ev e q.2 with
  |none=>rw [hv] at hp;cases hp
  |some v=>
   rw [hv] at hp
   cases hr:evp e r with
   |none=>rw [hr] at hp;cases hp
   |some us=>
    rw [hr] at hp;simp at hp;subst hp;have:=ih hr;simp only [En3];rw [ha.ev hv]
    simpa using this
theorem Bp2 {τ el:TypeId} {len sz:Nat} {parts:Array (Nat × Operand)} {vs:List (Nat × Value)} {z:Value} {cs:List Value} (ht:slB P τ sz=true) (hel:P.underlying τ=some (.slice el)) (hz:K5 P el=some z) (hlen:Nat.ble (len*sz) 16777216=true)
  (hp:evp e parts.toList=some vs)
  (hfill:Instr.fill (fun i=>some (i*sz,sz)) ((Array.range (len*sz)).map (z.cells[· % z.cells.size]!)) vs=some cs.toArray):
  News P n e ⟨dst,.buildSlice τ len parts,t,p,af,g⟩ w cs el (fun b=>.slice (some ⟨b,0,none⟩) len len):=fun a ha=>by
 obtain ⟨el',inf,hu,hi,hs⟩:=Bg1 ht;have:el'=el:=by rw [hu] at hel;injection hel with h;injection h
 subst this;unfold K5 at hz;obtain ⟨i,hi',hz⟩:=Eq9.1 hz;rw [hi] at hi';injection hi' with hi'
 subst hi';have hle:¬ (len*inf.size > 2 ^ 24):=by have:=Nat.le_of_ble_eq_true hlen;rw [hs];omega
 obtain ⟨arr,harr,hcs⟩:∃ arr,Instr.fill (fun i=>some (i*sz,sz)) ((Array.range (len*sz)).map (z.cells[· % z.cells.size]!)) vs=some arr∧arr.toList=cs:=⟨_,hfill,by simp⟩;subst hcs;have hvs:=Bk9 ha hp;subst hs;have hvs':(parts.map fun (i,x)=>(i,a.eval x)).toList=vs:=hvs;simp only [execOp,Instr.buildSlice,Sem.run_bind,run_underlying hu,Result.andThen_ok,sizeOf,typeInfo,run_program,hi,Sem.run_pure];rw [Ek0 hle]
 by_cases h0:len*inf.size=0
 ·have harr0:Instr.fill (fun i=>some (i*inf.size,inf.size)) #[] vs=some arr:=by rw [h0,show ((Array.range 0).map (z.cells[· % z.cells.size]!))= #[] from by simp [Array.range]] at harr;exact harr
  rw [Ek1 h0,h0];simp only [Sem.run_pure,Sem.run_bind,Result.andThen_ok];rw [hvs',show ((Array.range 0).map ((#[]:Array Value)[· % (#[]:Array Value).size]!))= #[] from by simp [Array.range],harr0];simp [newRow]
 ·rw [Ek0 h0];simp only [Sem.run_pure,Sem.run_bind,Result.andThen_ok,zeroValue,typeInfo,run_program,hi,hz];rw [hvs',harr];simp [newRow]
theorem Eh0 {b o:Nat} {cs vs:List Value} {τ:TypeId} (hb:Blk w b cs τ) (hl:o+vs.length≤cs.length) (h1:∀ v∈vs,v.oneCell'=true):
  ∃ w',(storeCells ⟨b,o,none⟩ vs).run P w= .ok () w'∧Chg [b] w w'∧w'.heap.size=w.heap.size∧Blk w' b (cs.take o++vs++cs.drop (o+vs.length)) τ:=by
 have:=run_storeCells_at P b o τ vs 0 cs.toArray w hb (by simpa using hl) h1;refine ⟨_,this,⟨rfl,rfl,rfl,by simp [World.setRow],fun k _ hk=>setRow_other w b k _ (fun h=>hk (by simp [h]))⟩,by simp [World.setRow],?_⟩;have h2:=setRow_heap w b cs.toArray (((cs.toArray).toList.take (o+0)++vs++(cs.toArray).toList.drop (o+0+vs.length)).toArray) τ (0,0) hb
 simpa [Blk] using h2
theorem Bs0 {τ:TypeId} {k:Nat} (h:((P.info? τ).map (·.size)==some k)=true) (w:World):(sizeOf τ).run P w= .ok k w:=by
 simp only [beq_iff_eq,Es7] at h;obtain ⟨i,hi,hs⟩:=h;simp [sizeOf,typeInfo,hi,hs]
def szB (P:Program) (τ:TypeId) (k:Nat):Bool:=(P.info? τ).map (·.size)==some k
def Puts (P:Program) (n:Nat) (e:Env) (o:Oper) (w:World) (b:Nat) (cs:List Value) (τ:TypeId):Prop:=
 ∃ w',(∀ a,Rep n a e→(execOp a.eval o).run P w= .ok .skip w')∧Chg [b] w w'∧w'.heap.size=w.heap.size∧Blk w' b cs τ
theorem G3 {x y:Operand} {τ t0:TypeId} {b o k:Nat} {v:Value} {cs vs cs':List Value} (hs:szB P τ k=true) (hx:ev e x=some (.pointer (some ⟨b,o,none⟩))) (hy:ev e y=some v) (hb:Blk w b cs t0)
  (hv:v.cells=vs.toArray) (hk:vs.length=k) (h1:vs.all Value.oneCell'=true) (hl:Nat.ble (o+k) cs.length=true) (hc:cs.take o++vs++cs.drop (o+k)=cs'):Puts P n e ⟨dst,.store τ x y,t,p,af,g⟩ w b cs' t0:=by
 subst hc;obtain ⟨w',hr,h2,h3,h4⟩:=Eh0 (P:=P) hb (o:=o) (vs:=vs) (by rw [hk];exact Nat.le_of_ble_eq_true hl) (fun u hu=>by rw [Er5] at h1;exact h1 u hu);refine ⟨w',fun a ha=>?_,h2,h3,by rw [← hk];exact h4⟩;have hsz:v.cells.size=k:=by rw [hv];simpa using hk
 simp [execOp,ha.ev hx,ha.ev hy,Instr.storeAt,Instr.sureAddr,storeVar,Bs0 hs,hsz,hv,hk,hr]
theorem Ej4 {b:Nat} {cs:List Value} {τ:TypeId} (hy:Puts P n e ⟨none,op,t,p,af,none⟩ w b cs τ)
  (h:∀ w',w'.heap.size=w.heap.size→Chg [b] w w'→Blk w' b cs τ→EP P n ops S N B R rest e w'):EP P n ops S N B R ((2,⟨none,op,t,p,af,none⟩)::rest) e w:=by
 obtain ⟨w',hr,h2,h3,h4⟩:=hy;exact EP.s2 hr (h w' h3 h2 h4)
def D3 (P:Program) (f:FuncId):Bool:=match P.funcs[f]? with|some fn=> !(fn.name== "runtime.NumGoroutine") && !fn.body.isNone|none=>false
theorem Aw7 {f:FuncId} (h:D3 P f=true) (args:Array Value) (w:World):(callFunc f args).run P w= .ok (.enter f args) w:=by
 unfold D3 at h
 cases hf:P.funcs[f]? with
 |none=>rw [hf] at h;cases h
 |some fn=>
  rw [hf] at h;simp only [Ek6,Bool.not_eq_true'] at h;simp only [callFunc,Sem.run_bind,run_program,Result.andThen_ok,hf,h.1,h.2]
  rfl
theorem U7 {xs:Array Operand} {vs:List Value} {a:Act} (ha:Rep n a e) (hp:evs e xs.toList=some vs):xs.map a.eval=vs.toArray:=by
 obtain ⟨l⟩:=xs;simp only [List.map_toArray] at*
 congr 1
 induction l generalizing vs with
 |nil=>simp [evs] at hp;subst hp;rfl
 |cons q r ih=>
  simp only [evs] at hp
  cases hv:ev e q with
  |none=>rw [hv] at hp;cases hp
  |some v=>
   rw [hv] at hp
   cases hr:evs e r with
   |none=>rw [hr] at hp;cases hp
   |some us=>
    rw [hr] at hp;simp at hp;subst hp;simp only [En3];rw [ha.ev hv,ih hr]
def Enters (P:Program) (n:Nat) (e:Env) (o:Oper) (w:World) (f:FuncId) (args:Array Value):Prop:=∀ a,Rep n a e→(execOp a.eval o).run P w= .ok (.enter f args) w
theorem C3 {f:FuncId} {xs:Array Operand} {ts:Array TypeId} {vs:List Value} (hf:D3 P f=true) (hp:evs e xs.toList=some vs):
  Enters P n e ⟨dst,.call { callee:=.value (.func f),args:=xs,argTypes:=ts },t,p,af,g⟩ w f vs.toArray:=fun a ha=>by
 have:a.eval (.func f)= .func (.func f) #[] #[]:=ha.ev J;simp [execOp,resolve,this,Deferred.ofValue,U7 ha hp,invoke,Aw7 hf]
theorem O0 {f:FuncId} {x:Operand} {xs:Array Operand} {ts:Array TypeId} {vs:List Value} {fi cp:Array Value} (hx:ev e x=some (.func (.func f) fi cp)) (hf:D3 P f=true) (hp:evs e xs.toList=some vs):
  Enters P n e ⟨dst,.call { callee:=.value x,args:=xs,argTypes:=ts },t,p,af,g⟩ w f (fi++vs.toArray++cp):=fun a ha=>by
 simp [execOp,resolve,ha.ev hx,Deferred.ofValue,U7 ha hp,invoke,Aw7 hf]
theorem P0 {f:FuncId} {args:Array Value} {T:Value→World→Prop} (hd:Nat.blt d n=true) (hy:Enters P n e ⟨some d,op,t,p,af,none⟩ w f args) (hc:Calls P f args w (Ret T))
  (h:∀ v w',T v w'→EP P n ops S N B R rest ((d,v)::e) w'):EP P n ops S N B R ((2,⟨some d,op,t,p,af,none⟩)::rest) e w:=EP.c2 hd hy hc h
theorem C5 {f:FuncId} {args:Array Value} {T:Value→World→Prop} (hd:Nat.blt d n=true) (hy:Enters P n e ⟨some d,op,t,p,af,none⟩ w f args) (hc:Calls P f args w (Ret T))
  (h:∀ v w',T v w'→S w'∧EP P n ops S N B R rest ((d,v)::e) w'):EP P n ops S N B R ((1,⟨some d,op,t,p,af,none⟩)::rest) e w:=EP.c1 hd hy hc h
def plB (P:Program) (τ:TypeId):Option (List (Nat × Nat)):=
 match P.underlying τ with
 |some (.struct fs)=>fs.toList.mapM fun f=>(P.info? f.type).map fun i=>(f.offset,i.size)
 |_=>none
theorem Bs5 (w:World):∀ (fs:List Field) (pl:List (Nat × Nat)),(fs.mapM fun f=>(P.info? f.type).map fun i=>(f.offset,i.size))=some pl→(fs.mapM fun f=>do pure (f.offset,← sizeOf f.type):Sem (List (Nat × Nat))).run P w= .ok pl w
 |[],pl,h=>by simp at h;subst h;simp
 |f::fs,pl,h=>by
  simp only [List.mapM_cons,Option.bind_eq_bind,Eq9,Es7] at h;obtain ⟨q,⟨i,hi,rfl⟩,us,hus,h⟩:=h;simp at h;subst h;have:=Bs5 w fs us hus;simp [List.mapM_cons,sizeOf,typeInfo,hi,this] at*;simp [this]
theorem Cz9 {φ:World→Prop} {τ:TypeId} {parts:Array (Nat × Operand)} {vs:List (Nat × Value)} {z:Value} {pl:List (Nat × Nat)} {cs:List Value} (hz:K5 P τ=some z) (hpl:plB P τ=some pl) (hp:evp e parts.toList=some vs)
  (hfill:Instr.fill (pl[·]?) z.cells vs=some cs.toArray):Does P n e ⟨dst,.build τ parts,t,p,af,g⟩ φ (.agg cs.toArray):=fun a w ha _=>by
 unfold K5 at hz;obtain ⟨i,hi,hz⟩:=Eq9.1 hz;unfold plB at hpl
 cases hu:P.underlying τ with
 |none=>rw [hu] at hpl;cases hpl
 |some dd=>
  rw [hu] at hpl
  cases dd<;>try (cases hpl;done)
  rename_i fs
  have h1:=Bs5 (P:=P) w fs.toList pl hpl;have h2:=Bk9 ha hp
  have h3:(fs.mapM fun f=>do pure (f.offset,← sizeOf f.type):Sem (Array (Nat × Nat))).run P w= .ok pl.toArray w:=by
   rw [Array.mapM_eq_mapM_toList,Sem.run_map,h1]
   rfl
  simp only [execOp,Instr.build,Sem.run_bind,zeroValue,typeInfo,run_program,hi,hz,Sem.run_pure,Result.andThen_ok,run_underlying hu,h3];rw [h2,show (fun x=>pl.toArray[x]?)=(fun x=>pl[x]?) from by funext x;simp,hfill];simp
theorem Bq0 {φ:World→Prop} {τ:TypeId} {len sz:Nat} {parts:Array (Nat × Operand)} {vs:List (Nat × Value)} {z:Value} {cs:List Value} (hz:K5 P τ=some z) (har:arB P τ len sz=true) (hp:evp e parts.toList=some vs)
  (hfill:Instr.fill (fun i=>some (i*sz,sz)) z.cells vs=some cs.toArray):Does P n e ⟨dst,.build τ parts,t,p,af,g⟩ φ (.agg cs.toArray):=fun a w ha _=>by
 unfold K5 at hz;obtain ⟨i,hi,hz⟩:=Eq9.1 hz;obtain ⟨el,inf,hu,hi2,hs⟩:=Cf5 har;have h2:=Bk9 ha hp;simp only [execOp,Instr.build,Sem.run_bind,zeroValue,typeInfo,run_program,hi,hz,Sem.run_pure,Result.andThen_ok,run_underlying hu,sizeOf,hi2,hs];rw [h2,hfill];simp
end
end Go.Clt
end
section
namespace Go.Clt
open Go Go.RowKit
structure Rd (F:Nat→Prop) (w:World) (sz:Nat) (A:Option Addr) (n:Nat) (cs:List Value):Prop where
 len:cs.length=n*sz
 at_:0<n→∃ g off,A=some ⟨g,off,none⟩∧F g∧g<w.heap.size∧∀ j v,cs[j]?=some v→w.cell? ⟨g,off+j,none⟩=some v
theorem Rd.nil (F:Nat→Prop) (w:World) (sz:Nat) (A:Option Addr):Rd F w sz A 0 []:=⟨by simp,fun h=>absurd h (by omega)⟩
theorem Chg.cell {S:List Nat} {w w':World} (k:Chg S w w') {g o:Nat} {v:Value} (hg:g∉S) (hc:w.cell? ⟨g,o,none⟩=some v):w'.cell? ⟨g,o,none⟩=some v:=by
 have:=k.same g (World.block_lt_of_cell? w ⟨g,o,none⟩ hc) hg;unfold World.cell? at*;rw [this];exact hc
theorem Rd.q {F:Nat→Prop} {w w':World} {sz n:Nat} {A:Option Addr} {cs:List Value} {S:List Nat} (h:Rd F w sz A n cs) (k:Chg S w w') (hS:∀ b∈S,¬ F b):Rd F w' sz A n cs:=
 ⟨h.len,fun hn=>by
  obtain ⟨g,off,hA,hF,hlt,hc⟩:=h.at_ hn
  exact ⟨g,off,hA,hF,Et6 hlt k.size,fun j v hj=>k.cell (fun hg=>hS g hg hF) (hc j v hj)⟩⟩
theorem Rd.u {F:Nat→Prop} {w w':World} {sz n:Nat} {A:Option Addr} {cs:List Value} (h:Rd F w sz A n cs) (k:Chg [] w w'):Rd F w' sz A n cs:=h.q k (fun b hb=>by cases hb)
theorem Rd.mono {F F':Nat→Prop} {w:World} {sz n:Nat} {A:Option Addr} {cs:List Value} (h:Rd F w sz A n cs) (hF:∀ b,F b→b<w.heap.size→F' b):Rd F' w sz A n cs:=
 ⟨h.len,fun hn=>by
  obtain ⟨g,off,hA,hF0,hlt,hc⟩:=h.at_ hn
  exact ⟨g,off,hA,hF g hF0 hlt,hlt,hc⟩⟩
def Own (w:World) (lo:Nat) (el:TypeId) (sz:Nat) (A:Option Addr) (n c:Nat) (cs:List Value):Prop:=w.ownsRow lo el sz (.slice A n c) n cs
theorem Own.nil (w:World) (lo:Nat) (el:TypeId) (sz:Nat):Own w lo el sz none 0 0 []:=World.ownsRow_nil w lo el sz
theorem Own.cap {w:World} {lo:Nat} {el:TypeId} {sz n c:Nat} {A:Option Addr} {cs:List Value} (h:Own w lo el sz A n c cs):n≤c:=by
 rcases h.2 with ⟨h1,h2⟩|⟨g,cap,cur,h1,_,_,h2,_⟩
 ·omega
 ·cases h1;exact h2
theorem Own.form {w:World} {lo:Nat} {el:TypeId} {sz n c:Nat} {A:Option Addr} {cs:List Value} (h:Own w lo el sz A n c cs):(A=none∧n=0)∨∃ g cur,A=some ⟨g,0,none⟩∧lo≤g∧Blk w g cur el∧cur.length=c*sz∧cur.take (n*sz)=cs:=by
 rcases h.2 with ⟨h1,h2⟩|⟨g,cap,cur,h1,hb,hh,h2,_,h3,h4⟩
 ·cases h1;exact .inl ⟨rfl,rfl⟩
 ·cases h1;exact .inr ⟨g,cur.toList,rfl,hb,by simpa [Blk] using hh,by simpa using h3,h4⟩
theorem Own.q {w w':World} {lo:Nat} {el:TypeId} {sz n c:Nat} {A:Option Addr} {cs:List Value} {S:List Nat} (h:Own w lo el sz A n c cs) (k:Chg S w w') (hS:∀ b∈S,b<lo∨A≠some ⟨b,0,none⟩):Own w' lo el sz A n c cs:=by
 refine ⟨h.1,?_⟩
 rcases h.2 with h1|⟨g,cap,cur,h1,hb,hh,r⟩
 ·exact .inl h1
 ·refine .inr ⟨g,cap,cur,h1,hb,(k.same g (Eo5.1 hh).1 fun hg=>?_).trans hh,r⟩
  rcases hS g hg with h2|h2
  ·omega
  ·cases h1;exact h2 J
theorem Own.u {w w':World} {lo:Nat} {el:TypeId} {sz n c:Nat} {A:Option Addr} {cs:List Value} (h:Own w lo el sz A n c cs) (k:Chg [] w w'):Own w' lo el sz A n c cs:=h.q k (fun b hb=>by cases hb)
theorem Own.lower {w:World} {lo lo':Nat} {el:TypeId} {sz n c:Nat} {A:Option Addr} {cs:List Value} (h:Own w lo el sz A n c cs) (hl:lo'≤lo):Own w lo' el sz A n c cs:=by
 refine ⟨h.1,?_⟩
 rcases h.2 with h1|⟨g,cap,cur,h1,hb,r⟩
 ·exact .inl h1
 ·exact .inr ⟨g,cap,cur,h1,En6 hl hb,r⟩
theorem Own.rd {w:World} {lo:Nat} {el:TypeId} {sz n c:Nat} {A:Option Addr} {cs:List Value} (h:Own w lo el sz A n c cs) {F:Nat→Prop} (hF:∀ b,lo≤b→b<w.heap.size→F b):Rd F w sz A n cs:=by
 refine ⟨h.1,fun hn=>?_⟩
 rcases h.form with ⟨_,h0⟩|⟨g,cur,hA,hlo,hb,hl,ht⟩
 ·omega
 ·refine ⟨g,0,hA,hF g hlo hb.lt,hb.lt,fun j v hj=>?_⟩;rw [hb.cell,El6];rw [← ht,List.getElem?_take] at hj
  split at hj
  ·exact hj
  ·cases hj
section
variable {P:Program} {n:Nat} {ops:Array Oper} {S:World→Prop} {N:Env→World→Prop} {B:Nat→Env→World→Prop} {R:Env→World→Prop} {e:Env} {w:World}
variable {rest:List (Nat × Oper)} {d:Nat} {op:Op} {t:TypeId} {p:String} {af:Array Edge} {dst:Option Tmp} {g:Option (Nat × Bool)}
def F7:Option Addr→List Nat
 |some a=>[a.block]
 |none=>[]
def elB (P:Program) (τ el:TypeId) (sz bytes:Nat):Bool:=
 (match P.underlying τ with|some (.slice x)=>x==el|_=>false) && (match P.info? el with|some i=>i.size==sz && i.bytes==bytes && (match i.zero with|some z=>z.cells.size==sz|none=>false)|none=>false) && decide (0<sz) && decide (0<bytes)
theorem Dg5 {τ el:TypeId} {sz bytes:Nat} (h:elB P τ el sz bytes=true):P.underlying τ=some (.slice el)∧0<sz∧0<bytes∧∃ i z,P.info? el=some i∧i.size=sz∧i.bytes=bytes∧i.zero=some z∧z.cells.size=sz:=by
 simp only [elB,Ek6,Em0] at h;obtain ⟨⟨⟨h1,h2⟩,h3⟩,h4⟩:=h
 refine ⟨?_,h3,h4,?_⟩
 ·cases hu:P.underlying τ with
  |none=>rw [hu] at h1;cases h1
  |some dd=>rw [hu] at h1;cases dd<;>first|(cases h1;done)|(simp at h1;subst h1;rfl)
 ·cases hi:P.info? el with
  |none=>rw [hi] at h2;cases h2
  |some i=>
   rw [hi] at h2;simp only [Ek6,beq_iff_eq] at h2;obtain ⟨⟨ha,hb⟩,hc⟩:=h2
   cases hz:i.zero with
   |none=>rw [hz] at hc;cases hc
   |some z=>rw [hz] at hc;exact ⟨i,z,rfl,ha,hb,hz,by simpa using hc⟩
theorem Bs6 {τ el ty:TypeId} {sz bytes lo n c m c2:Nat} {A A2:Option Addr} {cs cs2:List Value} {F:Nat→Prop} (ht:elB P τ el sz bytes=true) (ho:Own w lo el sz A n c cs) (hr:Rd F w sz A2 m cs2) (h1:∀ u∈cs2,u.oneCell'=true)
  (hl:(n+m)*bytes≤140737488355328) (hlo:lo≤w.heap.size):
  ∃ A' c' w',(Builtin.append_ #[τ,τ] ty #[.slice A n c,.slice A2 m c2]).run P w= .ok (.slice A' (n+m) c') w'∧Own w' lo el sz A' (n+m) c' (cs++cs2)∧Chg (F7 A) w w'∧(A'=A∨∃ b,A'=some ⟨b,0,none⟩∧w.heap.size≤b):=by
 obtain ⟨hu,hsz,hby,i,z,hi,hs,hb,hz,hzs⟩:=Dg5 ht;have hle:n+m≤140737488355328:=En6 (Nat.le_mul_of_pos_right _ hby) hl
 have hchg:∀ {w':World},w.grownBy w' (Value.ownBlock (.slice A n c))→Chg (F7 A) w w':=fun hg=>by
  have:=Bf1 hg
  cases A<;>simpa [Value.ownBlock,F7] using this
 rcases Nat.eq_zero_or_pos m with hm|hm
 ·subst hm;obtain rfl:cs2=[]:=Eq6 (by simpa using hr.len);have hnc:=ho.cap;refine ⟨A,c,w,?_,by simpa using ho,A8 _ _,.inl J⟩;rcases ho.form with ⟨rfl,rfl⟩|⟨g,cur,rfl,_⟩<;>cases A2<;>simp [Builtin.append_,run_underlying hu,sizeOf,typeInfo,hi,Builtin.lenOf,Builtin.firstCells,storeCells,hnc,loadCells,loadCellsFrom]
 ·obtain ⟨g2,o2,rfl,hF,hlt,hc⟩:=hr.at_ hm;obtain ⟨v',w',h2,h3,h4,_,h6⟩:=run_append_own_at (P:=P) w lo τ ty el i z sz bytes hu hi hz hs hb hzs hsz (.slice A n c) n cs ho ⟨g2,o2,none⟩ m c2 cs2 hr.len (fun j u hj=>by rw [add0];exact hc j u hj) h1 (by simp only [maxLen];omega) hl hlo
  have hv:∃ A' c',v'= .slice A' (n+m) c':=by
   rcases h3.2 with ⟨hv,hn⟩|⟨g,cap,cur,hv,_⟩
   ·exact ⟨none,0,by rw [hv];congr 1;omega⟩
   ·exact ⟨_,cap,hv⟩
  obtain ⟨A',c',rfl⟩:=hv;refine ⟨A',c',w',h2,h3,hchg h4,?_⟩;have hf:=World.ownsRow.lt h3;have hform:=Own.form (show Own w' lo el sz A' (n+m) c' (cs++cs2) from h3)
  rcases hform with ⟨_,h0⟩|⟨g',cur,rfl,_⟩
  ·omega
  ·rcases h6 with h6|h6
   ·left
    cases A with
    |none=>simp [Value.ownBlock] at h6
    |some a=>
     rcases ho.form with ⟨hA,_⟩|⟨g,cur',hA,_⟩
     ·cases hA
     ·injection hA with hA
      subst hA;simp [Value.ownBlock] at h6;rw [h6]
   ·right
    exact ⟨g',rfl,by simp [Value.ownBlock] at h6;omega⟩
theorem G1 {τ el:TypeId} {sz bytes lo n' c m c2:Nat} {x y:Operand} {A A2:Option Addr} {cs cs2:List Value} {F:Nat→Prop} (hd:Nat.blt d n=true) (ht:elB P τ el sz bytes=true)
  (hx:ev e x=some (.slice A n' c)) (hy:ev e y=some (.slice A2 m c2)) (ho:Own w lo el sz A n' c cs) (hr:Rd F w sz A2 m cs2) (h1:cs2.all Value.oneCell'=true) (hl:(n'+m)*bytes≤140737488355328) (hlo:lo≤w.heap.size)
  (h:∀ A' c' w',Own w' lo el sz A' (n'+m) c' (cs++cs2)→Chg (F7 A) w w'→(A'=A∨∃ b,A'=some ⟨b,0,none⟩∧w.heap.size≤b)→EP P n ops S N B R rest ((d,.slice A' (n'+m) c')::e) w'):
  EP P n ops S N B R ((2,⟨some d,.call { callee:=.builtin .append,args:= #[x,y],argTypes:= #[τ,τ] },t,p,af,none⟩)::rest) e w:=by
 obtain ⟨A',c',w',hrun,h2,h3,h4⟩:=Bs6 (ty:=t) (c2:=c2) ht ho hr (fun u hu=>by rw [Er5] at h1;exact h1 u hu) hl hlo;exact Cz7 hd (fun a ha=>by simp [execOp,resolve,invoke,builtin,ha.ev hx,ha.ev hy,hrun]) (h A' c' w' h2 h3 h4)
theorem Ab7 {τ el:TypeId} {sz bytes lo n' c m c2:Nat} {x y:Operand} {A A2:Option Addr} {cs cs2:List Value} {F:Nat→Prop} (hd:Nat.blt d n=true) (ht:elB P τ el sz bytes=true)
  (hx:ev e x=some (.slice A n' c)) (hy:ev e y=some (.slice A2 m c2)) (ho:Own w lo el sz A n' c cs) (hr:Rd F w sz A2 m cs2) (h1:cs2.all Value.oneCell'=true) (hl:(n'+m)*bytes≤140737488355328) (hlo:lo≤w.heap.size)
  (h:∀ A' c' w',Own w' lo el sz A' (n'+m) c' (cs++cs2)→Chg (F7 A) w w'→(A'=A∨∃ b,A'=some ⟨b,0,none⟩∧w.heap.size≤b)→S w'∧EP P n ops S N B R rest ((d,.slice A' (n'+m) c')::e) w'):
  EP P n ops S N B R ((1,⟨some d,.call { callee:=.builtin .append,args:= #[x,y],argTypes:= #[τ,τ] },t,p,af,none⟩)::rest) e w:=by
 obtain ⟨A',c',w',hrun,h2,h3,h4⟩:=Bs6 (ty:=t) (c2:=c2) ht ho hr (fun u hu=>by rw [Er5] at h1;exact h1 u hu) hl hlo;exact EP.x1 hd (fun a ha=>by simp [execOp,resolve,invoke,builtin,ha.ev hx,ha.ev hy,hrun]) (h A' c' w' h2 h3 h4).1 (h A' c' w' h2 h3 h4).2
theorem Blk.rd {b:Nat} {cs:List Value} {τ:TypeId} {F:Nat→Prop} (h:Blk w b cs τ) {sz m:Nat} (hl:cs.length=m*sz) (hF:F b):Rd F w sz (some ⟨b,0,none⟩) m cs:=
 ⟨hl,fun _=>⟨b,0,rfl,hF,h.lt,fun j v hj=>by rw [h.cell,El6];exact hj⟩⟩
theorem Blk.own {b lo:Nat} {cs:List Value} {τ:TypeId} (h:Blk w b cs τ) {sz m:Nat} (hl:cs.length=m*sz) (hlo:lo≤b) (hm:m≤9223372036854775807):Own w lo τ sz (some ⟨b,0,none⟩) m m cs:=
 ⟨hl,.inr ⟨b,m,cs.toArray,rfl,hlo,h,El1 _,by simpa [maxLen] using hm,by simpa using hl,by rw [← hl];simp⟩⟩
theorem O7 {τ el:TypeId} {sz bytes:Nat} {z:Value} {x:Operand} {i:Int} {cs:List Value} (ht:elB P τ el sz bytes=true) (hz:K5 P el=some z) (hx:ev e x=some (.int .i64 i)) (h0:0≤i) (hb:i.toNat*bytes≤140737488355328)
  (hc:(madeCells z.cells (i.toNat*sz)).toList=cs):News P n e ⟨dst,.makeSlice τ x x,t,p,af,g⟩ w cs el (fun b=>.slice (some ⟨b,0,none⟩) i.toNat i.toNat):=fun a ha=>by
 obtain ⟨hu,hsz,hby,inf,z',hi,hs,hb',hz',hzs⟩:=Dg5 ht;unfold K5 at hz;rw [hi] at hz;simp only [Option.bind_some] at hz;rw [hz] at hz';injection hz' with hz'
 subst hz';subst hc;have hle:i.toNat≤140737488355328:=En6 (Nat.le_mul_of_pos_right _ hby) hb;obtain ⟨m,rfl⟩:=Ep8 h0;simp only [Ek9] at*
 have hprod:(inf.bytes:Int)*(m:Int)≤281474976710656:=by
  have:((inf.bytes*m:Nat):Int)≤281474976710656:=by rw [hb',Nat.mul_comm];omega
  rwa [Int.natCast_mul] at this
 have hr:=run_make (P:=P) w τ el inf z hu hi hz .i64 .i64 m m (by omega) (by omega) hprod (by omega);simp only [Ek9] at hr;simp [execOp,ha.ev hx,hr,hs]
theorem T4 (z:Value) (m:Nat):(madeCells #[z] m).toList=List.replicate m z:=by
 apply List.ext_getElem
 ·simp [madeCells]
 ·intro i h1 h2;simp [madeCells,Nat.mod_one]
end
end Go.Clt
end
section
namespace Go.Clt
open Go
inductive PT where
 |seg (l:List (Nat × Nat))
 |two (l:List (Nat × Nat)) (i:Nat) (a:PT) (j:Nat) (b:PT)
 |three (l:List (Nat × Nat)) (i:Nat) (a:PT) (j:Nat) (b:PT) (k:Nat) (c:PT)
def As5:List (Nat × Nat)→Array Bool→Array Bool
 |[],x=>x
 |p::r,x=>As5 r (x.setIfInBounds p.2 true)
def segB (md:Region.Mode) (ops:Array Oper) (tl:Nat):List (Nat × Nat)→Array Bool→Bool
 |[],_=>true
 |(k,i)::r,listed=>
  (match k with
   |0=>decide (i<tl) && (Region.ready md ops listed).contains i && Region.free md ops listed i
   |1=>decide (i<tl) && (Region.ready md ops listed==[i])
   |_=>false) && segB md ops tl r (listed.setIfInBounds i true)
def Bz6 (md:Region.Mode) (ops:Array Oper) (tl:Nat):PT→Array Bool→Bool
 | .seg l,x=>Cu0 md ops tl l x
 | .two l i a j b,x=>segB md ops tl l x && (Region.ready md ops (As5 l x)==[i,j]) && decide (i<tl) && decide (j<tl) && Bz6 md ops tl a ((As5 l x).setIfInBounds i true) && Bz6 md ops tl b ((As5 l x).setIfInBounds j true)
 | .three l i a j b k c,x=>segB md ops tl l x && (Region.ready md ops (As5 l x)==[i,j,k]) && decide (i<tl) && decide (j<tl) && decide (k<tl) && Bz6 md ops tl a ((As5 l x).setIfInBounds i true) && Bz6 md ops tl b ((As5 l x).setIfInBounds j true) && Bz6 md ops tl c ((As5 l x).setIfInBounds k true)
def PT.deep:PT→Nat
 | .seg l=>l.length
 | .two l _ a _ b=>l.length+1+max a.deep b.deep
 | .three l _ a _ b _ c=>l.length+1+max a.deep (max b.deep c.deep)
section
variable {P:Program} {n:Nat} {ops:Array Oper} {S:World→Prop} {N:Env→World→Prop} {B:Nat→Env→World→Prop} {R:Env→World→Prop} {md:Region.Mode} {tl:Nat}
def ET (P:Program) (n:Nat) (ops:Array Oper) (S:World→Prop) (N:Env→World→Prop) (B:Nat→Env→World→Prop) (R:Env→World→Prop):PT→Env→World→Prop
 | .seg l,e,w=>EP P n ops S N B R (Bz9 ops l) e w
 | .two l i a j b,e,w=>EP P n ops S (fun e w=>EP P n ops S (fun e w=>ET P n ops S N B R a e w) B R (Bz9 ops [(1,i)]) e w∧EP P n ops S (fun e w=>ET P n ops S N B R b e w) B R (Bz9 ops [(1,j)]) e w) B R (Bz9 ops l) e w
 | .three l i a j b k c,e,w=>EP P n ops S (fun e w=>EP P n ops S (fun e w=>ET P n ops S N B R a e w) B R (Bz9 ops [(1,i)]) e w∧EP P n ops S (fun e w=>ET P n ops S N B R b e w) B R (Bz9 ops [(1,j)]) e w∧EP P n ops S (fun e w=>ET P n ops S N B R c e w) B R (Bz9 ops [(1,k)]) e w) B R (Bz9 ops l) e w
theorem wp_toQ {o:Oper} {a:Act} {w:World} {K K':Act→World→Prop} {N':Env→World→Prop} (h:∀ a w,K a w→K' a w)
  (hh:o.wp P a w K (Cj5 n N' B R)):o.wp P a w K' (Cj5 n N B R):=by
 unfold Oper.wp at*;generalize (execOp a.eval o).run P w=r at*
 cases r with
 |ok x w'=>
  cases x<;>simp only [Oper.upon] at hh ⊢
  ·exact h _ _ hh
  ·exact h _ _ hh
  all_goals first
   |exact h _ _ hh
   |exact Calls.mono hh (fun e w'' he=>by
     cases e with
     |returned v=>exact h _ _ he
     |panicked c=>exact he.elim
     |outgrown=>obtain ⟨_,_,hx⟩:=he;exact hx.elim)
   |exact Rows.mono hh (fun _ _ he=>h _ _ he)
   |exact hh
 |halt x w'=>cases x<;>simp only [Oper.upon] at hh ⊢<;>first|exact hh|exact hh.elim
theorem Ds1 {o:Oper} {a:Act} {w:World} {K K':Act→World→Prop} {N':Env→World→Prop} (h:∀ a w,K a w→K' a w)
  (hh:wpO P ops (Cj5 n N' B R) o K a w):wpO P ops (Cj5 n N B R) o K' a w:=by
 unfold wpO at*
 split
 ·rename_i hw
  rw [Ek1 hw] at hh
  rcases hh with hh|⟨_,_,_,hx⟩
  ·exact .inl (wp_toQ h hh)
  ·exact hx.elim
 ·rename_i hw
  rw [Ek0 hw] at hh;exact h _ _ hh
theorem Aj7:∀ (l:List (Nat × Nat)) (x:Array Bool),Closed md ops x→segB md ops tl l x=true→Closed md ops (As5 l x)
 |[],_,h,_=>h
 |(k,i)::r,x,h,hB=>by
  simp only [segB,Ek6] at hB;obtain ⟨hk,hB⟩:=hB
  have hr:i∈Region.ready md ops x:=by
   match k,hk with
   |0,hk=>simp only [Ek6] at hk;simpa using hk.1.2
   |1,hk=>simp only [Ek6,beq_iff_eq] at hk;simp [hk.2]
  obtain ⟨_,o,ho,hall⟩:=mem_ready.1 hr;exact Aj7 r _ (h.add ho hall) hB
theorem Aw5 (hs:Region.noSelect ops=true) (ht:Cs9 md ops tl=true) {N':Env→World→Prop} {fuel:Nat}:∀ (l:List (Nat × Nat)) (listed:Array Bool) (a:Act) (w:World),
  Closed md ops listed→segB md ops tl l listed=true→S w→N3 P ops S (Cj5 n N' B R) (Bz9 ops l) a w→
  (∀ a w,S w→Cj5 n N' B R .normal a w→Aj9 P md ops (Cj5 n N B R) S tl fuel (As5 l listed) a w)→Aj9 P md ops (Cj5 n N B R) S tl (fuel+l.length) listed a w
 |[],listed,a,w,_,_,hS,h,hN=>hN a w hS h
 |(k,i)::r,listed,a,w,hcl,hB,hS,h,hN=>by
  simp only [segB,Ek6] at hB;obtain ⟨hk,hB⟩:=hB;have hget:∀ {o:Oper},ops[i]?=some o→ops.getD i default=o:=fun {o} ho=>by simp [ho]
  match k,hk,h with
  |0,hk,h=>
   simp only [Ek6,Em0] at hk;obtain ⟨⟨hit,hr⟩,hf⟩:=hk;have hr':i∈Region.ready md ops listed:=by simpa using hr
   obtain ⟨_,o,ho,hall⟩:=mem_ready.1 hr';simp only [Bz9,En3,N3,hget ho] at h;obtain ⟨v,hy,h⟩:=h
   exact Bd2 ho (Region.noSelect_spec hs) (fun c a w hq=>hq) ht hit _ listed a w hcl (Region.free_spec ho hf) hr' hy hS
    (Aw5 hs ht r _ _ _ (hcl.add ho hall) hB hS h hN)
  |1,hk,h=>
   simp only [Ek6,Em0,beq_iff_eq] at hk;obtain ⟨hit,hr⟩:=hk;have hr':i∈Region.ready md ops listed:=by simp [hr]
   obtain ⟨_,o,ho,hall⟩:=mem_ready.1 hr';simp only [Bz9,En3,N3,hget ho] at h;refine ⟨fun h0=>(by rw [hr] at h0;cases h0),fun j hj=>?_⟩;have hji:j=i:=by simpa [hr] using hj
   rw [hji];exact Ah5 ho (Ds1 (fun a' w' h'=>⟨fun _=>h'.1,Aw5 hs ht r _ _ _ (hcl.add ho hall) hB h'.1 h'.2 hN⟩) h)
theorem V7 {Q:Exit→Act→World→Prop}:∀ (f g:Nat) (x:Array Bool) (a:Act) (w:World),f≤g→Aj9 P md ops Q S tl f x a w→Aj9 P md ops Q S tl g x a w
 |0,0,_,_,_,_,h=>h
 |0,g+1,x,a,w,_,h=>⟨fun _=>h.2,fun i hi=>by rw [h.1] at hi;cases hi⟩
 |f+1,0,_,_,_,hle,_=>by omega
 |f+1,g+1,x,a,w,hle,h=>⟨h.1,fun i hi=>wpOp_mono (fun a' w' h'=>⟨h'.1,V7 f g _ a' w' (by omega) h'.2⟩) (h.2 i hi)⟩
theorem Ao2 {i:Nat} {o:Oper} {listed:Array Bool} {fuel:Nat} {N':Env→World→Prop} {a:Act} {w:World} (ho:ops[i]?=some o) (hit:i<tl)
  (h:N3 P ops S (Cj5 n N' B R) (Bz9 ops [(1,i)]) a w) (hN:∀ a w,S w→Cj5 n N' B R .normal a w→Aj9 P md ops (Cj5 n N B R) S tl fuel (listed.setIfInBounds i true) a w):
  wpOp P ops (Cj5 n N B R) i (fun a' w'=>(i<tl→S w')∧Aj9 P md ops (Cj5 n N B R) S tl fuel (listed.setIfInBounds i true) a' w') a w:=by
 have hget:ops.getD i default=o:=by simp [ho]
 simp only [Bz9,En3,List.map_nil,N3,hget] at h;exact Ah5 ho (Ds1 (fun a' w' h'=>⟨fun _=>h'.1,hN _ _ h'.1 h'.2⟩) h)
theorem X9 (hs:Region.noSelect ops=true) (ht:Cs9 md ops tl=true):∀ (t:PT) (listed:Array Bool) (e:Env) (a:Act) (w:World),
  Closed md ops listed→Bz6 md ops tl t listed=true→S w→Rep n a e→ET P n ops S N B R t e w→Aj9 P md ops (Cj5 n N B R) S tl t.deep listed a w
 | .seg l,listed,e,a,w,hcl,hB,hS,ha,h=>Ag3 hs ht (fun c a w hq=>hq) l listed a w hcl hB (.inl hS) (h a ha)
 | .two l i x j y,listed,e,a,w,hcl,hB,hS,ha,h=>by
  simp only [Bz6,Ek6,Em0,beq_iff_eq] at hB;obtain ⟨⟨⟨⟨⟨h1,h2⟩,h3⟩,h4⟩,h5⟩,h6⟩:=hB;have hcl':=Aj7 (tl:=tl) l listed hcl h1;refine V7 (max x.deep y.deep+1+l.length) _ _ _ _ (by simp only [PT.deep];omega) (Aw5 hs ht l listed a w hcl h1 hS (h a ha) (fun a w hS hq=>?_));obtain ⟨e',he',hx,hy⟩:=hq;refine ⟨fun h0=>(by rw [h2] at h0;cases h0),fun k hk=>?_⟩;obtain ⟨_,o,ho,hall⟩:=mem_ready.1 hk;rw [h2] at hk;simp only [Eo4,List.not_mem_nil,or_false] at hk
  rcases hk with rfl|rfl
  ·exact Ao2 ho h3 (hx a he') (fun a' w' hS' ⟨e2,he2,hq⟩=>V7 _ _ _ _ _ (by omega) (X9 hs ht x _ e2 a' w' (hcl'.add ho hall) h5 hS' he2 hq))
  ·exact Ao2 ho h4 (hy a he') (fun a' w' hS' ⟨e2,he2,hq⟩=>V7 _ _ _ _ _ (by omega) (X9 hs ht y _ e2 a' w' (hcl'.add ho hall) h6 hS' he2 hq))
 | .three l i x j y m z,listed,e,a,w,hcl,hB,hS,ha,h=>by
  simp only [Bz6,Ek6,Em0,beq_iff_eq] at hB;obtain ⟨⟨⟨⟨⟨⟨⟨h1,h2⟩,h3⟩,h4⟩,h4'⟩,h5⟩,h6⟩,h7⟩:=hB;have hcl':=Aj7 (tl:=tl) l listed hcl h1;refine V7 (max x.deep (max y.deep z.deep)+1+l.length) _ _ _ _ (by simp only [PT.deep];omega) (Aw5 hs ht l listed a w hcl h1 hS (h a ha) (fun a w hS hq=>?_));obtain ⟨e',he',hx,hy,hz⟩:=hq;refine ⟨fun h0=>(by rw [h2] at h0;cases h0),fun k hk=>?_⟩;obtain ⟨_,o,ho,hall⟩:=mem_ready.1 hk;rw [h2] at hk;simp only [Eo4,List.not_mem_nil,or_false] at hk
  rcases hk with rfl|rfl|rfl
  ·exact Ao2 ho h3 (hx a he') (fun a' w' hS' ⟨e2,he2,hq⟩=>V7 _ _ _ _ _ (by omega) (X9 hs ht x _ e2 a' w' (hcl'.add ho hall) h5 hS' he2 hq))
  ·exact Ao2 ho h4 (hy a he') (fun a' w' hS' ⟨e2,he2,hq⟩=>V7 _ _ _ _ _ (by omega) (X9 hs ht y _ e2 a' w' (hcl'.add ho hall) h6 hS' he2 hq))
  ·exact Ao2 ho h4' (hz a he') (fun a' w' hS' ⟨e2,he2,hq⟩=>V7 _ _ _ _ _ (by omega) (X9 hs ht z _ e2 a' w' (hcl'.add ho hall) h7 hS' he2 hq))
theorem Bp5 {e:Env} {w:World} {id:Nat} {S:List Nat} (tl:Nat) (t:PT) (hm:P.follows .mixedOrders=true)
  (hB:(Region.noSelect ops && Cs9 .any ops tl && Bz6 .any ops tl t (Array.replicate ops.size false) && Nat.ble t.deep ops.size)=true)
  (h:∀ w',Chg [] w w'→w'.heap.size=w.heap.size→ET P n ops (Chg S w') N B R t e w'):EW P n (.region id ops true) N B R e w:=fun a ha=>by
 simp only [Ek6,Ep4] at hB;obtain ⟨⟨⟨h1,h2⟩,h3⟩,h4⟩:=hB;refine wp_region_any hm (Ba6 (S:=Chg S { w with drawn:=w.drawn+1 }) (tl:=tl) _ _ _ _ ?_);exact V7 t.deep _ _ _ _ h4 (X9 h1 h2 t _ e a _ (fun k hk=>by rw [Eo3,Array.getElem?_replicate] at hk;split at hk<;>simp at hk) h3 (A8 _ _) ha (h _ (Chg.drawn _ _) J))
end
end Go.Clt
end
section
namespace Go.Clt
open Go
def Ct9:List Value→Nat→List Value→List Value
 |[],_,_=>[]
 |c::cs,0,[]=>c::cs
 |_::cs,0,v::vs=>v::Ct9 cs 0 vs
 |c::cs,o+1,vs=>c::Ct9 cs o vs
def U4:Value→List Value
 | .agg cs=>cs.toList
 |v=>[v]
theorem Ac9 (v:Value):v.cells.toList=U4 v:=by cases v<;>rfl
def Bm6 (place:Nat→Option (Nat × Nat)) (cells:List Value):List (Nat × Value)→Option (List Value)
 |[]=>some cells
 |(i,v)::rest=>
  match place i with
  |none=>none
  |some (off,size)=>cond (Nat.beq (U4 v).length size && Nat.ble (off+size) cells.length) (Bm6 place (Ct9 cells off (U4 v)) rest) none
def Dk9:Nat→List Value→List Value
 |0,_=>[]
 |n+1,l=>l++Dk9 n l
theorem Ax4:∀ (cs:List Value) (o:Nat) (vs:List Value) (i:Nat),o+vs.length≤cs.length→(Ct9 cs o vs)[i]?=if o≤i∧i<o+vs.length then vs[i - o]? else cs[i]?
 |[],o,vs,i,h=>by
  simp only [Eu6] at h;have:vs=[]:=Es2.1 (by omega);subst this;simp [Ct9]
 |c::cs,0,[],i,h=>by simp [Ct9]
 |c::cs,0,v::vs,i,h=>by
  simp only [Ct9]
  cases i with
  |zero=>simp
  |succ i=>
   have:=Ax4 cs 0 vs i (by simp at h ⊢;omega);simp only [Es1,this];simp
 |c::cs,o+1,vs,i,h=>by
  simp only [Ct9]
  cases i with
  |zero=>simp
  |succ i=>
   have:=Ax4 cs o vs i (by simp at h ⊢;omega);simp only [Es1,this]
   by_cases hc:o≤i∧i<o+vs.length
   ·rw [Ek1 hc,Ek1 (by omega)];congr 1;omega
   ·rw [Ek0 hc,Ek0 (by omega)]
theorem Bm0 (off:Nat):∀ (vs:List Value) (k:Nat) (cs:List Value),off+k+vs.length≤cs.length→
  (vs.zipIdx k).foldl (fun (cs:Array Value) (x:Value × Nat)=>cs.setIfInBounds (off+x.2) x.1) cs.toArray=(Ct9 cs (off+k) vs).toArray
 |[],k,cs,h=>by
  simp only [List.zipIdx_nil,Eq8]
  congr 1
  apply Em4;intro i;rw [Ax4 _ _ _ _ h];simp;intro h1 h2;omega
 |v::vs,k,cs,h=>by
  simp only [List.zipIdx_cons,Eq1];have h1:cs.toArray.setIfInBounds (off+k) v=(cs.set (off+k) v).toArray:=by simp
  simp only [En2] at h;rw [h1,Bm0 off vs (k+1) _ (by simp;omega)]
  congr 1
  apply Em4;intro i;rw [Ax4 _ _ _ _ (by simp;omega),Ax4 _ _ _ _ (by simp;omega),En1];simp only [En2]
  by_cases h2:off+k=i
  ·subst h2;rw [Ek0 (by omega),Ek1 J,Ek1 (by omega),Ek1 (by omega)];simp
  ·rw [Ek0 h2]
   by_cases h3:off+(k+1)≤i∧i<off+(k+1)+vs.length
   ·rw [Ek1 h3,Ek1 (by omega)];have:i - (off+k)=(i - (off+(k+1)))+1:=by omega
    rw [this,Es1]
   ·rw [Ek0 h3,Ek0 (by omega)]
theorem Ce1 (place:Nat→Option (Nat × Nat)):∀ (vs:List (Nat × Value)) (cs:List Value) {r:List Value},Bm6 place cs vs=some r→Instr.fill place cs.toArray vs=some r.toArray
 |[],cs,r,h=>by
  simp only [Bm6,Option.some.injEq] at h;subst h
  rfl
 |(i,v)::rest,cs,r,h=>by
  simp only [Bm6] at h;unfold Instr.fill
  cases hp:place i with
  |none=>rw [hp] at h;cases h
  |some os=>
   obtain ⟨off,size⟩:=os;rw [hp] at h;simp only at h ⊢
   cases hb:(Nat.beq (U4 v).length size && Nat.ble (off+size) cs.length) with
   |false=>rw [hb] at h;cases h
   |true=>
    rw [hb] at h;simp only [Ek6,Nat.beq_eq,Ep4] at hb;have hsz:v.cells.size=(U4 v).length:=by rw [← Ac9];simp
    rw [Ek0 (by rw [hsz];simp;omega)]
    have:(v.cells.zipIdx.foldl (fun cs (x:Value × Nat)=>cs.setIfInBounds (off+x.2) x.1) cs.toArray)=(Ct9 cs off (U4 v)).toArray:=by
     rw [← Ac9,← Array.foldl_toList,Array.toList_zipIdx];exact Bm0 off v.cells.toList 0 cs (by simp;omega)
    rw [this];exact Ce1 place rest _ h
theorem Bq6 (z:Value) (len sz:Nat) (hz:z.cells.size=sz) (h0:0<sz):(Array.range (len*sz)).map (z.cells[· % z.cells.size]!)=(Dk9 len (U4 z)).toArray:=by
 have hl:(U4 z).length=sz:=by rw [← Ac9];simpa using hz
 have hget:∀ (n i:Nat),(Dk9 n (U4 z))[i]?=if i<n*sz then (U4 z)[i % sz]? else none:=by
  intro n
  induction n with
  |zero=>intro i;simp [Dk9]
  |succ n ih=>
   intro i;simp only [Dk9,List.getElem?_append,hl,ih];have hm:(n+1)*sz=n*sz+sz:=Es8 n sz
   by_cases h:i<sz
   ·rw [Ek1 h,Ek1 (by omega),Et3 h]
   ·rw [Ek0 h];have h':(i - sz) % sz=i % sz:=by rw [Nat.mod_eq_sub_mod (by omega:i≥sz)]
    by_cases h2:i - sz<n*sz
    ·rw [Ek1 h2,Ek1 (by omega),h']
    ·rw [Ek0 h2,Ek0 (by omega)]
 apply Array.ext';apply Em4;intro i;rw [List.toList_toArray,hget];simp only [Array.toList_map,El8]
 by_cases h:i<len*sz
 ·rw [Ek1 h];have hi:i % sz<(U4 z).length:=by rw [hl];exact Ep5 _ h0
  have hi':i % sz<z.cells.size:=by rw [hz];exact Ep5 _ h0
  simp [h,hz,Ek4 hi,← Ac9];rw [Et0 hi',getElem!_pos z.cells _ hi']
 ·rw [Ek0 h];simp [h]
section
variable {P:Program} {n:Nat} {ops:Array Oper} {S:World→Prop} {N:Env→World→Prop} {B:Nat→Env→World→Prop} {R:Env→World→Prop} {e:Env} {w:World}
variable {dst:Option Tmp} {t:TypeId} {p:String} {af:Array Edge} {g:Option (Nat × Bool)}
theorem B7 {τ el:TypeId} {len sz:Nat} {parts:Array (Nat × Operand)} {vs:List (Nat × Value)} {z:Value} {cs:List Value} (ht:slB P τ sz=true) (hel:P.underlying τ=some (.slice el)) (hz:K5 P el=some z) (hlen:Nat.ble (len*sz) 16777216=true)
  (hz2:(Nat.beq (U4 z).length sz && Nat.blt 0 sz)=true) (hp:evp e parts.toList=some vs) (hfill:Bm6 (fun i=>some (i*sz,sz)) (Dk9 len (U4 z)) vs=some cs):
  News P n e ⟨dst,.buildSlice τ len parts,t,p,af,g⟩ w cs el (fun b=>.slice (some ⟨b,0,none⟩) len len):=by
 simp only [Ek6,Nat.beq_eq,Nat.blt_eq] at hz2;refine Bp2 ht hel hz hlen hp ?_;rw [Bq6 z len sz (by rw [← hz2.1,← Ac9];simp) hz2.2];exact Ce1 _ _ _ hfill
theorem B1 {φ:World→Prop} {τ:TypeId} {parts:Array (Nat × Operand)} {vs:List (Nat × Value)} {z:Value} {pl:List (Nat × Nat)} {cs:List Value} (hz:K5 P τ=some z) (hpl:plB P τ=some pl) (hp:evp e parts.toList=some vs)
  (hfill:Bm6 (pl[·]?) (U4 z) vs=some cs):Does P n e ⟨dst,.build τ parts,t,p,af,g⟩ φ (.agg cs.toArray):=
 Cz9 hz hpl hp (by rw [show z.cells=(U4 z).toArray from by rw [← Ac9]];exact Ce1 _ _ _ hfill)
theorem D7 {φ:World→Prop} {τ:TypeId} {len sz:Nat} {parts:Array (Nat × Operand)} {vs:List (Nat × Value)} {z:Value} {cs:List Value} (hz:K5 P τ=some z) (har:arB P τ len sz=true) (hp:evp e parts.toList=some vs)
  (hfill:Bm6 (fun i=>some (i*sz,sz)) (U4 z) vs=some cs):Does P n e ⟨dst,.build τ parts,t,p,af,g⟩ φ (.agg cs.toArray):=
 Bq0 hz har hp (by rw [show z.cells=(U4 z).toArray from by rw [← Ac9]];exact Ce1 _ _ _ hfill)
end
def mpB (P:Program) (t k e:TypeId):Bool:=match P.underlying t with|some (.map a b)=>a==k && b==e|_=>false
end Go.Clt
end
section
namespace Go.Clt
open Go Go.RowKit
theorem Chg.j {S T:List Nat} {a b c:World} (h:Chg S a b) (k:Chg T b c):Chg (S++T) a c:=
  ⟨k.os.trans h.os,k.tape.trans h.tape,k.output.trans h.output,En6 h.size k.size,fun x hx hn=>by
    rw [En7,Eu0] at hn
    exact (k.same x (Et6 hx h.size) hn.2).trans (h.same x hx hn.1)⟩
theorem sb:∀ {L e:Env},(L.map fun p=>lk e p.1)=(L.map fun p=>some p.2)→Sub L e
  |[],_,_=>trivial
  |(j,v)::r,e,h=>by
    simp only [En3,Eu7] at h;exact ⟨h.1,sb h.2⟩
def cmpV (op:BinOp) (x y:Option Value):Option Value:=match x,y with
  |some (.int k i),some (.int k' j)=>cond (decide (k=k') && (match op with| .eql| .neq| .lss| .leq| .gtr| .geq=>true|_=>false)) (some (.bool (Aa4 op i j))) none
  |_,_=>none
def simv (e:Env):Op→Option Value
  | .move x=>ev e x
  | .assign x=>ev e x
  | .extract x i=>match ev e x with|some (.tuple vs)=>vs[i]?|_=>none
  | .nilCheck x=>match ev e x with|some (.pointer (some ad))=>some (.pointer (some ad))|_=>none
  | .pick c x y=>match ev e c with|some (.bool true)=>ev e x|some (.bool false)=>ev e y|_=>none
  | .unOp .not _ x=>match ev e x with|some (.bool b)=>some (.bool !b)|_=>none
  | .binOp op _ x y _=>cmpV op (ev e x) (ev e y)
  |_=>none
section
variable {P:Program} {n:Nat} {ops:Array Oper} {S:World→Prop} {N:Env→World→Prop} {B:Nat→Env→World→Prop} {R:Env→World→Prop} {e:Env} {w:World}
variable {rest:List (Nat × Oper)} {d:Nat} {op:Op} {t:TypeId} {p:String} {af:Array Edge} {v:Value} {dst:Option Tmp} {g:Option (Nat × Bool)} {φ:World→Prop}
theorem simv_ok (h:simv e op=some v):Does P n e ⟨dst,op,t,p,af,g⟩ φ v:=by
  unfold simv at h
  split at h
  · exact Ej5 h
  · exact Da0 h
  · split at h
    · rename_i hx;exact Cr3 hx h
    · cases h
  · split at h
    · rename_i hx;cases h;exact Cg2 hx
    · cases h
  · split at h
    · rename_i hc;exact Dr2 hc h
    · rename_i hc;exact Dr3 hc h
    · cases h
  · split at h
    · rename_i hx;cases h;exact Does.not hx
    · cases h
  · unfold cmpV at h
    split at h
    · rename_i k i k' j hx hy
      cases hk:decide (k=k') with
      |false=>rw [hk] at h;cases h
      |true=>
        have:k=k':=Eo7 hk;subst this;rw [hk] at h
        split at h<;>first|(cases h;done)|(cases h;exact Bh5 J hx hy)
    · cases h
  · cases h
def okK:Nat→Bool
  |0=>true
  |2=>true
  |_=>false
theorem EP.k {k:Nat} (hk:okK k=true) (hd:Nat.blt d n=true) (hy:∀ φ,Does P n e ⟨some d,op,t,p,af,none⟩ φ v) (h:EP P n ops S N B R rest ((d,v)::e) w):EP P n ops S N B R ((k,⟨some d,op,t,p,af,none⟩)::rest) e w:=by
  match k,hk with
  |0,_=>exact D6 hd (hy _) h
  |2,_=>exact C9 hd (hy _) h
def simK (n:Nat):Nat→List (Nat × Oper)→Env→Option (List (Nat × Oper) × Env)
  |0,l,e=>some (l,e)
  |k+1,(kd,⟨some d,op,_,_,_,none⟩)::l,e=>cond (okK kd && Nat.blt d n) ((simv e op).bind fun v=>simK n k l ((d,v)::e)) none
  |_,_,_=>none
theorem Z:∀ (k:Nat) {l l':List (Nat × Oper)} {e e':Env} (hs:simK n k l e=some (l',e')) (h:EP P n ops S N B R l' e' w),EP P n ops S N B R l e w
  |0,l,l',e,e',hs,h=>by
    simp only [simK,Option.some.injEq,Er8] at hs;obtain ⟨rfl,rfl⟩:=hs;exact h
  |k+1,[],l',e,e',hs,h=>by simp [simK] at hs
  |k+1,(kd,⟨dd,op,tt,pp,aa,gg⟩)::l,l',e,e',hs,h=>by
    cases dd with
    |none=>simp [simK] at hs
    |some d=>
      cases gg with
      |some _=>simp [simK] at hs
      |none=>
        simp only [simK] at hs
        cases hc:(okK kd && Nat.blt d n) with
        |false=>rw [hc] at hs;cases hs
        |true=>
          rw [hc] at hs;simp only [Ek6] at hc
          cases hv:simv e op with
          |none=>rw [hv] at hs;cases hs
          |some v=>
            rw [hv] at hs;exact EP.k hc.1 hc.2 (fun φ=>simv_ok hv) (Z k hs h)
theorem Qa {x y:Code} (h:EW P n x (fun e w=>EW P n y N B R e w) B R e w):EW P n (.seq x y) N B R e w:=Ej2 h
theorem Qb {id:Nat} {l:List Oper} (h:EP P n l.toArray (fun _=>True) N B R (l.map fun o=>(2,o)) e w):EW P n (.region id l.toArray false) N B R e w:=EW.reg h
theorem Qc (h:N e w):EP P n ops S N B R [] e w:=EP.nil h
def ungB (n:Nat) (ops:Array Oper) (e:Env) (j:Nat) (c:Bool):Bool:=match (ops[j]?).bind (·.dst) with
  |some d=>Nat.blt d n && (match lk e d with|some (.bool b)=>b==c|_=>false)
  |none=>false
theorem Dt2 {j:Nat} {c:Bool} (h:ungB n ops e j c=true):∃ d,(ops[j]?).bind (·.dst)=some d∧Nat.blt d n=true∧lk e d=some (.bool c):=by
  unfold ungB at h
  split at h
  · rename_i d hd
    simp only [Ek6] at h;refine ⟨d,hd,h.1,?_⟩;have h2:=h.2
    split at h2
    · rename_i b hb
      rw [hb,eq_of_beq h2]
    · cases h2
  · cases h
theorem Qu {k j:Nat} {c:Bool} (hu:ungB n ops e j c=true) (h:EP P n ops S N B R ((k,⟨dst,op,t,p,af,none⟩)::rest) e w):EP P n ops S N B R ((k,⟨dst,op,t,p,af,some (j,c)⟩)::rest) e w:=by
  obtain ⟨d,h1,h2,h3⟩:=Dt2 hu;exact EP.ung h1 h2 h3 h
theorem Qk {k j x:Nat} {c:Bool} (hu:(okK k && Nat.blt x n && ungB n ops e j (!c))=true) (h:EP P n ops S N B R rest ((x,undef)::e) w):EP P n ops S N B R ((k,⟨some x,op,t,p,af,some (j,c)⟩)::rest) e w:=by
  simp only [Ek6] at hu;obtain ⟨d,h1,h2,h3⟩:=Dt2 hu.2;exact Ej3 h1 h2 h3 (by cases c<;>rfl) hu.1.2 (fun hk=>by rw [hk] at hu;simp [okK] at hu) h
def opnd (k n d:Nat) (e:Env) (x:Operand):Option Value:=cond (okK k && Nat.blt d n) (ev e x) none
theorem Q7 {k d:Nat} {x:Operand} (h:opnd k n d e x=some v):okK k=true∧Nat.blt d n=true∧ev e x=some v:=by
  unfold opnd at h
  cases hc:(okK k && Nat.blt d n) with
  |false=>rw [hc] at h;cases h
  |true=>
    rw [hc] at h;simp only [Ek6] at hc;exact ⟨hc.1,hc.2,h⟩
theorem Fa {k:Nat} {s:TypeId} {x:Operand} {f off b o:Nat} (hf:O4 P s f off=true) (hx:opnd k n d e x=some (.pointer (some ⟨b,o,none⟩))) (h:EP P n ops S N B R rest ((d,.pointer (some ⟨b,o+off,none⟩))::e) w):EP P n ops S N B R ((k,⟨some d,.fieldAddr s x f,t,p,af,none⟩)::rest) e w:=
  EP.k (Q7 hx).1 (Q7 hx).2.1 (fun φ=>Br2 hf (Q7 hx).2.2) h
theorem Ad {k:Nat} {τ τ':TypeId} {x y:Operand} {i j:Int} (hx:opnd k n d e x=some (.int .i64 i)) (hy:ev e y=some (.int .i64 j)) (hr: -9223372036854775808≤i+j∧i+j≤9223372036854775807) (h:EP P n ops S N B R rest ((d,.int .i64 (i+j))::e) w):EP P n ops S N B R ((k,⟨some d,.binOp .add τ x y τ',t,p,af,none⟩)::rest) e w:=
  EP.k (Q7 hx).1 (Q7 hx).2.1 (fun φ=>Bq1 (Q7 hx).2.2 hy hr) h
theorem Su {k:Nat} {τ τ':TypeId} {x y:Operand} {i j:Int} (hx:opnd k n d e x=some (.int .i64 i)) (hy:ev e y=some (.int .i64 j)) (hr: -9223372036854775808≤i - j∧i - j≤9223372036854775807) (h:EP P n ops S N B R rest ((d,.int .i64 (i - j))::e) w):EP P n ops S N B R ((k,⟨some d,.binOp .sub τ x y τ',t,p,af,none⟩)::rest) e w:=
  EP.k (Q7 hx).1 (Q7 hx).2.1 (fun φ=>Cq9 (Q7 hx).2.2 hy hr) h
theorem Ln {k:Nat} {x:Operand} {A:Option Addr} {m c:Nat} {τ el:TypeId} (hu:P.underlying τ=some (.slice el)) (hx:opnd k n d e x=some (.slice A m c)) (h:EP P n ops S N B R rest ((d,.int .i64 m)::e) w):EP P n ops S N B R ((k,⟨some d,.call { callee:=.builtin .len,args:= #[x],argTypes:= #[τ] },t,p,af,none⟩)::rest) e w:=
  EP.k (Q7 hx).1 (Q7 hx).2.1 (fun φ=>Ej7 hu (Q7 hx).2.2) h
theorem Lb {x:Operand} {τ t0:TypeId} {b o:Nat} {cs:List Value} {v:Value} (ht:one P τ=true) (hx:opnd 2 n d e x=some (.pointer (some ⟨b,o,none⟩))) (hb:Blk w b cs t0) (hv:cs[o]?=some v) (h:EP P n ops S N B R rest ((d,v)::e) w):EP P n ops S N B R ((2,⟨some d,.load τ x,t,p,af,none⟩)::rest) e w:=
  C9 (Q7 hx).2.1 (Bx5 ht (Q7 hx).2.2 (F4 _) hb hv) h
theorem Lc {x:Operand} {τ:TypeId} {b o:Nat} {v:Value} (ht:one P τ=true) (hx:opnd 2 n d e x=some (.pointer (some ⟨b,o,none⟩))) (hc:w.cell? ⟨b,o,none⟩=some v) (h:EP P n ops S N B R rest ((d,v)::e) w):EP P n ops S N B R ((2,⟨some d,.load τ x,t,p,af,none⟩)::rest) e w:=
  C9 (Q7 hx).2.1 (Ab9 ht (Q7 hx).2.2 (F4 _) hc) h
theorem La {x:Operand} {τ t0:TypeId} {k b o:Nat} {cs vs:List Value} (ht:agg P τ k=true) (hx:opnd 2 n d e x=some (.pointer (some ⟨b,o,none⟩))) (hb:Blk w b cs t0) (hv:(cs.drop o).take k=vs) (hl:vs.length=k) (h:EP P n ops S N B R rest ((d,.agg vs.toArray)::e) w):EP P n ops S N B R ((2,⟨some d,.load τ x,t,p,af,none⟩)::rest) e w:=
  C9 (Q7 hx).2.1 (Bx6 ht (Q7 hx).2.2 (F4 _) hb hv hl) h
theorem Qd {id:Nat} {l:List Oper} {y:Code} (h:EP P n l.toArray (fun _=>True) (fun e w=>EW P n y N B R e w) B R (l.map fun o=>(2,o)) e w):EW P n (.seq (.region id l.toArray false) y) N B R e w:=Ej2 (EW.reg h)
theorem Zc (k:Nat) {l:List (Nat × Oper)} {e e':Env} (hs:simK n k l e=some ([],e')) (h:N e' w):EP P n ops S N B R l e w:=Z k hs (EP.nil h)
theorem Ca {f:FuncId} {vs:List Value} {T:Value→World→Prop} {xs:Array Operand} {ts:Array TypeId} (hb:D3 P f=true) (hx:cond (Nat.blt d n) (evs e xs.toList) none=some vs) (hc:Calls P f vs.toArray w (Ret T))
    (h:∀ v w',T v w'→EP P n ops S N B R rest ((d,v)::e) w'):EP P n ops S N B R ((2,⟨some d,.call { callee:=.value (.func f),args:=xs,argTypes:=ts },t,p,af,none⟩)::rest) e w:=by
  cases hd:Nat.blt d n with
  |false=>rw [hd] at hx;cases hx
  |true=>rw [hd] at hx;exact P0 hd (C3 hb hx) hc h
theorem Xb {id:Nat} {M:Env→World→Prop} (h:N e w):EW P n (.exit id) M (brk id N B) R e w:=Av4 (Aj3 h)
def putv (e:Env) (x y:Operand):Option (Nat × Nat × List Value):=match ev e x,ev e y with
  |some (.pointer (some ⟨b,o,none⟩)),some v=>some (b,o,v.cells.toList)
  |_,_=>none
theorem putv_ok {x y:Operand} {b o:Nat} {vs:List Value} (h:putv e x y=some (b,o,vs)):ev e x=some (.pointer (some ⟨b,o,none⟩))∧∃ v,ev e y=some v∧v.cells=vs.toArray:=by
  unfold putv at h
  split at h
  · rename_i hx hy
    simp only [Option.some.injEq,Er8] at h;obtain ⟨rfl,rfl,rfl⟩:=h;exact ⟨hx,_,hy,by simp⟩
  · cases h
def putc (k o:Nat) (vs cs:List Value):Bool:=Nat.beq vs.length k && vs.all Value.oneCell' && Nat.ble (o+k) cs.length
theorem Pe {x y:Operand} {τ t0:TypeId} {b o k:Nat} {cs vs cs':List Value} (hs:szB P τ k=true) (hx:putv e x y=some (b,o,vs)) (hb:Blk w b cs t0) (hp:putc k o vs cs=true) (hc:cs.take o++vs++cs.drop (o+k)=cs') (h:∀ w',w'.heap.size=w.heap.size→Chg [b] w w'→Blk w' b cs' t0→EP P n ops S N B R rest e w'):
    EP P n ops S N B R ((2,⟨none,.store τ x y,t,p,af,none⟩)::rest) e w:=by
  obtain ⟨h1,v,h2,h3⟩:=putv_ok hx;unfold putc at hp;simp only [Ek6] at hp;exact Ej4 (G3 hs h1 h2 hb h3 (Nat.eq_of_beq_eq_true hp.1.1) hp.1.2 hp.2 hc) h
theorem Pb {x y:Operand} {τ t0:TypeId} {b o k:Nat} {v:Value} {cs vs cs':List Value} (hs:szB P τ k=true) (hx:ev e x=some (.pointer (some ⟨b,o,none⟩))) (hy:ev e y=some v) (hb:Blk w b cs t0)
    (hv:v.cells=vs.toArray) (hk:vs.length=k) (h1:vs.all Value.oneCell'=true) (hl:Nat.ble (o+k) cs.length=true) (hc:cs.take o++vs++cs.drop (o+k)=cs') (h:∀ w',w'.heap.size=w.heap.size→Chg [b] w w'→Blk w' b cs' t0→EP P n ops S N B R rest e w'):
    EP P n ops S N B R ((2,⟨none,.store τ x y,t,p,af,none⟩)::rest) e w:=Ej4 (G3 hs hx hy hb hv hk h1 hl hc) h
end
end Go.Clt
end
section
namespace Go.Clt
open Go Go.Proofs
noncomputable abbrev P:=Tryz.prog
theorem mo:P.follows .mixedOrders=true:=by kernel_rfl
theorem Ei0:agg P 127 256=true:=by kernel_rfl
theorem Ap5:agg P 140 11=true:=by kernel_rfl
theorem Br1:agg P 142 2=true:=by kernel_rfl
theorem Cq5:agg P 158 3=true:=by kernel_rfl
theorem Y4:agg P 205 10=true:=by kernel_rfl
theorem ag223:agg P 223 2=true:=by kernel_rfl
theorem K4:agg P 231 10=true:=by kernel_rfl
theorem F8:agg P 232 2=true:=by kernel_rfl
theorem Cq4:agg P 27 5=true:=by kernel_rfl
theorem J0:agg P 70 4=true:=by kernel_rfl
theorem M9:agg P 73 7=true:=by kernel_rfl
theorem Dq7:arB P 127 256 1=true:=by kernel_rfl
theorem ar226:arB P 226 64 1=true:=by kernel_rfl
theorem ar246:arB P 246 4 1=true:=by kernel_rfl
theorem X5:arB P 252 2 1=true:=by kernel_rfl
theorem Av2:arB P 70 4 1=true:=by kernel_rfl
theorem el138:elB P 138 140 11 104=true:=by kernel_rfl
theorem el159:elB P 159 156 1 8=true:=by kernel_rfl
theorem el187:elB P 187 231 10 80=true:=by kernel_rfl
theorem el195:elB P 195 205 10 80=true:=by kernel_rfl
theorem el23:elB P 23 70 4 32=true:=by kernel_rfl
theorem Dg6:elB P 24 3 1 8=true:=by kernel_rfl
theorem el241:elB P 241 149 1 8=true:=by kernel_rfl
theorem el25:elB P 25 24 1 24=true:=by kernel_rfl
theorem el251:elB P 251 67 1 8=true:=by kernel_rfl
theorem el43:elB P 43 4 1 1=true:=by kernel_rfl
theorem el44:elB P 44 5 1 1=true:=by kernel_rfl
theorem el49:elB P 49 9 1 16=true:=by kernel_rfl
theorem el71:elB P 71 73 7 72=true:=by kernel_rfl
theorem el84:elB P 84 92 1 8=true:=by kernel_rfl
theorem Cn7:D3 P 100=true:=by kernel_rfl
theorem fb101:D3 P 101=true:=by kernel_rfl
theorem fb102:D3 P 102=true:=by kernel_rfl
theorem fb103:D3 P 103=true:=by kernel_rfl
theorem fb104:D3 P 104=true:=by kernel_rfl
theorem fb105:D3 P 105=true:=by kernel_rfl
theorem fb106:D3 P 106=true:=by kernel_rfl
theorem fb107:D3 P 107=true:=by kernel_rfl
theorem fb108:D3 P 108=true:=by kernel_rfl
theorem fb109:D3 P 109=true:=by kernel_rfl
theorem fb11:D3 P 11=true:=by kernel_rfl
theorem fb110:D3 P 110=true:=by kernel_rfl
theorem fb111:D3 P 111=true:=by kernel_rfl
theorem fb112:D3 P 112=true:=by kernel_rfl
theorem fb113:D3 P 113=true:=by kernel_rfl
theorem fb114:D3 P 114=true:=by kernel_rfl
theorem fb116:D3 P 116=true:=by kernel_rfl
theorem fb117:D3 P 117=true:=by kernel_rfl
theorem fb118:D3 P 118=true:=by kernel_rfl
theorem fb119:D3 P 119=true:=by kernel_rfl
theorem fb120:D3 P 120=true:=by kernel_rfl
theorem Cn6:D3 P 121=true:=by kernel_rfl
theorem fb122:D3 P 122=true:=by kernel_rfl
theorem fb123:D3 P 123=true:=by kernel_rfl
theorem fb124:D3 P 124=true:=by kernel_rfl
theorem fb125:D3 P 125=true:=by kernel_rfl
theorem Ee0:D3 P 126=true:=by kernel_rfl
theorem fb127:D3 P 127=true:=by kernel_rfl
theorem fb128:D3 P 128=true:=by kernel_rfl
theorem fb129:D3 P 129=true:=by kernel_rfl
theorem fb13:D3 P 13=true:=by kernel_rfl
theorem fb130:D3 P 130=true:=by kernel_rfl
theorem fb131:D3 P 131=true:=by kernel_rfl
theorem fb132:D3 P 132=true:=by kernel_rfl
theorem fb133:D3 P 133=true:=by kernel_rfl
theorem fb134:D3 P 134=true:=by kernel_rfl
theorem fb135:D3 P 135=true:=by kernel_rfl
theorem fb136:D3 P 136=true:=by kernel_rfl
theorem fb137:D3 P 137=true:=by kernel_rfl
theorem Ab1:D3 P 138=true:=by kernel_rfl
theorem W4:D3 P 139=true:=by kernel_rfl
theorem fb140:D3 P 140=true:=by kernel_rfl
theorem fb141:D3 P 141=true:=by kernel_rfl
theorem fb142:D3 P 142=true:=by kernel_rfl
theorem fb144:D3 P 144=true:=by kernel_rfl
theorem fb145:D3 P 145=true:=by kernel_rfl
theorem fb146:D3 P 146=true:=by kernel_rfl
theorem fb147:D3 P 147=true:=by kernel_rfl
theorem Bm7:D3 P 148=true:=by kernel_rfl
theorem fb149:D3 P 149=true:=by kernel_rfl
theorem fb15:D3 P 15=true:=by kernel_rfl
theorem fb150:D3 P 150=true:=by kernel_rfl
theorem fb151:D3 P 151=true:=by kernel_rfl
theorem fb152:D3 P 152=true:=by kernel_rfl
theorem fb153:D3 P 153=true:=by kernel_rfl
theorem fb154:D3 P 154=true:=by kernel_rfl
theorem fb155:D3 P 155=true:=by kernel_rfl
theorem fb156:D3 P 156=true:=by kernel_rfl
theorem Ce2:D3 P 157=true:=by kernel_rfl
theorem fb158:D3 P 158=true:=by kernel_rfl
theorem fb159:D3 P 159=true:=by kernel_rfl
theorem fb16:D3 P 16=true:=by kernel_rfl
theorem fb160:D3 P 160=true:=by kernel_rfl
theorem fb161:D3 P 161=true:=by kernel_rfl
theorem fb162:D3 P 162=true:=by kernel_rfl
theorem fb163:D3 P 163=true:=by kernel_rfl
theorem fb164:D3 P 164=true:=by kernel_rfl
theorem fb165:D3 P 165=true:=by kernel_rfl
theorem fb168:D3 P 168=true:=by kernel_rfl
theorem fb169:D3 P 169=true:=by kernel_rfl
theorem Cr9:D3 P 17=true:=by kernel_rfl
theorem Ar9:D3 P 170=true:=by kernel_rfl
theorem fb171:D3 P 171=true:=by kernel_rfl
theorem fb172:D3 P 172=true:=by kernel_rfl
theorem fb173:D3 P 173=true:=by kernel_rfl
theorem fb174:D3 P 174=true:=by kernel_rfl
theorem fb175:D3 P 175=true:=by kernel_rfl
theorem fb176:D3 P 176=true:=by kernel_rfl
theorem fb177:D3 P 177=true:=by kernel_rfl
theorem Do8:D3 P 178=true:=by kernel_rfl
theorem fb179:D3 P 179=true:=by kernel_rfl
theorem fb18:D3 P 18=true:=by kernel_rfl
theorem Al3:D3 P 180=true:=by kernel_rfl
theorem Do7:D3 P 181=true:=by kernel_rfl
theorem fb182:D3 P 182=true:=by kernel_rfl
theorem fb183:D3 P 183=true:=by kernel_rfl
theorem fb184:D3 P 184=true:=by kernel_rfl
theorem fb185:D3 P 185=true:=by kernel_rfl
theorem fb186:D3 P 186=true:=by kernel_rfl
theorem fb187:D3 P 187=true:=by kernel_rfl
theorem fb188:D3 P 188=true:=by kernel_rfl
theorem fb189:D3 P 189=true:=by kernel_rfl
theorem fb19:D3 P 19=true:=by kernel_rfl
theorem fb190:D3 P 190=true:=by kernel_rfl
theorem fb191:D3 P 191=true:=by kernel_rfl
theorem fb192:D3 P 192=true:=by kernel_rfl
theorem fb197:D3 P 197=true:=by kernel_rfl
theorem fb198:D3 P 198=true:=by kernel_rfl
theorem fb199:D3 P 199=true:=by kernel_rfl
theorem fb200:D3 P 200=true:=by kernel_rfl
theorem fb201:D3 P 201=true:=by kernel_rfl
theorem Cx7:D3 P 202=true:=by kernel_rfl
theorem fb203:D3 P 203=true:=by kernel_rfl
theorem fb204:D3 P 204=true:=by kernel_rfl
theorem Do6:D3 P 205=true:=by kernel_rfl
theorem fb206:D3 P 206=true:=by kernel_rfl
theorem fb207:D3 P 207=true:=by kernel_rfl
theorem fb208:D3 P 208=true:=by kernel_rfl
theorem fb21:D3 P 21=true:=by kernel_rfl
theorem fb210:D3 P 210=true:=by kernel_rfl
theorem fb211:D3 P 211=true:=by kernel_rfl
theorem fb212:D3 P 212=true:=by kernel_rfl
theorem fb213:D3 P 213=true:=by kernel_rfl
theorem fb214:D3 P 214=true:=by kernel_rfl
theorem fb215:D3 P 215=true:=by kernel_rfl
theorem fb216:D3 P 216=true:=by kernel_rfl
theorem fb22:D3 P 22=true:=by kernel_rfl
theorem Af4:D3 P 222=true:=by kernel_rfl
theorem fb223:D3 P 223=true:=by kernel_rfl
theorem fb224:D3 P 224=true:=by kernel_rfl
theorem fb225:D3 P 225=true:=by kernel_rfl
theorem fb227:D3 P 227=true:=by kernel_rfl
theorem fb228:D3 P 228=true:=by kernel_rfl
theorem fb229:D3 P 229=true:=by kernel_rfl
theorem fb23:D3 P 23=true:=by kernel_rfl
theorem fb230:D3 P 230=true:=by kernel_rfl
theorem fb231:D3 P 231=true:=by kernel_rfl
theorem fb232:D3 P 232=true:=by kernel_rfl
theorem fb233:D3 P 233=true:=by kernel_rfl
theorem fb234:D3 P 234=true:=by kernel_rfl
theorem fb236:D3 P 236=true:=by kernel_rfl
theorem fb237:D3 P 237=true:=by kernel_rfl
theorem fb238:D3 P 238=true:=by kernel_rfl
theorem fb28:D3 P 28=true:=by kernel_rfl
theorem fb29:D3 P 29=true:=by kernel_rfl
theorem fb31:D3 P 31=true:=by kernel_rfl
theorem fb32:D3 P 32=true:=by kernel_rfl
theorem fb33:D3 P 33=true:=by kernel_rfl
theorem fb34:D3 P 34=true:=by kernel_rfl
theorem fb35:D3 P 35=true:=by kernel_rfl
theorem fb36:D3 P 36=true:=by kernel_rfl
theorem fb37:D3 P 37=true:=by kernel_rfl
theorem fb38:D3 P 38=true:=by kernel_rfl
theorem fb39:D3 P 39=true:=by kernel_rfl
theorem fb40:D3 P 40=true:=by kernel_rfl
theorem fb41:D3 P 41=true:=by kernel_rfl
theorem fb42:D3 P 42=true:=by kernel_rfl
theorem fb43:D3 P 43=true:=by kernel_rfl
theorem fb44:D3 P 44=true:=by kernel_rfl
theorem fb46:D3 P 46=true:=by kernel_rfl
theorem fb47:D3 P 47=true:=by kernel_rfl
theorem fb48:D3 P 48=true:=by kernel_rfl
theorem fb49:D3 P 49=true:=by kernel_rfl
theorem fb50:D3 P 50=true:=by kernel_rfl
theorem fb51:D3 P 51=true:=by kernel_rfl
theorem fb52:D3 P 52=true:=by kernel_rfl
theorem fb53:D3 P 53=true:=by kernel_rfl
theorem fb55:D3 P 55=true:=by kernel_rfl
theorem fb56:D3 P 56=true:=by kernel_rfl
theorem fb57:D3 P 57=true:=by kernel_rfl
theorem fb58:D3 P 58=true:=by kernel_rfl
theorem fb59:D3 P 59=true:=by kernel_rfl
theorem fb60:D3 P 60=true:=by kernel_rfl
theorem fb61:D3 P 61=true:=by kernel_rfl
theorem fb62:D3 P 62=true:=by kernel_rfl
theorem fb63:D3 P 63=true:=by kernel_rfl
theorem fb64:D3 P 64=true:=by kernel_rfl
theorem fb65:D3 P 65=true:=by kernel_rfl
theorem fb66:D3 P 66=true:=by kernel_rfl
theorem fb67:D3 P 67=true:=by kernel_rfl
theorem fb68:D3 P 68=true:=by kernel_rfl
theorem fb69:D3 P 69=true:=by kernel_rfl
theorem fb70:D3 P 70=true:=by kernel_rfl
theorem fb71:D3 P 71=true:=by kernel_rfl
theorem fb72:D3 P 72=true:=by kernel_rfl
theorem fb73:D3 P 73=true:=by kernel_rfl
theorem fb74:D3 P 74=true:=by kernel_rfl
theorem fb75:D3 P 75=true:=by kernel_rfl
theorem fb76:D3 P 76=true:=by kernel_rfl
theorem fb77:D3 P 77=true:=by kernel_rfl
theorem fb78:D3 P 78=true:=by kernel_rfl
theorem fb79:D3 P 79=true:=by kernel_rfl
theorem fb80:D3 P 80=true:=by kernel_rfl
theorem fb81:D3 P 81=true:=by kernel_rfl
theorem fb82:D3 P 82=true:=by kernel_rfl
theorem fb83:D3 P 83=true:=by kernel_rfl
theorem fb84:D3 P 84=true:=by kernel_rfl
theorem fb85:D3 P 85=true:=by kernel_rfl
theorem fb86:D3 P 86=true:=by kernel_rfl
theorem fb87:D3 P 87=true:=by kernel_rfl
theorem fb88:D3 P 88=true:=by kernel_rfl
theorem fb89:D3 P 89=true:=by kernel_rfl
theorem fb90:D3 P 90=true:=by kernel_rfl
theorem fb91:D3 P 91=true:=by kernel_rfl
theorem fb92:D3 P 92=true:=by kernel_rfl
theorem fb93:D3 P 93=true:=by kernel_rfl
theorem fb94:D3 P 94=true:=by kernel_rfl
theorem fb95:D3 P 95=true:=by kernel_rfl
theorem fb96:D3 P 96=true:=by kernel_rfl
theorem fb97:D3 P 97=true:=by kernel_rfl
theorem fb98:D3 P 98=true:=by kernel_rfl
theorem fb99:D3 P 99=true:=by kernel_rfl
theorem Ed9:O4 P 107 0 0=true:=by kernel_rfl
theorem Cx3:O4 P 107 1 1=true:=by kernel_rfl
theorem Af3:O4 P 107 2 2=true:=by kernel_rfl
theorem Bm5:O4 P 120 0 0=true:=by kernel_rfl
theorem Cd9:O4 P 120 1 1=true:=by kernel_rfl
theorem fl120_2:O4 P 120 2 2=true:=by kernel_rfl
theorem Ed8:O4 P 120 4 4=true:=by kernel_rfl
theorem fl129_0:O4 P 129 0 0=true:=by kernel_rfl
theorem Cd8:O4 P 129 1 256=true:=by kernel_rfl
theorem Cx2:O4 P 140 0 0=true:=by kernel_rfl
theorem fl140_1:O4 P 140 1 1=true:=by kernel_rfl
theorem Ao9:O4 P 140 2 5=true:=by kernel_rfl
theorem Bc0:O4 P 140 3 6=true:=by kernel_rfl
theorem Ed7:O4 P 140 4 7=true:=by kernel_rfl
theorem Bb9:O4 P 140 5 8=true:=by kernel_rfl
theorem Cx1:O4 P 140 6 9=true:=by kernel_rfl
theorem Ed6:O4 P 140 7 10=true:=by kernel_rfl
theorem fl142_0:O4 P 142 0 0=true:=by kernel_rfl
theorem Cx0:O4 P 142 1 1=true:=by kernel_rfl
theorem Au6:O4 P 158 0 0=true:=by kernel_rfl
theorem Ao8:O4 P 158 1 1=true:=by kernel_rfl
theorem Ao7:O4 P 158 2 2=true:=by kernel_rfl
theorem Cd7:O4 P 161 0 0=true:=by kernel_rfl
theorem Bm4:O4 P 161 1 3=true:=by kernel_rfl
theorem Cd6:O4 P 161 2 4=true:=by kernel_rfl
theorem Cd5:O4 P 174 0 0=true:=by kernel_rfl
theorem Cd4:O4 P 174 1 1=true:=by kernel_rfl
theorem Cw9:O4 P 200 0 0=true:=by kernel_rfl
theorem Y2:O4 P 200 1 1=true:=by kernel_rfl
theorem Cw8:O4 P 200 2 2=true:=by kernel_rfl
theorem Q1:O4 P 202 0 0=true:=by kernel_rfl
theorem Bm3:O4 P 202 1 3=true:=by kernel_rfl
theorem Ed5:O4 P 202 2 4=true:=by kernel_rfl
theorem Aj2:O4 P 202 3 5=true:=by kernel_rfl
theorem Bm2:O4 P 205 0 0=true:=by kernel_rfl
theorem Ao6:O4 P 205 1 1=true:=by kernel_rfl
theorem Cd3:O4 P 205 2 2=true:=by kernel_rfl
theorem fl205_3:O4 P 205 3 3=true:=by kernel_rfl
theorem Cw7:O4 P 205 4 7=true:=by kernel_rfl
theorem Cw6:O4 P 205 5 8=true:=by kernel_rfl
theorem Ed4:O4 P 205 6 9=true:=by kernel_rfl
theorem Au5:O4 P 214 0 0=true:=by kernel_rfl
theorem Ed3:O4 P 214 1 1=true:=by kernel_rfl
theorem Cd2:O4 P 214 3 6=true:=by kernel_rfl
theorem Cw5:O4 P 214 4 7=true:=by kernel_rfl
theorem U0:O4 P 231 0 0=true:=by kernel_rfl
theorem Au4:O4 P 231 1 1=true:=by kernel_rfl
theorem Cd1:O4 P 231 2 2=true:=by kernel_rfl
theorem Bm1:O4 P 231 3 3=true:=by kernel_rfl
theorem Cw4:O4 P 231 4 7=true:=by kernel_rfl
theorem Cd0:O4 P 231 5 8=true:=by kernel_rfl
theorem Ed2:O4 P 231 6 9=true:=by kernel_rfl
theorem G4:O4 P 232 0 0=true:=by kernel_rfl
theorem Ac7:O4 P 232 1 1=true:=by kernel_rfl
theorem Bb8:O4 P 237 0 0=true:=by kernel_rfl
theorem G7:O4 P 237 1 1=true:=by kernel_rfl
theorem Cc9:O4 P 237 2 2=true:=by kernel_rfl
theorem D9:O4 P 239 0 0=true:=by kernel_rfl
theorem Cc8:O4 P 239 1 3=true:=by kernel_rfl
theorem Af2:O4 P 254 0 0=true:=by kernel_rfl
theorem Ed1:O4 P 254 1 1=true:=by kernel_rfl
theorem Af1:O4 P 254 2 5=true:=by kernel_rfl
theorem Aj1:O4 P 254 3 6=true:=by kernel_rfl
theorem Cw3:O4 P 254 4 7=true:=by kernel_rfl
theorem Y1:O4 P 254 5 8=true:=by kernel_rfl
theorem Ed0:O4 P 254 6 9=true:=by kernel_rfl
theorem Dg1:O4 P 27 0 0=true:=by kernel_rfl
theorem fl27_1:O4 P 27 1 1=true:=by kernel_rfl
theorem fl27_2:O4 P 27 2 2=true:=by kernel_rfl
theorem fl27_3:O4 P 27 3 3=true:=by kernel_rfl
theorem fl27_4:O4 P 27 4 4=true:=by kernel_rfl
theorem Ay8:O4 P 73 0 0=true:=by kernel_rfl
theorem fl73_1:O4 P 73 1 1=true:=by kernel_rfl
theorem P5:O4 P 73 3 6=true:=by kernel_rfl
theorem Dg0:O4 P 86 0 0=true:=by kernel_rfl
theorem Ec9:O4 P 86 1 1=true:=by kernel_rfl
theorem Df9:O4 P 86 2 2=true:=by kernel_rfl
theorem Ac6:O4 P 86 3 3=true:=by kernel_rfl
theorem fl86_4:O4 P 86 4 4=true:=by kernel_rfl
theorem fl86_5:O4 P 86 5 5=true:=by kernel_rfl
theorem Ec8:O4 P 86 6 6=true:=by kernel_rfl
theorem fl91_0:O4 P 91 0 0=true:=by kernel_rfl
theorem fl91_1:O4 P 91 1 1=true:=by kernel_rfl
theorem Df8:O4 P 91 2 2=true:=by kernel_rfl
theorem fl91_3:O4 P 91 3 3=true:=by kernel_rfl
theorem Df7:O4 P 91 4 4=true:=by kernel_rfl
theorem kn3:Ay4 P 3=true:=by kernel_rfl
theorem kn5:Ay4 P 5=true:=by kernel_rfl
theorem kn68:Ay4 P 68=true:=by kernel_rfl
theorem Cu7:mpB P 156 3 3=true:=by kernel_rfl
theorem mp220:mpB P 220 223 3=true:=by kernel_rfl
theorem mp83:mpB P 83 9 3=true:=by kernel_rfl
theorem o105:one P 105=true:=by kernel_rfl
theorem o115:one P 115=true:=by kernel_rfl
theorem o138:one P 138=true:=by kernel_rfl
theorem Bb4:one P 149=true:=by kernel_rfl
theorem Cg7:one P 156=true:=by kernel_rfl
theorem o159:one P 159=true:=by kernel_rfl
theorem o172:one P 172=true:=by kernel_rfl
theorem o195:one P 195=true:=by kernel_rfl
theorem o22:one P 22=true:=by kernel_rfl
theorem o23:one P 23=true:=by kernel_rfl
theorem o24:one P 24=true:=by kernel_rfl
theorem Dm1:one P 241=true:=by kernel_rfl
theorem o25:one P 25=true:=by kernel_rfl
theorem o3:one P 3=true:=by kernel_rfl
theorem o31:one P 31=true:=by kernel_rfl
theorem o32:one P 32=true:=by kernel_rfl
theorem o4:one P 4=true:=by kernel_rfl
theorem o44:one P 44=true:=by kernel_rfl
theorem o5:one P 5=true:=by kernel_rfl
theorem o67:one P 67=true:=by kernel_rfl
theorem o68:one P 68=true:=by kernel_rfl
theorem o71:one P 71=true:=by kernel_rfl
theorem o81:one P 81=true:=by kernel_rfl
theorem o83:one P 83=true:=by kernel_rfl
theorem o84:one P 84=true:=by kernel_rfl
theorem o9:one P 9=true:=by kernel_rfl
theorem o92:one P 92=true:=by kernel_rfl
theorem pl107:plB P 107=some [(0,1),(1,1),(2,1)]:=by kernel_rfl
theorem pl120:plB P 120=some [(0,1),(1,1),(2,1),(3,1),(4,1)]:=by kernel_rfl
theorem pl129:plB P 129=some [(0,256),(256,1)]:=by kernel_rfl
theorem Ck3:plB P 140=some [(0,1),(1,4),(5,1),(6,1),(7,1),(8,1),(9,1),(10,1)]:=by kernel_rfl
theorem Ck2:plB P 142=some [(0,1),(1,1)]:=by kernel_rfl
theorem Dx1:plB P 158=some [(0,1),(1,1),(2,1)]:=by kernel_rfl
theorem pl161:plB P 161=some [(0,3),(3,1),(4,1)]:=by kernel_rfl
theorem pl200:plB P 200=some [(0,1),(1,1),(2,1)]:=by kernel_rfl
theorem pl202:plB P 202=some [(0,3),(3,1),(4,1),(5,1)]:=by kernel_rfl
theorem Bb3:plB P 205=some [(0,1),(1,1),(2,1),(3,4),(7,1),(8,1),(9,1)]:=by kernel_rfl
theorem Ck1:plB P 214=some [(0,1),(1,4),(5,1),(6,1),(7,1)]:=by kernel_rfl
theorem pl223:plB P 223=some [(0,1),(1,1)]:=by kernel_rfl
theorem pl231:plB P 231=some [(0,1),(1,1),(2,1),(3,4),(7,1),(8,1),(9,1)]:=by kernel_rfl
theorem M4:plB P 232=some [(0,1),(1,1)]:=by kernel_rfl
theorem pl237:plB P 237=some [(0,1),(1,1),(2,1)]:=by kernel_rfl
theorem pl239:plB P 239=some [(0,3),(3,1)]:=by kernel_rfl
theorem Cu2:plB P 254=some [(0,1),(1,4),(5,1),(6,1),(7,1),(8,1),(9,2)]:=by kernel_rfl
theorem pl27:plB P 27=some [(0,1),(1,1),(2,1),(3,1),(4,1)]:=by kernel_rfl
theorem Dc7:plB P 73=some [(0,1),(1,4),(5,1),(6,1)]:=by kernel_rfl
theorem pl86:plB P 86=some [(0,1),(1,1),(2,1),(3,1),(4,1),(5,1),(6,1)]:=by kernel_rfl
theorem pl91:plB P 91=some [(0,1),(1,1),(2,1),(3,1),(4,1)]:=by kernel_rfl
theorem Aw4:slB P 138 11=true:=by kernel_rfl
theorem sl159:slB P 159 1=true:=by kernel_rfl
theorem Am2:slB P 187 10=true:=by kernel_rfl
theorem sl195:slB P 195 10=true:=by kernel_rfl
theorem Ar5:slB P 23 4=true:=by kernel_rfl
theorem T8:slB P 24 1=true:=by kernel_rfl
theorem Am1:slB P 241 1=true:=by kernel_rfl
theorem Cr6:slB P 25 1=true:=by kernel_rfl
theorem Ci4:slB P 251 1=true:=by kernel_rfl
theorem At0:slB P 268 2=true:=by kernel_rfl
theorem sl43:slB P 43 1=true:=by kernel_rfl
theorem Al4:slB P 44 1=true:=by kernel_rfl
theorem sl49:slB P 49 1=true:=by kernel_rfl
theorem Am0:slB P 71 7=true:=by kernel_rfl
theorem sl84:slB P 84 1=true:=by kernel_rfl
theorem sz127:szB P 127 256=true:=by kernel_rfl
theorem Bf4:szB P 140 11=true:=by kernel_rfl
theorem Bh9:szB P 142 2=true:=by kernel_rfl
theorem Bf3:szB P 158 3=true:=by kernel_rfl
theorem sz159:szB P 159 1=true:=by kernel_rfl
theorem sz172:szB P 172 1=true:=by kernel_rfl
theorem sz195:szB P 195 1=true:=by kernel_rfl
theorem Z0:szB P 205 10=true:=by kernel_rfl
theorem sz223:szB P 223 2=true:=by kernel_rfl
theorem sz23:szB P 23 1=true:=by kernel_rfl
theorem V9:szB P 231 10=true:=by kernel_rfl
theorem G5:szB P 232 2=true:=by kernel_rfl
theorem sz24:szB P 24 1=true:=by kernel_rfl
theorem sz25:szB P 25 1=true:=by kernel_rfl
theorem Dj9:szB P 27 5=true:=by kernel_rfl
theorem sz3:szB P 3 1=true:=by kernel_rfl
theorem sz32:szB P 32 1=true:=by kernel_rfl
theorem sz4:szB P 4 1=true:=by kernel_rfl
theorem sz44:szB P 44 1=true:=by kernel_rfl
theorem sz68:szB P 68 1=true:=by kernel_rfl
theorem J9:szB P 70 4=true:=by kernel_rfl
theorem Al7:szB P 73 7=true:=by kernel_rfl
theorem sz84:szB P 84 1=true:=by kernel_rfl
theorem zr107:K5 P 107=some (.agg #[.nilIface,.slice none 0 0,.slice none 0 0]):=by kernel_rfl
theorem zr120:K5 P 120=some (.agg #[.pointer none,.slice none 0 0,.slice none 0 0,.slice none 0 0,.slice none 0 0]):=by kernel_rfl
theorem zr127:K5 P 127=some (.agg (List.replicate 256 (Value.int .i64 0)).toArray):=by kernel_rfl
theorem zr129:K5 P 129=some (.agg (List.replicate 256 (Value.int .i64 0)++[Value.slice none 0 0]).toArray):=by kernel_rfl
theorem Ak5:K5 P 140=some (.agg #[.int .i64 0,.int .u64 0,.int .u64 0,.int .u64 0,.int .u64 0,.int .i64 0,.int .i64 0,.bool false,.slice none 0 0,.int .i64 0,.int .i64 0]):=by kernel_rfl
theorem Bf2:K5 P 142=some (.agg #[.int .i64 0,.int .i64 0]):=by kernel_rfl
theorem Cs2:K5 P 149=some (.pointer none):=by kernel_rfl
theorem zr156:K5 P 156=some (.map none):=by kernel_rfl
theorem Ar3:K5 P 158=some (.agg #[.int .i64 0,.map none,.map none]):=by kernel_rfl
theorem zr161:K5 P 161=some (.agg #[.int .i64 0,.map none,.map none,.slice none 0 0,.slice none 0 0]):=by kernel_rfl
theorem zr174:K5 P 174=some (.agg #[.pointer none,.slice none 0 0]):=by kernel_rfl
theorem zr200:K5 P 200=some (.agg #[.slice none 0 0,.int .i64 0,.int .i64 0]):=by kernel_rfl
theorem zr202:K5 P 202=some (.agg #[.slice none 0 0,.int .i64 0,.int .i64 0,.int .i64 0,.int .i64 0,.int .i64 0]):=by kernel_rfl
theorem Z7:K5 P 205=some (.agg #[.int .i64 0,.int .i64 0,.int .i64 0,.int .u64 0,.int .u64 0,.int .u64 0,.int .u64 0,.int .i64 0,.int .i64 0,.bool false]):=by kernel_rfl
theorem Ch0:K5 P 214=some (.agg #[.int .i64 0,.int .u64 0,.int .u64 0,.int .u64 0,.int .u64 0,.bool false,.pointer none,.pointer none]):=by kernel_rfl
theorem zr223:K5 P 223=some (.agg #[.int .i64 0,.bool false]):=by kernel_rfl
theorem Cs1:K5 P 231=some (.agg #[.int .i64 0,.int .i64 0,.int .i64 0,.int .u64 0,.int .u64 0,.int .u64 0,.int .u64 0,.int .i64 0,.int .i64 0,.bool false]):=by kernel_rfl
theorem J3:K5 P 232=some (.agg #[.int .i64 0,.int .i64 0]):=by kernel_rfl
theorem zr237:K5 P 237=some (.agg #[.string ⟨#[]⟩,.int .i64 0,.int .i64 0]):=by kernel_rfl
theorem zr239:K5 P 239=some (.agg #[.string ⟨#[]⟩,.int .i64 0,.int .i64 0,.slice none 0 0]):=by kernel_rfl
theorem zr24:K5 P 24=some (.slice none 0 0):=by kernel_rfl
theorem zr246:K5 P 246=some (.agg #[.int .i64 0,.int .i64 0,.int .i64 0,.int .i64 0]):=by kernel_rfl
theorem Q5:K5 P 252=some (.agg #[.int .i64 0,.int .i64 0]):=by kernel_rfl
theorem Cs0:K5 P 254=some (.agg #[.int .i64 0,.int .u64 0,.int .u64 0,.int .u64 0,.int .u64 0,.int .i64 0,.int .i64 0,.bool false,.slice none 0 0,.int .i64 0,.int .i64 0]):=by kernel_rfl
theorem Ds0:K5 P 27=some (.agg #[.slice none 0 0,.int .i64 0,.slice none 0 0,.slice none 0 0,.slice none 0 0]):=by kernel_rfl
theorem zr3:K5 P 3=some (.int .i64 0):=by kernel_rfl
theorem zr4:K5 P 4=some (.bool false):=by kernel_rfl
theorem zr5:K5 P 5=some (.int .u8 0):=by kernel_rfl
theorem zr67:K5 P 67=some (.pointer none):=by kernel_rfl
theorem N0:K5 P 70=some (.agg #[.int .u64 0,.int .u64 0,.int .u64 0,.int .u64 0]):=by kernel_rfl
theorem Ar2:K5 P 73=some (.agg #[.int .i64 0,.int .u64 0,.int .u64 0,.int .u64 0,.int .u64 0,.bool false,.slice none 0 0]):=by kernel_rfl
theorem zr86:K5 P 86=some (.agg #[.pointer none,.pointer none,.slice none 0 0,.slice none 0 0,.map none,.int .i64 0,.bool false]):=by kernel_rfl
theorem zr9:K5 P 9=some (.string ⟨#[]⟩):=by kernel_rfl
theorem zr91:K5 P 91=some (.agg #[.slice none 0 0,.string ⟨#[]⟩,.slice none 0 0,.bool false,.bool false]):=by kernel_rfl
theorem zr92:K5 P 92=some (.pointer none):=by kernel_rfl
end Go.Clt
end
section
namespace Go.Proofs
open Go.Shelf
def Tryz.lays169_ren:Go.Shelf.Ren:=⟨fun|169=>111|n=>n,fun|70=>172|9=>9|0=>0|72=>174|37=>44|127=>229|3=>3|5=>5|n=>n,fun|n=>n⟩
theorem Tryz.lays169:Go.Proofs.Lays.n169 Tryz.prog Tryz.lays169_ren:={
 mixed:=by kernel_rfl
 f169:=Tryz.func111.trans (congrArg some (by kernel_rfl))
 t0:=Tryz.underlying0
 a0:=Tryz.isAgg0
 z0:=Tryz.sizeOf0
 v0:=Tryz.zeroValue0
 t3:=Tryz.underlying3
 a3:=Tryz.isAgg3
 z3:=Tryz.sizeOf3
 v3:=Tryz.zeroValue3
 t9:=Tryz.underlying9
 a9:=Tryz.isAgg9
 z9:=Tryz.sizeOf9
 v9:=Tryz.zeroValue9
 t37:=Tryz.underlying44
 a37:=Tryz.isAgg44
 z37:=Tryz.sizeOf44
 v37:=Tryz.zeroValue44
 t70:=Tryz.underlying172
 a70:=Tryz.isAgg172
 z70:=Tryz.sizeOf172
 v70:=Tryz.zeroValue172
 t72:=Tryz.underlying174
 a72:=Tryz.isAgg174
 z72:=Tryz.sizeOf174
 v72:=Tryz.zeroValue174
 t127:=Tryz.underlying229
 a127:=Tryz.isAgg229
 z127:=Tryz.sizeOf229
 v127:=Tryz.zeroValue229 }
theorem Tryz.Builder_Extra_169:Builder.Extra Tryz.prog Tryz.lays169_ren:={
 sizeBuilder:=by kernel_rfl
 liesBuilder:=by kernel_rfl
 t5:=Tryz.underlying5
 a5:=Tryz.isAgg5
 z5:=Tryz.sizeOf5
 v5:=Tryz.zeroValue5
 infoByte:=by kernel_rfl
 cellsByte:=by kernel_rfl
 sizeByte:=by kernel_rfl
 neB5:=by decide }
open Go.RowKit in
theorem Tryz.Builder_String_any (B b:Nat) (l:List UInt8) (w:World) (h:Lib.IsBuilder 174 5 B b (Lib.byteCells l) w) (hBw:B≤w.heap.size):
  Calls Tryz.prog 111 #[.pointer (some ⟨b,0,none⟩)] w fun e w'=>e= .returned (.string ⟨l.toArray⟩)∧Below B w w':=Any.Builder_String_any Tryz.lays169 Tryz.Builder_Extra_169 B b l w h hBw
def Tryz.lays137_ren:Go.Shelf.Ren:=⟨fun|137=>181|217=>209|266=>226|n=>n,fun|9=>9|5=>5|3=>3|n=>n,fun|n=>n⟩
theorem Tryz.lays137:Go.Proofs.Lays.n137 Tryz.prog Tryz.lays137_ren:={
 mixed:=by kernel_rfl
 f137:=Tryz.func181.trans (congrArg some (by kernel_rfl))
 f217:=Tryz.func209.trans (congrArg some (by kernel_rfl))
 f266:=Tryz.func226.trans (congrArg some (by kernel_rfl))
 t3:=Tryz.underlying3
 a3:=Tryz.isAgg3
 z3:=Tryz.sizeOf3
 v3:=Tryz.zeroValue3
 t5:=Tryz.underlying5
 a5:=Tryz.isAgg5
 z5:=Tryz.sizeOf5
 v5:=Tryz.zeroValue5
 t9:=Tryz.underlying9
 a9:=Tryz.isAgg9
 z9:=Tryz.sizeOf9
 v9:=Tryz.zeroValue9 }
open Go.RowKit in
theorem Tryz.strings_IndexByte (s:ByteArray) (c:Int) (w:World):
  Calls Tryz.prog 181 #[.string s,.int .u8 c] w fun e w'=>e= .returned (.int .i64 (Lib.indexByte s.data.toList c.toNat.toUInt8))∧w'=w:=Any.strings_IndexByte Tryz.lays137 s c w
def Tryz.laysM171_ren:Go.Shelf.Ren:=⟨fun|171=>109|243=>143|246=>167|283=>193|284=>194|285=>195|286=>196|129=>218|317=>217|318=>219|319=>220|320=>221|337=>235|338=>104|n=>n,fun|3=>3|9=>9|2=>2|4=>4|171=>284|0=>0|53=>68|37=>44|5=>5|173=>286|212=>301|51=>302|20=>20|213=>303|46=>227|232=>313|233=>226|n=>n,fun|17=>1|18=>3|19=>0|n=>n⟩
theorem Tryz.laysM171:Go.Proofs.LaysM.n171 Tryz.prog Tryz.laysM171_ren:={
 mixed:=by kernel_rfl
 f129:=Tryz.func218.trans (congrArg some (by kernel_rfl))
 f171:=Tryz.func109.trans (congrArg some (by kernel_rfl))
 f243:=Tryz.func143.trans (congrArg some (by kernel_rfl))
 f246:=Tryz.func167.trans (congrArg some (by kernel_rfl))
 f283:=Tryz.func193.trans (congrArg some (by kernel_rfl))
 f284:=Tryz.func194.trans (congrArg some (by kernel_rfl))
 f285:=Tryz.func195.trans (congrArg some (by kernel_rfl))
 f286:=Tryz.func196.trans (congrArg some (by kernel_rfl))
 f317:=Tryz.func217.trans (congrArg some (by kernel_rfl))
 f318:=Tryz.func219.trans (congrArg some (by kernel_rfl))
 f319:=Tryz.func220.trans (congrArg some (by kernel_rfl))
 f320:=Tryz.func221.trans (congrArg some (by kernel_rfl))
 f337:=Tryz.func235.trans (congrArg some (by kernel_rfl))
 f338:=Tryz.func104.trans (congrArg some (by kernel_rfl))
 t0:=Tryz.underlying0
 a0:=Tryz.isAgg0
 z0:=Tryz.sizeOf0
 v0:=Tryz.zeroValue0
 t2:=Tryz.underlying2
 a2:=Tryz.isAgg2
 z2:=Tryz.sizeOf2
 v2:=Tryz.zeroValue2
 t3:=Tryz.underlying3
 a3:=Tryz.isAgg3
 z3:=Tryz.sizeOf3
 v3:=Tryz.zeroValue3
 t4:=Tryz.underlying4
 a4:=Tryz.isAgg4
 z4:=Tryz.sizeOf4
 v4:=Tryz.zeroValue4
 t5:=Tryz.underlying5
 a5:=Tryz.isAgg5
 z5:=Tryz.sizeOf5
 v5:=Tryz.zeroValue5
 t9:=Tryz.underlying9
 a9:=Tryz.isAgg9
 z9:=Tryz.sizeOf9
 v9:=Tryz.zeroValue9
 t20:=Tryz.underlying20
 a20:=Tryz.isAgg20
 z20:=Tryz.sizeOf20
 v20:=Tryz.zeroValue20
 t37:=Tryz.underlying44
 a37:=Tryz.isAgg44
 z37:=Tryz.sizeOf44
 v37:=Tryz.zeroValue44
 t46:=Tryz.underlying227
 a46:=Tryz.isAgg227
 z46:=Tryz.sizeOf227
 v46:=Tryz.zeroValue227
 t51:=Tryz.underlying302
 a51:=Tryz.isAgg302
 z51:=Tryz.sizeOf302
 v51:=Tryz.zeroValue302
 t53:=Tryz.underlying68
 a53:=Tryz.isAgg68
 z53:=Tryz.sizeOf68
 v53:=Tryz.zeroValue68
 t171:=Tryz.underlying284
 a171:=Tryz.isAgg284
 z171:=Tryz.sizeOf284
 v171:=Tryz.zeroValue284
 t173:=Tryz.underlying286
 a173:=Tryz.isAgg286
 z173:=Tryz.sizeOf286
 v173:=Tryz.zeroValue286
 t212:=Tryz.underlying301
 a212:=Tryz.isAgg301
 z212:=Tryz.sizeOf301
 v212:=Tryz.zeroValue301
 t213:=Tryz.underlying303
 a213:=Tryz.isAgg303
 z213:=Tryz.sizeOf303
 t232:=Tryz.underlying313
 a232:=Tryz.isAgg313
 z232:=Tryz.sizeOf313
 v232:=Tryz.zeroValue313
 t233:=Tryz.underlying226
 a233:=Tryz.isAgg226
 z233:=Tryz.sizeOf226
 v233:=Tryz.zeroValue226
 g17:=by kernel_rfl
 g18:=by kernel_rfl
 g19:=by kernel_rfl
 i0:=by kernel_rfl
 i2:=by kernel_rfl
 i3:=by kernel_rfl
 i4:=by kernel_rfl
 i5:=by kernel_rfl
 i9:=by kernel_rfl
 i20:=by kernel_rfl
 i37:=by kernel_rfl
 i46:=by kernel_rfl
 i51:=by kernel_rfl
 i53:=by kernel_rfl
 i171:=by kernel_rfl
 i173:=by kernel_rfl
 i212:=by kernel_rfl
 i232:=by kernel_rfl
 i233:=by kernel_rfl
 m17:=by kernel_rfl
 m18:=by kernel_rfl
 m19:=by kernel_rfl }
open Go.RowKit Go.Sort Go.Lib in
theorem Tryz.strconv_Itoa (n:Int) (h0: -9223372036854775808≤n) (h1:n≤9223372036854775807) (w:World) (htab:Lib.TabIs Tryz.prog w "internal/strconv.uint64pow10" .u64 Lib.pow10Tab):
  Calls Tryz.prog 109 #[.int .i64 n] w fun e w'=>e= .returned (.string ⟨(Lib.itoa n).toArray⟩)∧∃ k os,w'=grow (w.drewN k) os:=Any.strconv_Itoa Tryz.laysM171 n h0 h1 w htab
def Tryz.lays264_ren:Go.Shelf.Ren:=⟨fun|264=>144|n=>n,fun|53=>68|46=>227|n=>n,fun|n=>n⟩
theorem Tryz.lays264:Go.Proofs.Lays.n264 Tryz.prog Tryz.lays264_ren:={
 mixed:=by kernel_rfl
 f264:=Tryz.func144.trans (congrArg some (by kernel_rfl))
 t46:=Tryz.underlying227
 a46:=Tryz.isAgg227
 z46:=Tryz.sizeOf227
 v46:=Tryz.zeroValue227
 t53:=Tryz.underlying68
 a53:=Tryz.isAgg68
 z53:=Tryz.sizeOf68
 v53:=Tryz.zeroValue68 }
open Go.RowKit Go.Lib in
theorem Tryz.bits_Mul64 (x y:Nat) (hx:x<18446744073709551616) (hy:y<18446744073709551616) (w:World):
  Calls Tryz.prog 144 #[.int .u64 x,.int .u64 y] w fun e w'=>e= .returned (.tuple #[.int .u64 ((x*y / 18446744073709551616:Nat):Int),.int .u64 ((x*y % 18446744073709551616:Nat):Int)])∧w'=w:=Any.bits_Mul64 Tryz.lays264 x y hx hy w
end Go.Proofs
end
namespace Go.Clt
open Go Go.RowKit Go.Proofs
section
section
variable {n:Nat} {e:Env} {φ:World→Prop} {dst:Option Tmp} {t:TypeId} {p:String} {af:Array Edge} {g:Option (Nat × Bool)}
theorem Dj3 {f:FuncId} {xs:Array Operand} {ts:Array TypeId} {vs:List Value} {v:Value} (hp:evs e xs.toList=some vs) (hr:∀ w,(callFunc f vs.toArray).run P w= .ok (.value v) w):
  Does P n e ⟨dst,.call { callee:=.value (.func f),args:=xs,argTypes:=ts },t,p,af,g⟩ φ v:=fun a w ha _=>by
 have:a.eval (.func f)= .func (.func f) #[] #[]:=ha.ev J;simp [execOp,resolve,this,Deferred.ofValue,U7 ha hp,invoke,hr]
end
theorem find115:Extern.find Tryz.f115=some add64Entry:=by kernel_rfl
theorem next115:(Extern.findNext Tryz.f115).isNone=true:=by kernel_rfl
theorem name115:(Tryz.f115.name== "runtime.NumGoroutine")=false:=by kernel_rfl
theorem body115:Tryz.f115.body.isNone=true:=by kernel_rfl
theorem Ei6 (x y c:Int) (hx:0≤x) (hy:0≤y) (hc0:0≤c) (hc:c≤1) (w:World):
  (callFunc 115 #[.int .u64 x,.int .u64 y,.int .u64 c]).run P w= .ok (.value (.tuple #[.int .u64 ((x+y+c) % 18446744073709551616),.int .u64 ((x+y+c) / 18446744073709551616)])) w:=by
 have h1:Extern.findNext Tryz.f115=none:=by simpa using next115
 simp only [callFunc,Sem.run_bind,run_program,Result.andThen_ok,Tryz.func115,name115,body115,Sem.run_ite];simp [run_mark,h1,find115,run_add64 x y c hx hy hc0 hc]
theorem Dd3 {f:FuncId} {args:Array Value} {w:World} {v:Value} (h:Calls P f args w fun e w'=>e= .returned v∧w'=w):Calls P f args w (Ret fun u w'=>u=v∧w'=w):=
 h.mono fun e w' hh=>by obtain ⟨rfl,rfl⟩:=hh;exact ⟨rfl,rfl⟩
def I8 (l:List Int):List Value:=l.map (Value.int .i64)
theorem G0 (l:List Int):(I8 l).length=l.length:=by simp [I8]
theorem J6 (l:List Int) (k:Nat) (h:k<l.length):(I8 l)[k]?=some (.int .i64 (l.getD k 0)):=by simp [I8,Ek4 h,Ek2]
theorem Aq7 {α β:Type} (f:β→α→β) (b:β) (l:List α) (d:α) (k:Nat) (h:k<l.length):(l.take (k+1)).foldl f b=f ((l.take k).foldl f b) (l.getD k d):=by
 rw [Eq2 h,En9];simp [Ek2,Ek4 h]
theorem G9 {α:Type} (l:List α) (d:α) (k:Nat) (h:k<l.length):l.getD k d∈l:=by
 rw [Ek2,Ek4 h];simp
theorem J4 {k:IntKind} {a b:Int} (h:a=b):Value.int k a=Value.int k b:=by rw [h]
theorem H5 {a b:Bool} (h:a=b):Value.bool a=Value.bool b:=by rw [h]
def W1 (a b:Int):Int:=min 9223372036854775807 (max a 0+max b 0)
def Ac2 (a b:Int):Int:=min 9223372036854775807 (max a 0*max b 0)
theorem M8 (a b:Int):0≤W1 a b∧W1 a b≤9223372036854775807:=by unfold W1;omega
theorem V3 (a b:Int):0≤Ac2 a b∧Ac2 a b≤9223372036854775807:=by
 unfold Ac2;have:0≤max a 0*max b 0:=Int.mul_nonneg (by omega) (by omega);omega
def Ar4 (l:List Int):Int:=if l.any (fun x=>decide (x≤0)) then 0 else l.foldl Ac2 1
theorem Ec4 {f:Int→Int→Int} (hf:∀ a b,f a b≤9223372036854775807) (l:List Int) (a:Int) (ha:a≤9223372036854775807):l.foldl f a≤9223372036854775807:=by
 induction l generalizing a with
 |nil=>exact ha
 |cons x l ih=>exact ih _ (hf a x)
end
end Go.Clt
section
namespace Go.Clt
open Go Go.RowKit
def wd (s i:Nat):Int:=((s / 2 ^ (64*i) % 2 ^ 64:Nat):Int)
def C4 (s:Nat):List Value:=[.int .u64 (wd s 0),.int .u64 (wd s 1),.int .u64 (wd s 2),.int .u64 (wd s 3)]
def L4 (s:Nat):Prop:=s<2 ^ 256
theorem wd_range (s i:Nat):0≤wd s i∧wd s i<18446744073709551616:=by unfold wd;have:=Ep5 (s / 2 ^ (64*i)) (show 0<2 ^ 64 by decide);omega
theorem Aj4 (a b:Nat) (ha:a<2 ^ 64) (hb:b<2 ^ 64):Ba5 .and .u64 (a:Int) (b:Int)=((a &&& b:Nat):Int):=by
 have hx:a &&& b<2 ^ 64:=Nat.and_lt_two_pow _ hb;simp only [Ba5];rw [BitVec.toNat_and,show IntKind.u64.bits=64 from rfl,BitVec.ofInt_natCast,BitVec.ofInt_natCast,BitVec.toNat_ofNat,BitVec.toNat_ofNat,Et3 ha,Et3 hb];exact Ap7 (by omega)
theorem Eh2 (a b:Nat) (ha:a<2 ^ 64) (hb:b<2 ^ 64):Ba5 .or .u64 (a:Int) (b:Int)=((a|||b:Nat):Int):=by
 have hx:a|||b<2 ^ 64:=Nat.or_lt_two_pow ha hb;simp only [Ba5];rw [BitVec.toNat_or,show IntKind.u64.bits=64 from rfl,BitVec.ofInt_natCast,BitVec.ofInt_natCast,BitVec.toNat_ofNat,BitVec.toNat_ofNat,Et3 ha,Et3 hb];exact Ap7 (by omega)
theorem bitv_cpl (a:Nat) (ha:a<2 ^ 64):Ba5 .xor .u64 (if IntKind.u64.signed then -1 else IntKind.u64.max) (a:Int)=((2 ^ 64 - 1 - a:Nat):Int):=by
 have hm:(if IntKind.u64.signed then -1 else IntKind.u64.max:Int)=((2 ^ 64 - 1:Nat):Int):=rfl;rw [hm];simp only [Ba5];rw [show IntKind.u64.bits=64 from rfl,BitVec.ofInt_natCast,BitVec.ofInt_natCast]
 have h1:(BitVec.ofNat 64 (2 ^ 64 - 1)) ^^^ (BitVec.ofNat 64 a)= ~~~ (BitVec.ofNat 64 a):=by
  have:BitVec.ofNat 64 (2 ^ 64 - 1)=BitVec.allOnes 64:=rfl;rw [this,BitVec.allOnes_xor]
 rw [h1,BitVec.toNat_not,BitVec.toNat_ofNat,Et3 ha];exact Ap7 (by omega)
theorem and_one (a:Nat):a &&& 1=a % 2:=by simp
theorem Ad5 (s q r:Nat) (hr:r<64):(s / 2 ^ (64*q) % 2 ^ 64).testBit r=s.testBit (64*q+r):=by
 rw [Er0,Es3,Nat.add_comm r (64*q)];simp [hr]
theorem Da3 (s q r:Nat):(wd s q).fdiv (2 ^ r)=((s / 2 ^ (64*q) % 2 ^ 64 / 2 ^ r:Nat):Int):=by
 have h0:(0:Int)≤2 ^ r:=Int.le_of_lt (Int.pow_pos (by decide));unfold wd;rw [Int.fdiv_eq_ediv_of_nonneg _ h0,Int.natCast_ediv,Int.natCast_pow]
 rfl
theorem has_eq (s b:Nat):Aa4 .eql (Ba5 .and .u64 ((wd s (b / 64)).fdiv (2 ^ (min (b % 64) 64))) 1) 1=s.testBit b:=by
 have hr:b % 64<64:=Ep5 _ (by decide);have hmin:min (b % 64) 64=b % 64:=by omega
 rw [hmin,Da3];have hw:s / 2 ^ (64*(b / 64)) % 2 ^ 64<2 ^ 64:=Ep5 _ (by decide);have hw2:s / 2 ^ (64*(b / 64)) % 2 ^ 64 / 2 ^ (b % 64)<2 ^ 64:=Nat.lt_of_le_of_lt (Nat.div_le_self _ _) hw;have h1:=Aj4 (s / 2 ^ (64*(b / 64)) % 2 ^ 64 / 2 ^ (b % 64)) 1 hw2 (by decide);rw [show ((1:Nat):Int)=1 from rfl] at h1;rw [h1,and_one];have h2:=Ad5 s (b / 64) (b % 64) hr;rw [Nat.div_add_mod] at h2;rw [← h2,Nat.testBit_eq_decide_div_mod_eq];unfold Aa4;have:=Ep5 (s / 2 ^ (64*(b / 64)) % 2 ^ 64 / 2 ^ (b % 64)) (show 0<2 by decide)
 by_cases hc:s / 2 ^ (64*(b / 64)) % 2 ^ 64 / 2 ^ (b % 64) % 2=1
 ·rw [hc];simp
 ·have:s / 2 ^ (64*(b / 64)) % 2 ^ 64 / 2 ^ (b % 64) % 2=0:=by omega
  rw [this];simp
theorem rhas_eq (s b:Nat):Aa4 .eql (((wd s (b / 64)).fdiv (2 ^ (min (b % 64) 64))).tmod 2) 1=s.testBit b:=by
 have hr:b % 64<64:=Ep5 _ (by decide);have hmin:min (b % 64) 64=b % 64:=by omega
 rw [hmin,Da3];have h2:=Ad5 s (b / 64) (b % 64) hr;rw [Nat.div_add_mod] at h2;rw [← h2,Nat.testBit_eq_decide_div_mod_eq];generalize s / 2 ^ (64*(b / 64)) % 2 ^ 64 / 2 ^ (b % 64)=x;unfold Aa4;rw [Int.tmod_eq_emod_of_nonneg (by omega)]
 have:((x:Int) % 2==1)=decide (x % 2=1):=by
  by_cases h:x % 2=1
  ·have:(x:Int) % 2=1:=by omega
   rw [this];simp [h]
  ·have:(x:Int) % 2=0:=by omega
   rw [this];simp [h]
 exact this
theorem or_ok {s t:Nat} (hs:L4 s) (ht:L4 t):L4 (s|||t):=Nat.or_lt_two_pow hs ht
theorem bit_ok {b:Nat} (hb:b<256):L4 (2 ^ b):=Nat.pow_lt_pow_right (by decide) hb
theorem wd_or (s t i:Nat):Ba5 .or .u64 (wd s i) (wd t i)=wd (s|||t) i:=by
 unfold wd;rw [Eh2 _ _ (Ep5 _ (by decide)) (Ep5 _ (by decide)),Nat.or_div_two_pow,Nat.or_mod_two_pow]
theorem wd_bit (b i:Nat) (hb:b<256):wd (2 ^ b) i=if b / 64=i then 2 ^ (b % 64) else 0:=by
 unfold wd;have hmod:b % 64<64:=Ep5 _ (by decide)
 have key:2 ^ b / 2 ^ (64*i) % 2 ^ 64=if b / 64=i then 2 ^ (b % 64) else 0:=by
  apply Er9;intro j;rw [Er0,Es3,Nat.testBit_two_pow]
  split
  ·rw [Nat.testBit_two_pow]
   by_cases hj:b % 64=j<;>simp [hj]<;>omega
  ·simp;omega
 rw [key]
 split<;>simp
theorem Dc5 (s b:Nat) (hb:b<256):Ba5 .or .u64 (wd s (b / 64)) (IntKind.u64.wrap (1*2 ^ (min (b % 64) 64)))=wd (s|||2 ^ b) (b / 64):=by
 have hr:b % 64<64:=Ep5 _ (by decide);rw [show min (b % 64) 64=b % 64 from by omega];have h1:wd (2 ^ b) (b / 64)=2 ^ (b % 64):=by rw [wd_bit b _ hb,Ek1 J]
 have h2:=wd_range (2 ^ b) (b / 64);rw [Int.one_mul,Ap7 (by rw [← h1];omega),← h1,wd_or]
theorem Dw5 (s b i:Nat) (hb:b<256) (hi:b / 64≠i):wd (s|||2 ^ b) i=wd s i:=by
 rw [← wd_or,wd_bit b i hb,Ek0 hi];have:=Eh2 (s / 2 ^ (64*i) % 2 ^ 64) 0 (Ep5 _ (by decide)) (by decide)
 simpa [wd] using this
theorem Cj2 (s b:Nat) (hb:b<256):(C4 s).take (b / 64)++[.int .u64 (wd (s|||2 ^ b) (b / 64))]++(C4 s).drop (b / 64+1)=C4 (s|||2 ^ b):=by
 have h:b / 64=0∨b / 64=1∨b / 64=2∨b / 64=3:=by omega
 have p:=fun i hi=>Dw5 s b i hb hi
 rcases h with h|h|h|h<;>rw [h] at p ⊢<;>simp [C4,p]
theorem Am4 (s i:Nat) (hi:i<4):(C4 s)[i]?=some (.int .u64 (wd s i)):=by
 have h:i=0∨i=1∨i=2∨i=3:=by omega
 rcases h with h|h|h|h<;>subst h<;>rfl
theorem W0 (s:Nat):(C4 s).length=4:=rfl
theorem Du5 {s t:Nat} (hs:L4 s) (ht:L4 t) (h:∀ i,i<4→wd s i=wd t i):s=t:=by
 apply Er9;intro j
 by_cases hj:j<256
 ·have h1:=h (j / 64) (by omega);unfold wd at h1;have h1':s / 2 ^ (64*(j / 64)) % 2 ^ 64=t / 2 ^ (64*(j / 64)) % 2 ^ 64:=by exact_mod_cast h1
  have h2:=Ad5 s (j / 64) (j % 64) (Ep5 _ (by decide));have h3:=Ad5 t (j / 64) (j % 64) (Ep5 _ (by decide));rw [Nat.div_add_mod] at h2 h3;rw [← h2,← h3,h1']
 ·rw [Nat.testBit_lt_two_pow (Et6 hs (Nat.pow_le_pow_right (by decide) (by omega))),Nat.testBit_lt_two_pow (Et6 ht (Nat.pow_le_pow_right (by decide) (by omega)))]
def Q2 (s:Nat):Nat:=2 ^ 256 - (s+1)
theorem Bi2 (s:Nat):L4 (Q2 s):=by unfold Q2 L4;omega
theorem Bs3 {s:Nat} (hs:L4 s) (j:Nat):(Q2 s).testBit j=(decide (j<256) && !s.testBit j):=Nat.testBit_two_pow_sub_succ hs j
theorem wd_not {s:Nat} (hs:L4 s) (i:Nat) (hi:i<4):Ba5 .xor .u64 (if IntKind.u64.signed then -1 else IntKind.u64.max) (wd s i)=wd (Q2 s) i:=by
 have hw:s / 2 ^ (64*i) % 2 ^ 64<2 ^ 64:=Ep5 _ (by decide);unfold wd;rw [bitv_cpl _ hw]
 congr 1
 apply Er9;intro j;rw [show 2 ^ 64 - 1 - s / 2 ^ (64*i) % 2 ^ 64=2 ^ 64 - (s / 2 ^ (64*i) % 2 ^ 64+1) from by omega,Nat.testBit_two_pow_sub_succ hw,Er0,Er0,Es3,Es3,Bs3 hs]
 by_cases hj:j<64
 ·simp [hj];omega
 ·simp [hj]
theorem Az6 {w:World} {b i:Nat} {s:Nat} {τ:TypeId} (h:Blk w b (C4 s) τ) (hi:i<4):w.cell? ⟨b,0+i,none⟩=some (.int .u64 (wd s i)):=by
 rw [h.cell,El6];exact Am4 s i hi
theorem C6:C4 0=[.int .u64 0,.int .u64 0,.int .u64 0,.int .u64 0]:=by simp [C4,wd]
def Q0 (u s k:Nat):List Value:=(C4 u).take k++(C4 s).drop k
theorem Di0 {w:World} {b k u s:Nat} {τ:TypeId} (h:Blk w b (Q0 u s k) τ) (hk:k<4):w.cell? ⟨b,0+k,none⟩=some (.int .u64 (wd s k)):=by
 rw [h.cell,El6];have hh:k=0∨k=1∨k=2∨k=3:=by omega
 rcases hh with h|h|h|h<;>subst h<;>rfl
theorem De2 (u s k:Nat) (hk:k<4):(Q0 u s k).take (0+k)++[.int .u64 (wd u k)]++(Q0 u s k).drop (0+k+1)=Q0 u s (k+1):=by
 have hh:k=0∨k=1∨k=2∨k=3:=by omega
 rcases hh with h|h|h|h<;>subst h<;>rfl
theorem Bu0 (u s k:Nat) (hk:k≤4):(Q0 u s k).length=4:=by
 have hh:k=0∨k=1∨k=2∨k=3∨k=4:=by omega
 rcases hh with h|h|h|h|h<;>subst h<;>rfl
theorem Dz3 (u s:Nat):Q0 u s 4=C4 u:=by simp [Q0,C4]
theorem Cl3 (u s:Nat):Q0 u s 0=C4 s:=by simp [Q0,C4]
def F1 (l:List Nat):Nat:=l.foldl (fun s b=>s|||2 ^ b) 0
theorem fold_bit (l:List Nat):∀ (s j:Nat),(l.foldl (fun s b=>s|||2 ^ b) s).testBit j=(s.testBit j||decide (j∈l)):=by
 induction l with
 |nil=>intro s j;simp
 |cons b l ih=>
  intro s j;rw [Eq1,ih,Nat.testBit_or,Nat.testBit_two_pow]
  by_cases hj:b=j<;>simp [hj,Bool.or_assoc,eq_comm]
theorem Ai1 (l:List Nat) (j:Nat):(F1 l).testBit j=decide (j∈l):=by unfold F1;rw [fold_bit];simp
theorem fold_ok (l:List Nat) (hl:∀ b∈l,b<256):∀ s,L4 s→L4 (l.foldl (fun s b=>s|||2 ^ b) s):=by
 induction l with
 |nil=>intro s hs;exact hs
 |cons b l ih=>intro s hs;exact ih (fun x hx=>hl x (Em8 _ hx)) _ (or_ok hs (bit_ok (hl b (Em1 ..))))
theorem P8:L4 0:=by unfold L4;decide
theorem Aq1 (l:List Nat) (hl:∀ b∈l,b<256):L4 (F1 l):=fold_ok l hl 0 P8
def byv (b:Nat):Value:=.int .u8 (b:Int)
theorem Bq4 (lo k:Nat):F1 (List.range' lo (k+1))=F1 (List.range' lo k)|||2 ^ (lo+k):=by
 unfold F1;rw [List.range'_concat,En9];simp
def bys (l:List Nat):List Value:=l.map byv
theorem Dq4 (l:List Nat):(bys l).length=l.length:=by simp [bys]
theorem Au9 (l:List Nat) (k:Nat) (h:k<l.length):(bys l)[k]?=some (.int .u8 ((l.getD k 0:Nat):Int)):=by simp [bys,byv,Ek4 h,Ek2]
def F5 (l:List Nat):List Value:=l.flatMap C4
theorem U5 (l:List Nat):(F5 l).length=l.length*4:=by
 induction l with
 |nil=>rfl
 |cons s l ih=>simp only [F5,Eo0,Ek5,W0,En2] at*;omega
theorem O2:∀ (l:List Nat) (k j:Nat),k<l.length→j<4→(F5 l)[k*4+j]?=(C4 (l.getD k 0))[j]?
 |[],k,j,h,_=>by simp at h
 |s::l,0,j,_,hj=>by
  simp only [F5,Eo0,Eu9,El6];rw [Em6 (by rw [W0];exact hj)]
  rfl
 |s::l,k+1,j,h,hj=>by
  simp only [F5,Eo0];rw [Em2 (by rw [W0];omega),W0,show (k+1)*4+j - 4=k*4+j from by omega];exact O2 l k j (by simpa using h) hj
def V8 (l:List Nat):Nat:=l.foldl (·|||·) 0
theorem Ds9 (l:List Nat) (hl:∀ s∈l,L4 s):∀ s,L4 s→L4 (l.foldl (·|||·) s):=by
 induction l with
 |nil=>intro s hs;exact hs
 |cons b l ih=>intro s hs;exact ih (fun x hx=>hl x (Em8 _ hx)) _ (or_ok hs (hl b (Em1 ..)))
end Go.Clt
end
section
namespace Go.Clt
open Go Go.RowKit
structure Ps where
 i:Nat
 e:Int
deriving DecidableEq,Repr
def Ps.fail (p:Ps) (a:Nat) (e:Int):Ps:=if p.e=0 then ⟨a,e⟩ else p
def Ps.go (p:Ps) (k:Nat):Ps:=⟨p.i+k,p.e⟩
def H7 (L:List Nat) (p:Ps):Nat:=L.getD p.i 0
def isB (L:List Nat) (p:Ps) (b:Nat):Bool:=decide (p.i<L.length) && decide (L.getD p.i 0=b)
def isS (L:List Nat) (p:Ps) (b:Nat):Ps:=if isB L p b then p.go 1 else p
def Be5:List Nat→Nat→Int
 |[],_=> -1
 |b::l,c=>if b=c then 0 else if Be5 l c= -1 then -1 else Be5 l c+1
def hexT:List Nat:=[48,49,50,51,52,53,54,55,56,57,97,98,99,100,101,102]
def decT:List Nat:=[48,49,50,51,52,53,54,55,56,57]
def Aw2:List Nat:=[92,124,40,41,91,93,123,125,42,43,63,46,94,36,47,45]
def otherT:List Nat:=[49,50,51,52,53,54,55,56,57,98,66,65,122,90,71,81,69,107,112,80]
def Cm7:List Nat:=[91,93,45,94]
def Ea4:List Nat:=[93,125]
def hexV (L:List Nat) (p:Ps):Int:=if H7 L p<65 then Be5 decT (H7 L p) else Be5 hexT (H7 L p|||32)
def Cc1 (L:List Nat) (p:Ps):Bool:=decide (p.i<L.length) && decide (0≤hexV L p)
def Bf7 (L:List Nat) (p:Ps):Nat × Ps:=if Cc1 L p then ((hexV L p).toNat,p.go 1) else (0,p.fail p.i 4)
def Ax3 (a b:Nat):Nat:=F1 (List.range' a (b+1 - a))
def Au8:Nat:=Ax3 48 57
def Dj7:Nat:=V8 [Au8,Ax3 97 122,Ax3 65 90,F1 [95]]
def Ci2:Nat:=V8 [Ax3 9 13,F1 [32]]
def Ak0 (c:Nat):Option Nat:=
 if c=110 then some (F1 [10]) else if c=116 then some (F1 [9]) else if c=114 then some (F1 [13]) else if c=102 then some (F1 [12]) else if c=118 then some (F1 [11])
 else if c=100 then some Au8 else if c=119 then some Dj7 else if c=115 then some Ci2 else if c=68 then some (Q2 Au8) else if c=87 then some (Q2 Dj7) else if c=83 then some (Q2 Ci2) else none
def J8 (L:List Nat) (p:Ps):Nat × Ps:=
 let q:=p.go 1
 let c:=H7 L q
 if ¬ q.i<L.length then (0,q.fail q.i 4)
 else if 0≤Be5 Aw2 c then (F1 [c],q.go 1)
 else match Ak0 c with
  |some s=>(s,q.go 1)
  |none=>
   if c=120 then
    let h:=Bf7 L (q.go 1)
    if h.2.e=0 then ((let l:=Bf7 L h.2;(F1 [(16*h.1+l.1) % 256],l.2)):Nat × Ps) else (0,h.2)
   else if 0≤Be5 otherT c then (0,q.fail p.i 6)
   else (0,q.fail q.i 4)
def F9 (L:List Nat) (p:Ps):Nat × Ps:=
 if ¬ p.i<L.length∨0≤Be5 Cm7 (H7 L p) then (0,p.fail p.i 4)
 else if H7 L p=92 then J8 L p
 else (F1 [H7 L p],p.go 1)
def Ag9 (s:Nat):Nat:=((List.range 256).filter fun b=>s.testBit b).length
def L8 (s:Nat):Nat:=((List.range 256).find? fun b=>s.testBit b).getD 0
def M7 (L:List Nat) (p:Ps):Nat × Ps:=
 let lo:=F9 L p
 if lo.2.e≠0 then lo
 else if isB L lo.2 45=false then lo
 else
  let q:=lo.2.go 1
  if Ag9 lo.1≠1 then (lo.1,q.fail lo.2.i 4)
  else
   let hi:=F9 L q
   let r:=if hi.2.e=0∧Ag9 hi.1≠1 then hi.2.fail q.i 4 else hi.2
   let a:=L8 lo.1
   let b:=L8 hi.1
   (Ax3 a b,if r.e=0∧b<a then r.fail p.i 5 else r)
def R3 (L:List Nat):Nat→Nat→Ps→Nat × Ps
 |0,s,p=>(s,p)
 |f+1,s,p=>if p.e≠0 then (s,p) else if isB L p 93 then (s,p.go 1) else let q:=M7 L p;R3 L f (V8 [s,q.1]) q.2
def Ae4 (L:List Nat) (p:Ps):Nat × Ps:=
 let q:=p.go 1
 let s:=M7 L (isS L q 94)
 let r:=R3 L (L.length+2) s.1 s.2
 (if isB L q 94 then Q2 r.1 else r.1,r.2)
def R9 (L:List Nat) (p:Ps):Bool:=decide (p.i<L.length) && decide (48≤H7 L p) && decide (H7 L p≤57)
def N1 (L:List Nat):Nat→Nat→Ps→Nat × Ps
 |0,n,p=>(n,p)
 |f+1,n,p=>if p.e=0∧R9 L p then N1 L f (min (10*n+(H7 L p - 48)) 1001) (p.go 1) else (n,p)
def H9 (L:List Nat) (p:Ps):Nat × Ps:=
 let q:=if R9 L p then p else p.fail p.i 4
 let r:=N1 L (L.length+1) 0 q
 (r.1,if 1000<r.1 then r.2.fail p.i 5 else r.2)
def S6 (L:List Nat) (p:Ps):Int × Int × Ps:=
 let lo:=H9 L p
 let m:Int × Ps:=
  if lo.2.e=0∧isB L lo.2 44 then
   let q:=lo.2.go 1
   if ¬ q.i<L.length∨H7 L q≠125 then
    let hi:=H9 L q
    ((hi.1:Int),if hi.2.e=0∧hi.1<lo.1 then hi.2.fail q.i 5 else hi.2)
   else (-1,q)
  else ((lo.1:Int),lo.2)
 let r:=m.2
 ((lo.1:Int),m.1,if r.e=0 then (if isB L r 125 then r.go 1 else r.fail r.i 4) else r)
structure Tok where
 kind:Int:=0
 src:Int:=0
 to:Int:=0
 set:Nat:=0
 min:Int:=0
 max:Int:=0
 lazy:Bool:=false
deriving DecidableEq,Repr
def Tok.cells (t:Tok):List Value:=[.int .i64 t.kind,.int .i64 t.src,.int .i64 t.to]++C4 t.set++[.int .i64 t.min,.int .i64 t.max,.bool t.lazy]
def Ak4 (L:List Nat) (p:Ps) (c:Nat):Tok × Ps:=
 let m:Int × Int × Ps:=if c=43 then (1,-1,p) else if c=63 then (0,1,p) else if c=123 then S6 L p else (0,-1,p)
 let q:=m.2.2
 if q.e≠0 then ({ kind:=5,min:=m.1,max:=m.2.1 },q)
 else
  let r:=isS L q 63
  ({ kind:=5,min:=m.1,max:=m.2.1,lazy:=isB L q 63 },if isB L r 43 then r.fail r.i 6 else r)
def Aa8 (L:List Nat) (p:Ps) (src:Nat):Tok × Ps:=
 if isB L p 63 && isB L (p.go 1) 58 then ({ kind:=2 },p.go 2)
 else if isB L p 63 then ({ kind:=1 },p.fail src 6)
 else ({ kind:=1 },p)
def Ag7 (L:List Nat) (p:Ps):Tok × Ps:=
 let c:=H7 L p
 if c=92 then let q:=J8 L p;({ set:=q.1 },q.2)
 else if c=91 then let q:=Ae4 L p;({ set:=q.1 },q.2)
 else
  let q:=p.go 1
  if c=40 then Aa8 L q p.i
  else if c=41 then ({ kind:=3 },q)
  else if c=124 then ({ kind:=4 },q)
  else if c=46 then ({ set:=Q2 (F1 [10]) },q)
  else if c=42∨c=43∨c=63∨c=123 then Ak4 L q c
  else if c=94∨c=36 then ({ set:=F1 [c] },q.fail p.i 6)
  else if 0≤Be5 Ea4 c then ({ set:=F1 [c] },q.fail p.i 4)
  else ({ set:=F1 [c] },q)
def Ar6 (L:List Nat):Nat→Ps→List Tok→List Tok × Nat × Int
 |0,p,l=>(l,l.length,0)
 |f+1,p,l=>
  if p.i<L.length then
   let t:=Ag7 L p
   if t.2.e≠0 then ([],t.2.i,t.2.e)
   else Ar6 L f t.2 (l++[{ t.1 with src:=p.i,to:=t.2.i }])
  else (l,l.length,0)
def R7 (L:List Nat):List Tok × Nat × Int:=if 1048576<L.length then ([],0,3) else Ar6 L (L.length+1) ⟨0,0⟩ []
end Go.Clt
end
section
namespace Go.Clt
open Go
structure Fine (n k:Nat) (p q:Ps):Prop where
 le:q.i≤n
 adv:q.e=0→p.i+k≤q.i
 err:q.e=0→p.e=0
theorem Fine.refl {n:Nat} {p:Ps} (h:p.i≤n):Fine n 0 p p:=⟨h,fun _=>El1 _,fun h=>h⟩
theorem Fine.trans {n k j:Nat} {p q r:Ps} (h:Fine n k p q) (h2:Fine n j q r):Fine n (k+j) p r:=
 ⟨h2.le,fun he=>by have:=h.adv (h2.err he);have:=h2.adv he;omega,fun he=>h.err (h2.err he)⟩
theorem Fine.weak {n k j:Nat} {p q:Ps} (h:Fine n k p q) (hj:j≤k):Fine n j p q:=⟨h.le,fun he=>by have:=h.adv he;omega,h.err⟩
theorem Fine.go {n k:Nat} {p:Ps} (h:p.i+k≤n):Fine n k p (p.go k):=⟨h,fun _=>El1 _,fun h=>h⟩
theorem Aa3 {p:Ps} {a:Nat} {e:Int} (he:e≠0):(p.fail a e).e≠0:=by
 unfold Ps.fail;split<;>assumption
theorem Fine.fail {n k:Nat} {p:Ps} {a:Nat} {e:Int} (hp:p.i≤n) (ha:a≤n) (he:e≠0):Fine n k p (p.fail a e):=
 ⟨by unfold Ps.fail;split<;>assumption,fun h=>absurd h (Aa3 he),fun h=>absurd h (Aa3 he)⟩
theorem Fine.thenFail {n k:Nat} {p q:Ps} {a:Nat} {e:Int} (h:Fine n k p q) (ha:a≤n) (he:e≠0):Fine n k p (q.fail a e):=
 (h.trans (Fine.fail (k:=0) h.le ha he)).weak (by omega)
theorem Ae5 {n k:Nat} {p q r:Ps} {c:Prop} [Decidable c] (h1:Fine n k p q) (h2:Fine n k p r):Fine n k p (if c then q else r):=by split<;>assumption
theorem As4 {L:List Nat} {p:Ps} {b:Nat} (h:isB L p b=true):p.i<L.length:=by
 unfold isB at h;simp at h;exact h.1
theorem Bg8 {L:List Nat} {p:Ps} {b:Nat} (h:p.i≤L.length):Fine L.length 0 p (isS L p b):=by
 unfold isS
 split
 ·rename_i hb;exact (Fine.go (k:=1) (As4 hb)).weak (by omega)
 ·exact Fine.refl h
theorem Ay7 {L:List Nat} {p:Ps} (h:p.i≤L.length):Fine L.length 0 p (Bf7 L p).2:=by
 unfold Bf7
 split
 ·rename_i hb;unfold Cc1 at hb;simp at hb;exact (Fine.go (k:=1) (by omega)).weak (by omega)
 ·exact Fine.fail h h (by decide)
theorem Be8 {L:List Nat} {p:Ps} (h:p.i<L.length):Fine L.length 1 p (J8 L p).2:=by
 have hg:Fine L.length 1 p (p.go 1):=Fine.go h;unfold J8;simp only []
 split
 ·exact hg.thenFail hg.le (by decide)
 ·rename_i hlt
  have hlt':(p.go 1).i<L.length:=by omega
  have hg2:Fine L.length 1 (p.go 1) ((p.go 1).go 1):=Fine.go hlt'
  split
  ·exact (hg.trans hg2).weak (by omega)
  ·split
   ·exact (hg.trans hg2).weak (by omega)
   ·split
    ·split
     ·exact ((hg.trans hg2).trans ((Ay7 hg2.le).trans (Ay7 (Ay7 hg2.le).le))).weak (by omega)
     ·exact ((hg.trans hg2).trans (Ay7 hg2.le)).weak (by omega)
    ·split
     ·exact hg.thenFail (by omega) (by decide)
     ·exact hg.thenFail hg.le (by decide)
theorem Bu9 {L:List Nat} {p:Ps} (h:p.i≤L.length):Fine L.length 1 p (F9 L p).2:=by
 unfold F9
 split
 ·exact Fine.fail h h (by decide)
 ·rename_i hn
  have hlt:p.i<L.length:=by omega
  split
  ·exact Be8 hlt
  ·exact Fine.go hlt
theorem X8 {L:List Nat} {p:Ps} (h:p.i≤L.length):Fine L.length 1 p (M7 L p).2:=by
 have h1:=Bu9 h;unfold M7;simp only []
 split
 ·exact h1
 ·split
  ·exact h1
  ·rename_i hb
   have hb':isB L (F9 L p).2 45=true:=by simpa using hb
   have hg:Fine L.length 1 (F9 L p).2 ((F9 L p).2.go 1):=Fine.go (As4 hb');have h2:=(h1.trans hg).weak (j:=1) (by omega)
   split
   ·exact h2.thenFail h1.le (by decide)
   ·have h3:=(h2.trans (Bu9 hg.le)).weak (j:=1) (by omega)
    have h4:Fine L.length 1 p (if (F9 L ((F9 L p).2.go 1)).2.e=0∧Ag9 (F9 L ((F9 L p).2.go 1)).1≠1 then (F9 L ((F9 L p).2.go 1)).2.fail ((F9 L p).2.go 1).i 4 else (F9 L ((F9 L p).2.go 1)).2):=
     Ae5 (h3.thenFail hg.le (by decide)) h3
    exact Ae5 (h4.thenFail h (by decide)) h4
theorem Bo2 {L:List Nat}:∀ (f:Nat) (s:Nat) (p:Ps),p.i≤L.length→Fine L.length 0 p (R3 L f s p).2
 |0,_,_,h=>Fine.refl h
 |f+1,s,p,h=>by
  unfold R3
  split
  ·exact Fine.refl h
  ·split
   ·rename_i hb;exact (Fine.go (k:=1) (As4 hb)).weak (by omega)
   ·exact ((X8 h).trans (Bo2 f _ _ (X8 h).le)).weak (by omega)
theorem Cy7 {L:List Nat} {p:Ps} (h:p.i<L.length):Fine L.length 1 p (Ae4 L p).2:=by
 have hg:Fine L.length 1 p (p.go 1):=Fine.go h;have h1:=Bg8 (b:=94) hg.le;have h2:=X8 h1.le;unfold Ae4;exact (hg.trans (h1.trans (h2.trans (Bo2 _ _ _ h2.le)))).weak (by omega)
theorem Co5 {L:List Nat} {p:Ps} (h:R9 L p=true):p.i<L.length:=by
 unfold R9 at h;simp at h;omega
theorem Bd9 {L:List Nat}:∀ (f:Nat) (n:Nat) (p:Ps),p.i≤L.length→Fine L.length 0 p (N1 L f n p).2
 |0,_,_,h=>Fine.refl h
 |f+1,s,p,h=>by
  unfold N1
  split
  ·rename_i hb
   have hg:Fine L.length 1 p (p.go 1):=Fine.go (Co5 hb.2);exact (hg.trans (Bd9 f _ _ hg.le)).weak (by omega)
  ·exact Fine.refl h
theorem Ae0 {L:List Nat} {p:Ps} (h:p.i≤L.length):Fine L.length 0 p (H9 L p).2:=by
 unfold H9;have h1:Fine L.length 0 p (if R9 L p then p else p.fail p.i 4):=Ae5 (Fine.refl h) (Fine.fail h h (by decide));have h2:=(h1.trans (Bd9 (L.length+1) 0 _ h1.le)).weak (j:=0) (by omega);exact Ae5 (h2.thenFail h (by decide)) h2
theorem Cp7 {L:List Nat} {p:Ps} (h:p.i≤L.length):Fine L.length 0 p (S6 L p).2.2:=by
 have h1:=Ae0 h
 have key:∀ m:Int × Ps,Fine L.length 0 p m.2→Fine L.length 0 p (if m.2.e=0 then (if isB L m.2 125 then m.2.go 1 else m.2.fail m.2.i 4) else m.2):=by
  intro m hm
  split
  ·split
   ·rename_i hb;exact (hm.trans (Fine.go (k:=1) (As4 hb))).weak (by omega)
   ·exact hm.thenFail hm.le (by decide)
  ·exact hm
 unfold S6;refine key _ ?_
 split
 ·rename_i hb
  have hg:Fine L.length 1 (H9 L p).2 ((H9 L p).2.go 1):=Fine.go (As4 hb.2);have h2:=(h1.trans hg).weak (j:=0) (by omega);simp only []
  split
  ·have h3:=(h2.trans (Ae0 hg.le)).weak (j:=0) (by omega);exact Ae5 (h3.thenFail hg.le (by decide)) h3
  ·exact h2
 ·exact h1
theorem Cy2 {L:List Nat} {p:Ps} {c:Nat} (h:p.i≤L.length):Fine L.length 0 p (Ak4 L p c).2:=by
 have h1:Fine L.length 0 p (if c=43 then ((1,-1,p):Int × Int × Ps) else if c=63 then (0,1,p) else if c=123 then S6 L p else (0,-1,p)).2.2:=by
  split
  ·exact Fine.refl h
  ·split
   ·exact Fine.refl h
   ·split
    ·exact Cp7 h
    ·exact Fine.refl h
 unfold Ak4;generalize (if c=43 then ((1,-1,p):Int × Int × Ps) else if c=63 then (0,1,p) else if c=123 then S6 L p else (0,-1,p))=m at h1;simp only []
 split
 ·exact h1
 ·have h2:=(h1.trans (Bg8 (b:=63) h1.le)).weak (j:=0) (by omega);exact Ae5 (h2.thenFail h2.le (by decide)) h2
theorem Cv9 {L:List Nat} {p:Ps} {a:Nat} (h:p.i≤L.length) (ha:a≤L.length):Fine L.length 0 p (Aa8 L p a).2:=by
 unfold Aa8
 split
 ·rename_i hb
  simp only [Ek6] at hb;have:=As4 hb.2;exact (Fine.go (k:=2) (by simp [Ps.go] at this;omega)).weak (by omega)
 ·split
  ·exact Fine.fail h ha (by decide)
  ·exact Fine.refl h
theorem Bk1 {L:List Nat} {p:Ps} (h:p.i<L.length):Fine L.length 1 p (Ag7 L p).2:=by
 have hg:Fine L.length 1 p (p.go 1):=Fine.go h;unfold Ag7;simp only []
 split
 ·exact Be8 h
 ·split
  ·exact Cy7 h
  ·split
   ·exact (hg.trans (Cv9 hg.le (by omega))).weak (by omega)
   ·split
    ·exact hg
    ·split
     ·exact hg
     ·split
      ·exact hg
      ·split
       ·exact (hg.trans (Cy2 hg.le)).weak (by omega)
       ·split
        ·exact hg.thenFail (by omega) (by decide)
        ·split
         ·exact hg.thenFail (by omega) (by decide)
         ·exact hg
end Go.Clt
end
namespace Go.Clt
open Go Go.RowKit Go.Proofs
theorem Cb4 (n:Int) (hn:n≤9223372036854775807) (w:World):Calls P 116 #[.int .i64 n] w (Ret fun v w'=>v= .int .u64 (max n 0)∧w'=w):=by
 refine D4 Tryz.func116 J J (Qd (Zc 1 J (Qd (Z 1 J (C9 J (Y9 J J) (C9 J (H4 kn3 Tryz.underlying68 J (by exact Ap7 (by omega))) ?_))))));exact Zc 1 J (A6 (B4 J J ⟨rfl,rfl⟩))
theorem Aa6 (a b:Int) (ha:a≤9223372036854775807) (hb:b≤9223372036854775807) (w:World):Calls P 17 #[.int .i64 a,.int .i64 b] w (Ret fun v w'=>v= .int .i64 (W1 a b)∧w'=w):=by
 refine D4 Tryz.func17 J J (Qd (Zc 1 J (Qd (Z 1 J (C9 J (Y9 J J) (Zc 1 J (Qd (Z 1 J (C9 J (Y9 J J) (Zc 1 J (Qa (Qd (Z 2 J (Su J J (by omega) (Zc 1 J (A4 J (fun hc=>?_) (fun hc=>?_)))))))))))))))))
 ·try simp at hc
  exact Qd (Zc 1 J (A6 (B4 J J ⟨J4 (by unfold W1;omega),rfl⟩)))
 ·try simp at hc
  exact A7 (Qd (Z 2 J (Ad J J (by omega) (Zc 1 J (A6 (B4 J J ⟨J4 (by unfold W1;omega),rfl⟩))))))
theorem most_c (hi lo:Int) (h0:0≤lo) (h1:lo≤18446744073709551615) (w:World):Calls P 117 #[.int .u64 hi,.int .u64 lo] w (Ret fun v w'=>v= .int .i64 (if hi=0∧lo≤9223372036854775807 then lo else 9223372036854775807)∧w'=w):=by
 refine D4 Tryz.func117 J J (Qd (Zc 1 J (Qa (Qd (Z 3 J (C0 (d:=7) J (fun h2=>?_) (fun h2=>?_)))))))
 ·try simp at h2
  exact Qk J (Qk J (Zc 1 J (E3 J (Qd (Zc 1 J (A6 (B4 J J ⟨by rw [Ek0 (by omega)],rfl⟩)))))))
 ·try simp at h2
  refine Qu J (Z 1 J (Qu J (Zc 2 J (A4 J (fun h3=>?_) (fun h3=>?_)))))
  ·try simp at h3
   exact Qd (Zc 1 J (A6 (B4 J J ⟨by rw [Ek0 (by omega)],rfl⟩)))
  ·try simp at h3
   refine A7 (Qd (Z 1 J (C9 J (H4 kn68 Tryz.underlying3 J (by exact I4 (by omega))) ?_)));exact Zc 1 J (A6 (B4 J J ⟨by rw [Ek1 (by omega)],rfl⟩))
theorem nadd_c (a b:Int) (ha:a≤9223372036854775807) (hb:b≤9223372036854775807) (w:World):Calls P 86 #[.int .i64 a,.int .i64 b] w (Ret fun v w'=>v= .int .i64 (W1 a b)∧w'=w):=by
 refine D4 Tryz.func86 J J (Qd (Zc 1 J (Qd (Z 1 J (Ca fb116 J (Cb4 _ (by omega) _) ?_)))));rintro _ _ ⟨rfl,rfl⟩;refine Z 1 J (Ca fb116 J (Cb4 _ (by omega) _) ?_);rintro _ _ ⟨rfl,rfl⟩;refine C9 J (Dj3 J (fun w=>Ei6 _ _ _ (by omega) (by omega) (by omega) (by omega) w)) (Zc 5 J (Qd (Z 2 J (Ca fb117 J (most_c _ _ (by omega) (by omega) _) ?_))));rintro _ _ ⟨rfl,rfl⟩;exact Zc 1 J (A6 (B4 J J ⟨J4 (by unfold W1;split<;>omega),rfl⟩))
theorem mul64_c (x y:Int) (hx:0≤x) (hy:0≤y) (hx':x<18446744073709551616) (hy':y<18446744073709551616) (w:World):
  Calls P 144 #[.int .u64 x,.int .u64 y] w (Ret fun v w'=>v= .tuple #[.int .u64 (x*y / 18446744073709551616),.int .u64 (x*y % 18446744073709551616)]∧w'=w):=by
 obtain ⟨x,rfl⟩:=Ep8 hx;obtain ⟨y,rfl⟩:=Ep8 hy;exact Dd3 (Tryz.bits_Mul64 x y (by omega) (by omega) w)
theorem Dz0 (x y:Int) (hx:0≤x) (hy:0≤y):(if x*y / 18446744073709551616=0∧x*y % 18446744073709551616≤9223372036854775807 then x*y % 18446744073709551616 else 9223372036854775807)=min 9223372036854775807 (x*y):=by
 have:0≤x*y:=Int.mul_nonneg hx hy;generalize x*y=z at*
 split<;>omega
theorem nmul_c (a b:Int) (ha:a≤9223372036854775807) (hb:b≤9223372036854775807) (w:World):Calls P 114 #[.int .i64 a,.int .i64 b] w (Ret fun v w'=>v= .int .i64 (Ac2 a b)∧w'=w):=by
 refine D4 Tryz.func114 J J (Qd (Zc 1 J (Qd (Z 1 J (Ca fb116 J (Cb4 _ (by omega) _) ?_)))));rintro _ _ ⟨rfl,rfl⟩;refine Z 1 J (Ca fb116 J (Cb4 _ (by omega) _) ?_);rintro _ _ ⟨rfl,rfl⟩;refine Ca fb144 J (mul64_c _ _ (by omega) (by omega) (by omega) (by omega) _) ?_;rintro _ _ ⟨rfl,rfl⟩;refine Zc 5 J (Qd (Z 2 J (Ca fb117 J (most_c _ _ (by omega) (by omega) _) ?_)));rintro _ _ ⟨rfl,rfl⟩;exact Zc 1 J (A6 (B4 J J ⟨by rw [Dz0 _ _ (by omega) (by omega)];rfl,rfl⟩))
theorem Db8 (a b:Int) (ha:a≤9223372036854775807) (hb:b≤9223372036854775807) (w:World):Calls P 50 #[.int .i64 a,.int .i64 b] w (Ret fun v w'=>v= .int .i64 (Ac2 a b)∧w'=w):=by
 refine D4 Tryz.func50 J J (Qd (Zc 1 J (Qd (Z 1 J (C9 J (Y9 J J) (Zc 1 J (Qd (Z 1 J (C9 J (Y9 J J) (Zc 1 J (Qa (Qd (Z 3 J (C0 (d:=11) J (fun h1=>?_) (fun h1=>?_)))))))))))))))
 ·try simp at h1
  exact Qk J (Qk J (Zc 1 J (E3 J (Qd (Zc 1 J (A6 (B4 J J ⟨J4 (by unfold Ac2;rw [h1];omega),rfl⟩)))))))
 ·try simp at h1
  refine Qu J (Z 1 J (Qu J (Zc 2 J (A4 J (fun h2=>?_) (fun h2=>?_)))))
  ·try simp at h2
   exact Qd (Zc 1 J (A6 (B4 J J ⟨J4 (by unfold Ac2;rw [h2];omega),rfl⟩)))
  ·try simp at h2
   have h3:0≤9223372036854775807 / max b 0:=Int.ediv_nonneg (by omega) (by omega);have h4:9223372036854775807 / max b 0≤9223372036854775807:=Int.ediv_le_self _ (by omega)
   refine A7 (Qa (Qd (Z 2 J (C9 J (Ah4 J J (by omega) (by omega) (I4 (by omega))) (Zc 1 J (A4 J (fun h5=>?_) (fun h5=>?_)))))))
   ·try simp at h5
    refine Qd (Zc 1 J (A6 (B4 J J ⟨J4 ?_,rfl⟩)));have h6:=Int.lt_mul_of_ediv_lt (by omega) h5;unfold Ac2;omega
   ·try simp at h5
    have h6:=Int.mul_le_of_le_ediv (by omega) h5;have h7:0≤max a 0*max b 0:=Int.mul_nonneg (by omega) (by omega);exact A7 (Qd (Z 2 J (C9 J (Ap6 J J (by omega)) (Zc 1 J (A6 (B4 J J ⟨J4 (by unfold Ac2;omega),rfl⟩))))))
theorem Bv4 (F:Nat→Prop) (a:Int) (l:List Int) (A:Option Addr) (n c:Nat) (ha:a≤9223372036854775807) (hl:∀ x∈l,x≤9223372036854775807) (hn:n<9223372036854775807) (w:World) (hr:Rd F w 1 A n (I8 l)):Calls P 85 #[.int .i64 a,.slice A n c,.func (.func 86) #[] #[]] w (Ret fun v w'=>v= .int .i64 (l.foldl W1 a)∧w'=w):=by
 have hlen:l.length=n:=by have:=hr.len;rw [G0] at this;omega
 refine D4 Tryz.func85 J J (Qd (Zc 1 J (Qa (Qd (Z 1 J (Ln Tryz.underlying24 J (Zc 1 J (B2 (D8 (σ:=Nat) (fun k=>[(0,.int .i64 ((l.take k).foldl W1 a)),(2,.func (.func 86) #[] #[]),(9,.slice A n c),(10,.int .i64 n),(11,.int .i64 k)]) (fun k wr=>w=wr∧k≤n) (fun k wr=>n - k) 0 (sb J) ?_ ?_)))))))))
 ·exact ⟨rfl,by omega⟩
 rintro k wr ⟨rfl,hk⟩
 refine Qd (Zc 1 J (Qa (A4 J (fun hc=>?_) (fun hc=>?_))))
 ·try simp at hc
  obtain ⟨g,off,rfl,hF,hlt,hcell⟩:=hr.at_ (by omega);have hx:=hl _ (G9 l 0 k (by omega));have hacc:(l.take k).foldl W1 a≤9223372036854775807:=Ec4 (fun a b=>(M8 a b).2) _ _ ha;refine A7 (Qa (B2 (Qd (C9 J (B0 T8 J J (by omega) (by omega)) (Lc o3 J (hcell k _ (J6 l k (by omega))) (Zc 1 J (Qb (Z 3 J (P0 J (O0 J fb86 J) (nadd_c _ _ hacc hx _) ?_)))))))));rintro _ _ ⟨rfl,rfl⟩;refine Zc 1 J (Qb (Ad J J (by omega) (Zc 1 J ⟨k+1,⟨(by rw [Aq7 _ _ _ 0 _ (by omega)];rfl),rfl,rfl,rfl,rfl,trivial⟩,?_,?_⟩)));exact ⟨rfl,by omega⟩;omega
 ·try simp at hc
  refine Xb (Qd (Zc 2 J (A6 (B4 J J ?_))));have:k=l.length:=by omega
  subst this;exact ⟨by rw [Eo6],rfl⟩
theorem Do1 (F:Nat→Prop) (a:Int) (l:List Int) (A:Option Addr) (n c:Nat) (ha:a≤9223372036854775807) (hl:∀ x∈l,x≤9223372036854775807) (hn:n<9223372036854775807) (w:World) (hr:Rd F w 1 A n (I8 l)):Calls P 85 #[.int .i64 a,.slice A n c,.func (.func 114) #[] #[]] w (Ret fun v w'=>v= .int .i64 (l.foldl Ac2 a)∧w'=w):=by
 have hlen:l.length=n:=by have:=hr.len;rw [G0] at this;omega
 refine D4 Tryz.func85 J J (Qd (Zc 1 J (Qa (Qd (Z 1 J (Ln Tryz.underlying24 J (Zc 1 J (B2 (D8 (σ:=Nat) (fun k=>[(0,.int .i64 ((l.take k).foldl Ac2 a)),(2,.func (.func 114) #[] #[]),(9,.slice A n c),(10,.int .i64 n),(11,.int .i64 k)]) (fun k wr=>w=wr∧k≤n) (fun k wr=>n - k) 0 (sb J) ?_ ?_)))))))))
 ·exact ⟨rfl,by omega⟩
 rintro k wr ⟨rfl,hk⟩
 refine Qd (Zc 1 J (Qa (A4 J (fun hc=>?_) (fun hc=>?_))))
 ·try simp at hc
  obtain ⟨g,off,rfl,hF,hlt,hcell⟩:=hr.at_ (by omega);have hx:=hl _ (G9 l 0 k (by omega));have hacc:(l.take k).foldl Ac2 a≤9223372036854775807:=Ec4 (fun a b=>(V3 a b).2) _ _ ha;refine A7 (Qa (B2 (Qd (C9 J (B0 T8 J J (by omega) (by omega)) (Lc o3 J (hcell k _ (J6 l k (by omega))) (Zc 1 J (Qb (Z 3 J (P0 J (O0 J fb114 J) (nmul_c _ _ hacc hx _) ?_)))))))));rintro _ _ ⟨rfl,rfl⟩;refine Zc 1 J (Qb (Ad J J (by omega) (Zc 1 J ⟨k+1,⟨(by rw [Aq7 _ _ _ 0 _ (by omega)];rfl),rfl,rfl,rfl,rfl,trivial⟩,?_,?_⟩)));exact ⟨rfl,by omega⟩;omega
 ·try simp at hc
  refine Xb (Qd (Zc 2 J (A6 (B4 J J ?_))));have:k=l.length:=by omega
  subst this;exact ⟨by rw [Eo6],rfl⟩
theorem nAdd_c (F:Nat→Prop) (l:List Int) (A:Option Addr) (n c:Nat) (hl:∀ x∈l,x≤9223372036854775807) (hn:n<9223372036854775807) (w:World) (hr:Rd F w 1 A n (I8 l)):Calls P 46 #[.slice A n c] w (Ret fun v w'=>v= .int .i64 (l.foldl W1 0)∧w'=w):=by
 refine D4 Tryz.func46 J J (Qd (Zc 1 J (Qd (Z 1 J (Ca fb85 J (Bv4 F 0 l A n c (by omega) hl hn w hr) ?_)))));rintro _ _ ⟨rfl,rfl⟩;exact Zc 1 J (A6 (B4 J J ⟨rfl,rfl⟩))
theorem nSum_c (F:Nat→Prop) (l:List Int) (A:Option Addr) (n c:Nat) (hl:∀ x∈l,x≤9223372036854775807) (hn:n<9223372036854775807) (w:World) (hr:Rd F w 1 A n (I8 l)):Calls P 215 #[.slice A n c] w (Ret fun v w'=>v= .int .i64 (l.foldl W1 0)∧w'=w):=by
 refine D4 Tryz.func215 J J (Qd (Zc 1 J (Qd (Z 1 J (Ca fb85 J (Bv4 F 0 l A n c (by omega) hl hn w hr) ?_)))));rintro _ _ ⟨rfl,rfl⟩;exact Zc 1 J (A6 (B4 J J ⟨rfl,rfl⟩))
theorem nMul_c (F:Nat→Prop) (l:List Int) (A:Option Addr) (n c:Nat) (hl:∀ x∈l,x≤9223372036854775807) (hn:n<9223372036854775807) (w:World) (hr:Rd F w 1 A n (I8 l)):Calls P 84 #[.slice A n c] w (Ret fun v w'=>v= .int .i64 (Ar4 l)∧w'=w):=by
 have hlen:l.length=n:=by have:=hr.len;rw [G0] at this;omega
 refine D4 Tryz.func84 J J (Qd (Zc 1 J (Qa (Qd (Z 1 J (Ln Tryz.underlying24 J (Zc 1 J (B2 (D8 (σ:=Nat) (fun k=>[(0,.slice A n c),(5,.slice A n c),(6,.int .i64 n),(7,.int .i64 k)]) (fun k wr=>w=wr∧k≤n∧∀ x∈l.take k,¬ x≤0) (fun k wr=>n - k) 0 (sb J) ?_ ?_)))))))))
 ·exact ⟨rfl,by omega,by simp⟩
 rintro k wr ⟨rfl,hk,hpos⟩
 refine Qd (Zc 1 J (Qa (A4 J (fun hc=>?_) (fun hc=>?_))))
 ·try simp at hc
  obtain ⟨g,off,rfl,hF,hlt,hcell⟩:=hr.at_ (by omega)
  refine A7 (Qa (B2 (Qd (C9 J (B0 T8 J J (by omega) (by omega)) (Lc o3 J (hcell k _ (J6 l k (by omega))) (Zc 1 J (Qd (Zc 2 J (A4 J (fun h0=>?_) (fun h0=>?_))))))))))
  ·try simp at h0
   have hm:=G9 l 0 k (by omega);refine Qd (Zc 1 J (A6 (B4 J J ⟨J4 ?_,rfl⟩)));unfold Ar4;rw [Ek1];rw [Er1];exact ⟨_,hm,by simpa using h0⟩
  ·try simp at h0
   refine A7 (Qb (Ad J J (by omega) (Zc 1 J ⟨k+1,sb J,?_,?_⟩)));refine ⟨rfl,by omega,fun x hx=>?_⟩;rw [Eq2 (by omega)] at hx
   rcases En7.1 hx with h|h
   ·exact hpos x h
   ·have:x=l[k]?.getD 0:=by simpa [Ek4 (show k<l.length by omega)] using h
    omega
   omega
 ·try simp at hc
  have hkn:k=l.length:=by omega
  subst hkn;rw [Eo6] at hpos;refine Xb (Qd (Z 1 J (Ca fb85 J (Do1 F 1 l A n c (by omega) hl hn w hr) ?_)));rintro _ _ ⟨rfl,rfl⟩;refine Zc 1 J (A6 (B4 J J ⟨J4 ?_,rfl⟩));unfold Ar4;rw [Ek0];rw [Er1];rintro ⟨x,hx,h0⟩;exact hpos x hx (by simpa using h0)
theorem sadd_two (a b:Int) (ha:0≤a):[a,b].foldl W1 0=W1 a b:=by simp only [List.foldl];unfold W1;omega
theorem has_c (s b:Nat) (hb:b<256) (w:World):Calls P 137 #[.agg (C4 s).toArray,.int .u8 (b:Int)] w (Ret fun v w'=>v= .bool (s.testBit b)∧Chg [] w w'):=by
 have hC:=A8 [] w;refine D4 Tryz.func137 J J (Qd (B5 J (E1 J J) ?_));intro b1 w1 hb1 hs1 hx1 hB1;have hC:=hC.s0 hx1;refine Zc 1 J (Qd (Z 1 J (C9 J (Ah4 J J (by omega) (by omega) (by exact Al5 (by omega))) ?_)));exact C9 J (E6 Av2 J J (by omega) (by omega)) (Lc o68 J (Az6 hB1 (by omega)) (Z 1 J (C9 J (Ba1 J J (by omega) (by omega)) (C9 J (Ab3 J J (by omega)) (C9 J (Q4 J J J) (Zc 2 J (A6 (B4 J J ⟨H5 (has_eq s b),hC⟩))))))))
theorem Dw1 (s b:Nat) (hb:b<256) (w:World):Calls P 52 #[.agg (C4 s).toArray,.int .i64 (b:Int)] w (Ret fun v w'=>v= .bool (s.testBit b)∧Chg [] w w'):=by
 have hC:=A8 [] w;refine D4 Tryz.func52 J J (Qd (B5 J (E1 J J) ?_));intro b1 w1 hb1 hs1 hx1 hB1;have hC:=hC.s0 hx1;refine Zc 1 J (Qd (Z 1 J (C9 J (Ah4 J J (by omega) (by omega) (by exact I4 (by omega))) ?_)));refine C9 J (E6 Av2 J J (by omega) (by omega)) (Lc o68 J (Az6 hB1 (by omega)) (Z 1 J (C9 J (Ba1 J J (by omega) (by omega)) (C9 J (Ab3 J J (by omega)) (C9 J (Dj2 J J (by decide)) ?_)))));exact Zc 2 J (A6 (B4 J J ⟨H5 (rhas_eq s b),hC⟩))
theorem put_c (s b:Nat) (hb:b<256) (w:World):Calls P 164 #[.agg (C4 s).toArray,.int .u8 (b:Int)] w (Ret fun v w'=>v= .agg (C4 (s|||2 ^ b)).toArray∧Chg [] w w'):=by
 have hC:=A8 [] w;refine D4 Tryz.func164 J J (Qd (B5 J (E1 J J) ?_));intro b1 w1 hb1 hs1 hx1 hB1;refine B5 J (B8 N0 J) ?_;intro b2 w2 hb2 hs2 hx2 hB2;have hB1:=hB1.u hx2;refine Qc (Qd (Z 1 J (C9 J (Ah4 J J (by omega) (by omega) (by exact Al5 (by omega))) ?_)));refine C9 J (E6 Av2 J J (by omega) (by omega)) (Lc o68 J (Az6 hB1 (by omega)) ?_);have hput:Value.int .u64 (Ba5 .or .u64 (wd s (b / 64)) (IntKind.u64.wrap (1*2 ^ (min (b % 64) 64))))= .int .u64 (wd (s|||2 ^ b) (b / 64)):=J4 (Dc5 s b hb);refine Z 1 J (C9 J (Ba1 J J (by omega) (by omega)) (C9 J (Dj1 J J (by omega)) (C9 J (Q4 J J J) (C9 J (E6 Av2 J J (by omega) (by omega)) (Pb (cs':=C4 (s|||2 ^ b)) sz68 J J hB1 J J J (by rw [Ep4];show 0+b / 64+1≤4;omega) (by rw [← Cj2 s b hb,El6];exact congrArg (fun x=>(C4 s).take (b / 64)++[x]++(C4 s).drop (b / 64+1)) hput) ?_)))));intro w3 hs3 hx3 hB1;have hB2:=hB2.q hx3 (by simp;omega);refine Qc (Qd (La J0 J ‹_› J J ?_));refine Pe J9 J ‹_› J J ?_;intro w4 hs4 hx4 hB2;have hC:=hC.step (((hx1.j hx2).j hx3).j hx4) (by simp<;>omega);refine Qc (A6 (D5 J J (A5 J0 ‹_› J J) ?_));exact ⟨rfl,hC⟩
theorem of_c (F:Nat→Prop) (l:List Nat) (A:Option Addr) (n c:Nat) (hl:∀ b∈l,b<256) (hn:n<9223372036854775807) (w:World) (hr:Rd F w 1 A n (bys l)) (hF:∀ b,F b→b<w.heap.size):Calls P 139 #[.slice A n c] w (Ret fun v w'=>v= .agg (C4 (F1 l)).toArray∧Chg [] w w'):=by
 have hlen:l.length=n:=by have:=hr.len;rw [Dq4] at this;omega
 have hC:=A8 [] w;refine D4 Tryz.func139 J J (Qd (B5 J (B8 N0 J) ?_));intro b1 w1 hb1 hs1 hx1 hB1;refine Qc (Qd (B5 J (B8 N0 J) ?_));intro b2 w2 hb2 hs2 hx2 hB2;have hC:=hC.s0 (hx1.s0 hx2);have hr:=hr.u (hx1.s0 hx2);have hB1:=hB1.u hx2
 refine Qc (Qa (Qd (Z 1 J (Ln Tryz.underlying44 J (Zc 1 J (B2 (D8 (σ:=Nat) (fun k=>[(2,.pointer (some ⟨b1,0,none⟩)),(3,.pointer (some ⟨b2,0,none⟩)),(6,.slice A n c),(7,.int .i64 n),(8,.int .i64 k)]) (fun k wr=>Chg [] w wr∧Rd F wr 1 A n (bys l)∧Blk wr b1 (C4 0) 70∧Blk wr b2 (C4 (F1 (l.take k))) 70∧k≤n) (fun k wr=>n - k) 0 (sb J) ?_ ?_)))))))
 ·rw [← C6] at hB1 hB2;exact ⟨hC,hr,hB1,hB2,by omega⟩
 rintro k w9 ⟨hC,hr,hB1,hB2,hk⟩
 refine Qd (Zc 1 J (Qa (A4 J (fun hc=>?_) (fun hc=>?_))))
 ·try simp at hc
  obtain ⟨g,off,rfl,hFg,hlt,hcell⟩:=hr.at_ (by omega);have hb:=hl _ (G9 l 0 k (by omega));refine A7 (Qa (B2 (Qd (C9 J (B0 Al4 J J (by omega) (by omega)) (Lc o5 J (hcell k _ (Au9 l k (by omega))) (Zc 1 J (Qb (La J0 J ‹_› J J ?_))))))));refine Z 1 J (Ca fb164 J (put_c _ _ (by omega) _) ?_);rintro _ w3 ⟨rfl,hx3⟩;have hr:=hr.u hx3;have hB2:=hB2.u hx3;refine Pb (cs':=C4 (F1 (l.take (k+1)))) J9 J J hB2 J J J J (by unfold F1;rw [Aq7 _ _ _ 0 _ (by omega)];rfl) ?_;intro w4 hs4 hx4 hB2;have hC:=hC.step (hx3.j hx4) (by simp<;>omega);have hr:=hr.q hx4 (by intro b hb hFb;have:=hF _ hFb;simp at hb;omega);have hB1:=hB1.q (hx3.j hx4) (by simp<;>omega);refine Qc (Qb (Ad J J (by omega) (Zc 1 J ⟨k+1,sb J,?_,?_⟩)));exact ⟨hC,hr,hB1,hB2,by omega⟩;omega
 ·try simp at hc
  have hkn:k=l.length:=by omega
  refine Xb (Qd (La J0 J ‹_› J J ?_));refine Pe J9 J ‹_› J J ?_;intro w5 hs5 hx5 hB1;have hC:=hC.step hx5 (by simp;omega);have hB2:=hB2.q hx5 (by simp;omega);refine Qc (A6 (D5 J J (A5 J0 ‹_› J J) ?_));subst hkn;rw [Eo6];exact ⟨rfl,hC⟩
theorem P2 (lo hi:Nat) (hlo:lo<256) (hhi:hi<256) (w:World):Calls P 222 #[.int .u8 (lo:Int),.int .u8 (hi:Int)] w (Ret fun v w'=>v= .agg (C4 (F1 (List.range' lo (hi+1 - lo)))).toArray∧Chg [] w w'):=by
 have hC:=A8 [] w;refine D4 Tryz.func222 J J (Qd (B5 J (B8 N0 J) ?_));intro b1 w1 hb1 hs1 hx1 hB1;refine Qc (Qd (B5 J (B8 N0 J) ?_));intro b2 w2 hb2 hs2 hx2 hB2;have hC:=hC.s0 (hx1.s0 hx2);have hB1:=hB1.u hx2;refine Qc (Qa (Qd (Z 1 J (C9 J (H4 kn5 Tryz.underlying3 J (by exact I4 (by omega))) ?_))))
 refine Zc 1 J (B2 (D8 (σ:=Nat) (fun k=>[(1,.int .u8 (hi:Int)),(4,.pointer (some ⟨b1,0,none⟩)),(5,.pointer (some ⟨b2,0,none⟩)),(6,.int .i64 ((lo+k:Nat):Int))]) (fun k wr=>Chg [] w wr∧Blk wr b1 (C4 0) 70∧Blk wr b2 (C4 (F1 (List.range' lo k))) 70∧k≤hi+1 - lo) (fun k wr=>300 - k) 0 (sb J) ?_ ?_))
 ·rw [← C6] at hB1 hB2;exact ⟨hC,hB1,hB2,by omega⟩
 rintro k w9 ⟨hC,hB1,hB2,hk⟩;refine Qa (Qd (Z 2 J (C9 J (H4 kn5 Tryz.underlying3 J (by exact I4 (by omega))) ?_)))
 refine Zc 1 J (A4 J (fun hc=>?_) (fun hc=>?_))
 ·try simp at hc
  refine A7 (Qa (B2 (Qb (La J0 J ‹_› J J ?_))));refine Z 1 J (C9 J (H4 kn3 Tryz.underlying5 J (by exact Al5 (by omega))) ?_);refine Ca fb164 J (put_c _ (lo+k) (by omega) _) ?_;rintro _ w3 ⟨rfl,hx3⟩;have hB2:=hB2.u hx3;refine Pb (cs':=C4 (F1 (List.range' lo (k+1)))) J9 J J hB2 J J J J (by rw [Bq4];rfl) ?_;intro w4 hs4 hx4 hB2;have hC:=hC.step (hx3.j hx4) (by simp<;>omega);have hB1:=hB1.q (hx3.j hx4) (by simp<;>omega);refine Qc (Qb (Z 1 J (Ad J J (by omega) (Zc 1 J ⟨k+1,sb J,?_,?_⟩))));exact ⟨hC,hB1,hB2,by omega⟩;omega
 ·try simp at hc
  refine Xb (Qd (La J0 J ‹_› J J ?_));refine Pe J9 J ‹_› J J ?_;intro w5 hs5 hx5 hB1;have hC:=hC.step hx5 (by simp;omega);have hB2:=hB2.q hx5 (by simp;omega);refine Qc (A6 (D5 J J (A5 J0 ‹_› J J) ?_));have:k=hi+1 - lo:=by omega
  subst this;exact ⟨rfl,hC⟩
theorem Dm2 (s:Nat) (hs:L4 s) (w:World):Calls P 178 #[.agg (C4 s).toArray] w (Ret fun v w'=>v= .agg (C4 (Q2 s)).toArray∧Chg [] w w'):=by
 have hC:=A8 [] w;refine D4 Tryz.func178 J J (Qd (B5 J (E1 J J) ?_));intro b1 w1 hb1 hs1 hx1 hB1;refine B5 J (B8 N0 J) ?_;intro b2 w2 hb2 hs2 hx2 hB2;have hC:=hC.s0 (hx1.s0 hx2);have hB1:=hB1.u hx2
 refine Qc (Qa (Qd (Zc 1 J (B2 (D8 (σ:=Nat) (fun k=>[(1,.pointer (some ⟨b1,0,none⟩)),(2,.pointer (some ⟨b2,0,none⟩)),(4,.int .i64 k)]) (fun k wr=>Chg [] w wr∧Blk wr b1 (Q0 (Q2 s) s k) 70∧Blk wr b2 (C4 0) 70∧k≤4) (fun k wr=>4 - k) 0 (sb J) ?_ ?_)))))
 ·rw [← C6] at hB2;exact ⟨hC,by rw [Cl3];exact hB1,hB2,by omega⟩
 rintro k w9 ⟨hC,hB1,hB2,hk⟩
 refine Qd (Zc 1 J (Qa (A4 J (fun hc=>?_) (fun hc=>?_))))
 ·try simp at hc
  refine A7 (Qa (B2 (Qd (Zc 2 J (Qb (Z 2 J (C9 J (E6 Av2 J J (by omega) (by omega)) (Lc o68 J (Di0 hB1 (by omega)) ?_))))))));have hnot:Value.int .u64 (Ba5 .xor .u64 (if IntKind.u64.signed then -1 else IntKind.u64.max) (wd s k))= .int .u64 (wd (Q2 s) k):=J4 (wd_not hs k (by omega));refine C9 J (Does.cpl J) (C9 J (E6 Av2 J J (by omega) (by omega)) (Pb (cs':=Q0 (Q2 s) s (k+1)) sz68 J J hB1 J J J (by rw [Ep4,Bu0 _ _ _ (by omega)];show 0+k+1≤4;omega) (by rw [← De2 _ _ _ (by omega)];exact congrArg (fun x=>(Q0 (Q2 s) s k).take (0+k)++[x]++(Q0 (Q2 s) s k).drop (0+k+1)) hnot) ?_));intro w3 hs3 hx3 hB1;have hC:=hC.step hx3 (by simp;omega);have hB2:=hB2.q hx3 (by simp;omega);refine Qc (Qb (Ad J J (by omega) (Zc 1 J ⟨k+1,sb J,?_,?_⟩)));exact ⟨hC,hB1,hB2,by omega⟩;omega
 ·try simp at hc
  have hk4:k=4:=by omega
  subst hk4;rw [Dz3] at hB1;refine Xb (Qd (La J0 J ‹_› J J ?_));refine Pe J9 J ‹_› J J ?_;intro w4 hs4 hx4 hB2;have hC:=hC.step hx4 (by simp;omega);refine Qc (A6 (D5 J J (A5 J0 ‹_› J J) ?_));exact ⟨rfl,hC⟩
theorem all_c (w:World):Calls P 156 #[] w (Ret fun v w'=>v= .agg (C4 (Q2 0)).toArray∧Chg [] w w'):=by
 have hC:=A8 [] w;refine D4 Tryz.func156 J J (Qd (B5 J (B8 N0 J) ?_));intro b1 w1 hb1 hs1 hx1 hB1;refine Qc (Qd (C9 J (Bq0 N0 Av2 J (by rfl)) ?_));refine Ca Do8 J ((show Calls P 178 #[.agg (C4 0).toArray] _ _ from Dm2 0 P8 _)) ?_;rintro _ w2 ⟨rfl,hx2⟩;have hB1:=hB1.u hx2;refine Pe J9 J ‹_› J J ?_;intro w3 hs3 hx3 hB1;have hC:=hC.step ((hx1.j hx2).j hx3) (by simp<;>omega);refine Qc (A6 (D5 J J (A5 J0 ‹_› J J) ?_));exact ⟨rfl,hC⟩
theorem or1_c (s t i:Nat) (w:World):Calls P 163 #[.int .u64 (wd s i),.int .u64 (wd t i)] w (Ret fun v w'=>v= .int .u64 (wd (s|||t) i)∧w'=w):=by
 exact D4 Tryz.func163 J J (Qd (Zc 1 J (Qd (Z 2 J (C9 J (Q4 J J J) (Zc 1 J (A6 (B4 J J ⟨J4 (wd_or s t i),rfl⟩))))))))
theorem Ee7 (s t:Nat) (w:World):Calls P 162 #[.agg (C4 s).toArray,.agg (C4 t).toArray,.func (.func 163) #[] #[]] w (Ret fun v w'=>v= .agg (C4 (s|||t)).toArray∧Chg [] w w'):=by
 have hC:=A8 [] w;refine D4 Tryz.func162 J J (Qd (B5 J (E1 J J) ?_));intro b1 w1 hb1 hs1 hx1 hB1;refine B5 J (E1 J J) ?_;intro b2 w2 hb2 hs2 hx2 hB2;refine B5 J (B8 N0 J) ?_;intro b3 w3 hb3 hs3 hx3 hB3;have hC:=hC.s0 ((hx1.s0 hx2).s0 hx3);have hB1:=hB1.u (hx2.s0 hx3);have hB2:=hB2.u hx3
 refine Qc (Qa (Qd (Zc 1 J (B2 (D8 (σ:=Nat) (fun k=>[(2,.func (.func 163) #[] #[]),(3,.pointer (some ⟨b1,0,none⟩)),(4,.pointer (some ⟨b2,0,none⟩)),(6,.pointer (some ⟨b3,0,none⟩)),(8,.int .i64 k)]) (fun k wr=>Chg [] w wr∧Blk wr b1 (Q0 (s|||t) s k) 70∧Blk wr b2 (C4 t) 70∧Blk wr b3 (C4 0) 70∧k≤4) (fun k wr=>4 - k) 0 (sb J) ?_ ?_)))))
 ·rw [← C6] at hB3;exact ⟨hC,by rw [Cl3];exact hB1,hB2,hB3,by omega⟩
 rintro k w9 ⟨hC,hB1,hB2,hB3,hk⟩
 refine Qd (Zc 1 J (Qa (A4 J (fun hc=>?_) (fun hc=>?_))))
 ·try simp at hc
  refine A7 (Qa (B2 (Qd (Zc 2 J (C8 (S:=[]) 9 [(0,0),(0,1),(0,2),(0,3),(0,4),(0,5),(0,6),(0,7),(1,8),(2,9),(2,10)] mo (by kernel_rfl) ?_)))));intro w4 hx4 hh4;have hz4:=hx4.size;have hB1:=hB1.u hx4;have hB2:=hB2.u hx4;have hCS4:=A8 ([]) w4;refine Z 3 J (D6 J (E6 Av2 J J (by omega) (by omega)) (D6 J (E0 o68 J (Di0 hB1 (by omega)) (by simp<;>omega)) ?_));refine Z 1 J (D6 J (E6 Av2 J J (by omega) (by omega)) (D6 J (E0 o68 J (Az6 hB2 (by omega)) (by simp<;>omega)) ?_));refine C5 J (O0 J fb163 J) (or1_c s t k _) ?_;rintro _ _ ⟨rfl,rfl⟩;refine ⟨hCS4,?_⟩;refine C9 J (E6 Av2 J J (by omega) (by omega)) (Pb (cs':=Q0 (s|||t) s (k+1)) sz68 J J hB1 J J J (by rw [Ep4,Bu0 _ _ _ (by omega)];show 0+k+1≤4;omega) (De2 _ _ _ (by omega)) ?_);intro w6 hs6 hx6 hB1;have hC:=hC.step (hx4.j hx6) (by simp<;>omega);have hB2:=hB2.q hx6 (by simp;omega);have hB3:=hB3.q (hx4.j hx6) (by simp<;>omega);refine Qc (Qb (Ad J J (by omega) (Zc 1 J ⟨k+1,sb J,?_,?_⟩)));exact ⟨hC,hB1,hB2,hB3,by omega⟩;omega
 ·try simp at hc
  have hk4:k=4:=by omega
  subst hk4;rw [Dz3] at hB1;refine Xb (Qd (La J0 J ‹_› J J ?_));refine Pe J9 J ‹_› J J ?_;intro w7 hs7 hx7 hB3;have hC:=hC.step hx7 (by simp;omega);refine Qc (A6 (D5 J J (A5 J0 ‹_› J J) ?_));exact ⟨rfl,hC⟩
theorem Dt1 (F:Nat→Prop) (l:List Nat) (A:Option Addr) (n c:Nat) (hn:n<9223372036854775807) (w:World) (hr:Rd F w 4 A n (F5 l)) (hF:∀ b,F b→b<w.heap.size):Calls P 138 #[.slice A n c] w (Ret fun v w'=>v= .agg (C4 (V8 l)).toArray∧Chg [] w w'):=by
 have hlen:l.length=n:=by have:=hr.len;rw [U5] at this;omega
 have hC:=A8 [] w;refine D4 Tryz.func138 J J (Qd (B5 J (B8 N0 J) ?_));intro b1 w1 hb1 hs1 hx1 hB1;refine Qc (Qd (B5 J (B8 N0 J) ?_));intro b2 w2 hb2 hs2 hx2 hB2;have hC:=hC.s0 (hx1.s0 hx2);have hr:=hr.u (hx1.s0 hx2);have hB1:=hB1.u hx2
 refine Qc (Qa (Qd (Z 1 J (Ln Tryz.underlying23 J (Zc 1 J (B2 (D8 (σ:=Nat) (fun k=>[(2,.pointer (some ⟨b1,0,none⟩)),(3,.pointer (some ⟨b2,0,none⟩)),(6,.slice A n c),(7,.int .i64 n),(8,.int .i64 k)]) (fun k wr=>Chg [] w wr∧Rd F wr 4 A n (F5 l)∧Blk wr b1 (C4 0) 70∧Blk wr b2 (C4 (V8 (l.take k))) 70∧b2<wr.heap.size∧k≤n) (fun k wr=>n - k) 0 (sb J) ?_ ?_)))))))
 ·rw [← C6] at hB1 hB2;exact ⟨hC,hr,hB1,hB2,hB2.lt,by omega⟩
 rintro k w9 ⟨hC,hr,hB1,hB2,hb2l,hk⟩
 refine Qd (Zc 1 J (Qa (A4 J (fun hc=>?_) (fun hc=>?_))))
 ·try simp at hc
  obtain ⟨g,off,rfl,hFg,hlt,hcell⟩:=hr.at_ (by omega);refine A7 (Qa (B2 (Qd (C9 J (C2 Ar5 J J (by omega) (by omega)) (C9 J (E8 (vs:=C4 (l.getD k 0)) J0 J (F4 _) (fun j v hj=>by rw [Em3];exact hcell (k*4+j) v (by have hj4:j<4:=(Em5.1 hj).1;rw [O2 l k j (by omega) hj4];exact hj)) J) ?_)))));refine B5 J (B8 N0 J) ?_;intro b3 w3 hb3 hs3 hx3 hB3;have hr:=hr.u hx3;refine Pe J9 J ‹_› J J ?_;intro w4 hs4 hx4 hB3;have hr:=hr.q hx4 (by intro b hb hFb;have:=hF _ hFb;simp at hb;omega);have hB2:=hB2.q (hx3.j hx4) (by simp<;>omega);refine Qc (Qb (La J0 J ‹_› J J ?_));refine La J0 J ‹_› J J ?_;refine Ca fb162 J (Ee7 _ _ _) ?_;rintro _ w5 ⟨rfl,hx5⟩;have hz5:=hx5.size;have hr:=hr.u hx5;have hB2:=hB2.u hx5;refine Pb (cs':=C4 (V8 (l.take (k+1)))) J9 J J hB2 J J J J (by unfold V8;rw [Aq7 _ _ _ 0 _ (by omega)];rfl) ?_;intro w6 hs6 hx6 hB2;have hC:=hC.step (((hx3.j hx4).j hx5).j hx6) (by simp<;>omega);have hr:=hr.q hx6 (by intro b hb hFb;have:=hF _ hFb;simp at hb;omega);have hB1:=hB1.q (((hx3.j hx4).j hx5).j hx6) (by simp<;>omega);refine Qc (Qb (Ad J J (by omega) (Zc 1 J ⟨k+1,sb J,?_,?_⟩)));exact ⟨hC,hr,hB1,hB2,by omega,by omega⟩;omega
 ·try simp at hc
  have hkn:k=l.length:=by omega
  refine Xb (Qd (La J0 J ‹_› J J ?_));refine Pe J9 J ‹_› J J ?_;intro w7 hs7 hx7 hB1;have hC:=hC.step hx7 (by simp;omega);have hB2:=hB2.q hx7 (by simp;omega);refine Qc (A6 (D5 J J (A5 J0 ‹_› J J) ?_));subst hkn;rw [Eo6];exact ⟨rfl,hC⟩
theorem count_c_ (s:Nat) (w:World) (pc:Nat→Nat) (hpc:∀ i,i<4→∀ w,Calls P 113 #[.int .u64 (wd s i)] w (Ret fun v w'=>v= .int .i64 (pc i:Nat)∧w'=w)) (hb:∀ i,i<4→pc i≤64):Calls P 83 #[.agg (C4 s).toArray] w (Ret fun v w'=>v= .int .i64 ((pc 0+pc 1+pc 2+pc 3:Nat):Int)∧Chg [] w w'):=by
 have hC:=A8 [] w;refine D4 Tryz.func83 J J (Qd (B5 J (E1 J J) ?_));intro b1 w1 hb1 hs1 hx1 hB1;have hC:=hC.s0 hx1;refine Zc 1 J (Qd (Zc 1 J (Qa (Qd (La J0 J ‹_› J J ?_)))))
 refine Zc 1 J (B2 (D8 (σ:=Nat) (fun k=>[(1,.pointer (some ⟨b1,0,none⟩)),(3,.int .i64 ((((List.range k).map pc).sum:Nat):Int)),(6,.agg (C4 s).toArray),(7,.int .i64 k)]) (fun k wr=>Chg [] w wr∧k≤4∧((List.range k).map pc).sum≤64*k) (fun k wr=>4 - k) 0 (sb J) ?_ ?_))
 ·exact ⟨hC,by omega,by simp⟩
 rintro k w9 ⟨hC,hk,hsum⟩
 refine Qd (Zc 1 J (Qa (A4 J (fun hc=>?_) (fun hc=>?_))))
 ·try simp at hc
  have hbk:=hb k (by omega);refine A7 (Qa (B2 (Qd (C9 J (Av5 Av2 (by kernel_rfl) J J (by omega) (by omega) (Am4 s k (by omega))) ?_))));refine Zc 1 J (Qb (Z 2 J (Ca fb113 J (hpc k (by omega) _) ?_)));rintro _ _ ⟨rfl,rfl⟩;refine Ad J J (by omega) (Zc 1 J (Qb (Ad J J (by omega) (Zc 1 J ⟨k+1,⟨rfl,(G2 J (by rw [Ep7,Eo8,List.sum_append];simp)),rfl,rfl,trivial⟩,?_,?_⟩))));exact ⟨hC,by omega,by rw [Ep7,Eo8,List.sum_append];simp;omega⟩;omega
 ·try simp at hc
  refine Xb (Qd (Zc 2 J (A6 (B4 J J ?_))));have:k=4:=by omega
  subst this;exact ⟨J4 (by simp [Ep7];omega),hC⟩
def B6 (s:ByteArray):List Nat:=s.data.toList.map UInt8.toNat
theorem E5 (s:ByteArray):(B6 s).length=s.size:=by simp [B6]
theorem I5 (s:ByteArray) (k:Nat) (h:k<s.size):∃ b:UInt8,s.data.toList[k]?=some b∧(B6 s).getD k 0=b.toNat:=by
 have hk:k<s.data.toList.length:=by simpa using h
 refine ⟨s.data.toList[k],Ek4 hk,?_⟩;simp [B6,Ek2,Ek4 hk]
theorem Ad9 (s:ByteArray) (p:Ps):H7 (B6 s) p<256:=by
 unfold H7
 rcases Eq7 p.i s.size with h|h
 ·obtain ⟨b,_,hb⟩:=I5 s p.i h;rw [hb];exact b.toNat_lt
 ·rw [Ek2,El5 (by rw [E5];exact h)];decide
abbrev rdC (s:ByteArray) (p:Ps) (sl:Value):List Value:=[.string s,.int .i64 (p.i:Int),.int .i64 p.e,sl]
theorem Cu3 (s:ByteArray) (p:Ps) (h:p.i<s.size):∃ u:UInt8,s.data.toList[p.i]?=some u∧(u.toNat:Int)=H7 (B6 s) p:=by
 obtain ⟨u,h1,h2⟩:=I5 s p.i h;exact ⟨u,h1,by unfold H7;rw [h2]⟩
theorem Dc9 (s:ByteArray) (p:Ps) (h:s.size≤p.i):H7 (B6 s) p=0:=by
 unfold H7;rw [Ek2,El5 (by rw [E5];exact h)];rfl
theorem Bj6 (s:ByteArray) (p:Ps) (sl:Value) (b:Nat) (w:World) (hR:Blk w b (rdC s p sl) 239):Calls P 202 #[.pointer (some ⟨b,0,none⟩)] w (Ret fun v w'=>v= .tuple #[.int .u8 (H7 (B6 s) p:Nat),.bool (decide (p.i<s.size))]∧Chg [] w w'):=by
 have hC:=A8 [] w;refine D4 Tryz.func202 J J (Qd (Zc 2 J (Qa (Qa (C8 (S:=[]) 9 [(0,0),(0,1),(0,2),(0,3),(0,4),(0,5),(0,6),(0,7),(0,8),(2,9)] mo (by kernel_rfl) ?_)))));intro w1 hx1 hh1;have hC:=hC.s0 hx1;have hR:=hR.u hx1;refine Z 2 J (Fa G7 J (D6 J (B3 o3 J ‹_› (by simp<;>omega) (by rfl)) ?_));refine Z 2 J (Fa Bb8 J (D6 J (B3 o9 J ‹_› (by simp<;>omega) (by rfl)) ?_))
 refine D6 J (E9 Tryz.underlying9 J) (Zc 1 J (A4 J (fun hc=>?_) (fun hc=>?_)))
 ·try simp at hc
  exact Qd (Zc 2 J (A6 (J1 J J J ⟨by rw [Dc9 s p (by omega),El3 (by omega)];rfl,hC⟩)))
 ·try simp at hc
  obtain ⟨u,hu,hu2⟩:=Cu3 s p (by omega);refine A7 (Qa (C8 (S:=[]) 8 [(0,0),(0,1),(0,2),(0,3),(0,4),(0,5),(0,6),(0,7),(2,8),(2,9),(2,10)] mo (by kernel_rfl) ?_));intro w2 hx2 hh2;have hC:=hC.s0 hx2;have hR:=hR.u hx2;refine Z 2 J (Fa Bb8 J (D6 J (B3 o9 J ‹_› (by simp<;>omega) (by rfl)) ?_));refine Z 2 J (Fa G7 J (D6 J (B3 o3 J ‹_› (by simp<;>omega) (by rfl)) ?_));refine C9 J (E7 Tryz.underlying9 J J (by omega) (by exact hu)) ?_;exact Zc 2 J (A6 (J1 J J J ⟨by rw [← hu2,El2 (by omega)],hC⟩))
theorem X6 (s:ByteArray) (p:Ps) (sl:Value) (b a:Nat) (e:Int) (w:World) (hR:Blk w b (rdC s p sl) 239):Calls P 180 #[.pointer (some ⟨b,0,none⟩),.int .i64 (a:Int),.int .i64 e] w (Ret fun v w'=>v= .tuple #[]∧Chg [b] w w'∧Blk w' b (rdC s (p.fail a e) sl) 239):=by
 have hC:=A8 [b] w;refine D4 Tryz.func180 J J (Qd (Z 2 J (Fa Cc9 J (Lb o32 J ‹_› (by rfl) ?_))))
 refine Zc 1 J (A4 J (fun hc=>?_) (fun hc=>?_))
 ·try simp at hc
  refine Qb (Z 5 J (Fa G7 J (Pe sz3 J ‹_› J J ?_)));intro w1 hs1 hx1 hR;refine Z 1 J (Fa Cc9 J (Pe sz32 J ‹_› J J ?_));intro w2 hs2 hx2 hR;have hC:=hC.step (hx1.j hx2) (by simp<;>omega);exact Qc (T5 J ⟨rfl,hC,by unfold Ps.fail;rw [Ek1 hc];exact hR⟩)
 ·try simp at hc
  exact A7 (T5 J ⟨rfl,hC,by unfold Ps.fail;rw [Ek0 hc];exact hR⟩)
theorem Bo8 (s:ByteArray) (p:Ps) (sl:Value) (b:Nat) (w:World) (hR:Blk w b (rdC s p sl) 239):Calls P 148 #[.pointer (some ⟨b,0,none⟩)] w (Ret fun v w'=>v= .bool (decide (p.e≠0))∧w'=w):=by
 refine D4 Tryz.func148 J J (Qd (Zc 1 J (Qd (Z 2 J (Fa Cc9 J (Lb o32 J ‹_› (by rfl) ?_))))));exact Zc 2 J (A6 (B4 J J ⟨H5 (by by_cases h:p.e=0<;>simp [Aa4,h]),rfl⟩))
theorem is_c (s:ByteArray) (p:Ps) (sl:Value) (b c:Nat) (w:World) (hs:s.size≤1048576) (hR:Blk w b (rdC s p sl) 239):Calls P 205 #[.pointer (some ⟨b,0,none⟩),.int .u8 (c:Int)] w (Ret fun v w'=>v= .bool (isB (B6 s) p c)∧Chg [b] w w'∧Blk w' b (rdC s (isS (B6 s) p c) sl) 239):=by
 have hC:=A8 [b] w;have hB:isB (B6 s) p c=(decide (p.i<s.size) && decide (H7 (B6 s) p=c)):=by unfold isB;rw [E5];rfl
 refine D4 Tryz.func205 J J (Qd (Zc 1 J (Qd (Z 1 J (Ca Cx7 J (Bj6 _ _ _ _ _ ‹_›) ?_)))));rintro _ w1 ⟨rfl,hx1⟩;have hC:=hC.s0 hx1;have hR:=hR.u hx1
 refine Zc 5 J (Qa (Qd (Z 3 J (C0 (d:=14) J (fun hg=>?_) (fun hg=>?_)))))
 ·try simp at hg
  refine Qk J (Qk J (Qk J (Zc 1 J (E3 J (Qd (Zc 1 J (A6 (B4 J J ?_))))))));have:isB (B6 s) p c=false:=by rw [hB];simp;omega
  exact ⟨H5 this.symm,hC,by unfold isS;rw [this];exact hR⟩
 ·try simp at hg
  refine Qu J (Z 1 J (Qu J (Z 1 J (Qu J (Zc 2 J (A4 J (fun hc=>?_) (fun hc=>?_)))))))
  ·try simp at hc
   refine Qd (Zc 1 J (A6 (B4 J J ?_)));have:isB (B6 s) p c=false:=by rw [hB];simp;omega
   exact ⟨H5 this.symm,hC,by unfold isS;rw [this];exact hR⟩
  ·try simp at hc
   refine A7 (Qd (Z 2 J (Fa G7 J (Lb o3 J ‹_› (by rfl) ?_))));refine Ad J J (by omega) (Z 1 J (Fa G7 J (Pe sz3 J ‹_› J J ?_)));intro w2 hs2 hx2 hR;have hC:=hC.step hx2 (by simp<;>omega);refine Qc (Qd (Zc 1 J (A6 (B4 J J ?_))));have:isB (B6 s) p c=true:=by rw [hB];simp;omega
   exact ⟨H5 this.symm,hC,by unfold isS;rw [this];exact hR⟩
theorem idxN_eq:∀ (l:List UInt8) (c:Nat),c<256→Lib.indexByte l (Int.toNat (c:Int)).toUInt8=Be5 (l.map UInt8.toNat) c:=by
 intro l c hc;have hc':(Int.toNat (c:Int)).toUInt8.toNat=c:=by simp;omega
 generalize (Int.toNat (c:Int)).toUInt8=u at hc';subst hc'
 induction l with
 |nil=>rfl
 |cons b l ih=>
  simp only [Lib.indexByte,Be5,En3,ih]
  by_cases h:b=u
  ·subst h;simp
  ·have:¬ b.toNat=u.toNat:=fun h'=>h (UInt8.toNat_inj.1 h')
   simp [h,this]
theorem Dn8 (s:ByteArray) (t:List Nat) (c:Nat) (ht:B6 s=t) (hc:c<256) (w:World):Calls P 181 #[.string s,.int .u8 (c:Int)] w (Ret fun v w'=>v= .int .i64 (Be5 t c)∧w'=w):=by
 have h:=Dd3 (Tryz.strings_IndexByte s c w);rw [idxN_eq _ _ hc] at h;rw [← ht];exact h
theorem W3 (c:Int) (b n:Nat) (w:World) (τ:TypeId) (hB:Blk w b [.int .u8 c] τ) (h0:0≤c) (h1:c<256):Calls P 139 #[.slice (some ⟨b,0,none⟩) 1 n] w (Ret fun v w'=>v= .agg (C4 (F1 [c.toNat])).toArray∧Chg [] w w'):=
 of_c (fun x=>x=b) [c.toNat] _ 1 n (by intro x hx;simp at hx;omega) (by omega) w (by
  have:bys [c.toNat]=[.int .u8 c]:=by simp [bys,byv];omega
  rw [this]
  exact hB.rd (m:=1) J J) (fun x hx=>by rw [hx];exact hB.lt)
theorem By0 (s1 s2 b n:Nat) (w:World) (τ:TypeId) (hB:Blk w b (F5 [s1,s2]) τ):Calls P 138 #[.slice (some ⟨b,0,none⟩) 2 n] w (Ret fun v w'=>v= .agg (C4 (V8 [s1,s2])).toArray∧Chg [] w w'):=
 Dt1 (fun x=>x=b) _ _ 2 n (by omega) w (hB.rd (m:=2) (by rw [U5];rfl) J) (fun x hx=>by rw [hx];exact hB.lt)
theorem K1 (s1 s2 s3 s4 b n:Nat) (w:World) (τ:TypeId) (hB:Blk w b (F5 [s1,s2,s3,s4]) τ):Calls P 138 #[.slice (some ⟨b,0,none⟩) 4 n] w (Ret fun v w'=>v= .agg (C4 (V8 [s1,s2,s3,s4])).toArray∧Chg [] w w'):=
 Dt1 (fun x=>x=b) _ _ 4 n (by omega) w (hB.rd (m:=4) (by rw [U5];rfl) J) (fun x hx=>by rw [hx];exact hB.lt)
theorem Dg8 (s:ByteArray) (p:Ps) (sl:Value) (b:Nat) (w:World) (hR:Blk w b (rdC s p sl) 239):Calls P 236 #[.pointer (some ⟨b,0,none⟩)] w (Ret fun v w'=>v= .bool (R9 (B6 s) p)∧Chg [] w w'):=by
 have hC:=A8 [] w;have hB:R9 (B6 s) p=(decide (p.i<s.size) && decide (48≤H7 (B6 s) p) && decide (H7 (B6 s) p≤57)):=by unfold R9;rw [E5]
 refine D4 Tryz.func236 J J (Qd (Zc 1 J (Qd (Z 2 J (Fa D9 J (Ca Cx7 J (Bj6 _ _ _ _ _ ‹_›) ?_))))));rintro _ w1 ⟨rfl,hx1⟩;have hC:=hC.s0 hx1
 refine Zc 5 J (Qd (Z 2 J (C0 (d:=13) J (fun hg=>?_) (fun hg=>?_))))
 ·try simp at hg
  refine Qu J (Z 1 J (Qu J (Z 3 J (C0 (d:=17) J (fun hg2=>?_) (fun hg2=>?_)))))
  ·try simp at hg2
   exact Qu J (Z 1 J (Qu J (Zc 3 J (A6 (B4 J J ⟨H5 (by rw [hB];by_cases h:H7 (B6 s) p≤57<;>simp [hg,hg2,h,Aa4]<;>omega),hC⟩)))))
  ·try simp at hg2
   exact Qk J (Qk J (Zc 2 J (A6 (B4 J J ⟨H5 (by rw [hB];simp;omega),hC⟩))))
 ·try simp at hg
  exact Qk J (Qk J (Z 2 J (Qk J (Qk J (Zc 2 J (A6 (B4 J J ⟨H5 (by rw [hB];simp;omega),hC⟩)))))))
theorem Does.to {P:Program} {n:Nat} {e:Env} {o:Oper} {φ:World→Prop} {v v':Value} (h:Does P n e o φ v) (hv:v=v'):Does P n e o φ v':=hv ▸ h
theorem bitv_or8 {a b:Nat} (ha:a<256) (hb:b<256):Ba5 .or .u8 (a:Int) (b:Int)=((a|||b:Nat):Int):=by
 have h:a|||b<256:=Nat.or_lt_two_pow (n:=8) ha hb;unfold Ba5;have e1:(BitVec.ofInt IntKind.u8.bits (a:Int)).toNat=a:=by simp [IntKind.bits];omega
 have e2:(BitVec.ofInt IntKind.u8.bits (b:Int)).toNat=b:=by simp [IntKind.bits];omega
 simp only [BitVec.toNat_or,e1,e2];exact Al5 (by omega)
theorem Cv8:∀ (l:List Nat) (c:Nat),-1≤Be5 l c∧Be5 l c<l.length
 |[],_=>by simp [Be5]
 |b::l,c=>by
  have:=Cv8 l c;simp only [Be5,En2]
  split
  ·omega
  ·split<;>omega
theorem hexV_lt (L:List Nat) (p:Ps):hexV L p<17:=by
 unfold hexV;have h1:=Cv8 decT (H7 L p);have h2:=Cv8 hexT (H7 L p|||32);simp only [decT,hexT,En2,Eu6] at h1 h2;unfold decT hexT
 split<;>omega
theorem hex_c (s:ByteArray) (p:Ps) (sl:Value) (b:Nat) (w:World) (hs:s.size≤1048576) (hR:Blk w b (rdC s p sl) 239):Calls P 204 #[.pointer (some ⟨b,0,none⟩)] w (Ret fun v w'=>v= .int .u8 ((Bf7 (B6 s) p).1:Nat)∧Chg [b] w w'∧Blk w' b (rdC s (Bf7 (B6 s) p).2 sl) 239):=by
 have hC:=A8 [b] w;have hlt:=Ad9 s p;have hor:H7 (B6 s) p|||32<256:=Nat.or_lt_two_pow (n:=8) hlt (by omega);refine D4 Tryz.func204 J J (Qd (Zc 1 J (Qd (Z 2 J (Fa D9 J (Ca Cx7 J (Bj6 _ _ _ _ _ ‹_›) ?_))))));rintro _ w1 ⟨rfl,hx1⟩;have hz1:=hx1.size;have hC:=hC.s0 hx1;have hR:=hR.u hx1;refine Zc 5 J (Qd (Z 1 J (C9 J ((Q4 J J J).to (J4 (bitv_or8 (b:=32) hlt (by decide)))) ?_)));refine Ca Do7 J (Dn8 _ hexT (H7 (B6 s) p|||32) J hor _) ?_;rintro _ _ ⟨rfl,rfl⟩
 refine Zc 1 J (I3 (fun e9 wr=>Sub [(0,.pointer (some ⟨b,0,none⟩)),(4,.bool (decide (p.i<s.size))),(5,.int .i64 (hexV (B6 s) p))] e9∧Chg [b] w wr∧Blk wr b (rdC s p sl) 239) ?_ ?_)
 ·refine Qd (Zc 2 J (A4 J (fun hc=>?_) (fun hc=>?_)))
  ·try simp at hc
   refine Qb (Z 1 J (Ca Do7 J (Dn8 _ decT (H7 (B6 s) p) J hlt _) ?_));rintro _ _ ⟨rfl,rfl⟩;refine Zc 1 J ⟨⟨rfl,rfl,(G2 J (by unfold hexV;rw [Ek1 (by omega)])),trivial⟩,?_⟩;exact ⟨hC,hR⟩
  ·try simp at hc
   refine A7 ⟨⟨rfl,rfl,(G2 J (by unfold hexV;rw [Ek0 (by omega)])),trivial⟩,?_⟩;exact ⟨hC,hR⟩
 rintro e9 w9 ⟨hs9,hC,hR⟩;refine I2 _ hs9 ?_;clear hs9 e9;have hk:Cc1 (B6 s) p=(decide (p.i<s.size) && decide (0≤hexV (B6 s) p)):=by unfold Cc1;rw [E5]
 refine Qa (Qd (Z 3 J (C0 (d:=22) J (fun hg=>?_) (fun hg=>?_))))
 ·try simp at hg
  refine Qk J (Qk J (Zc 1 J (E3 J (Qa (C8 (S:=[]) 8 [(0,0),(0,1),(0,2),(0,3),(0,4),(0,5),(0,6),(0,7),(2,8)] mo (by kernel_rfl) ?_)))));intro w4 hx4 hh4;have hR:=hR.u hx4;refine Z 2 J (Fa D9 J (Z 2 J (Fa D9 J (Fa G7 J (D6 J (B3 o3 J ‹_› (by simp<;>omega) (by rfl)) ?_)))));refine Ca Al3 J (X6 s p sl b p.i 4 _ ‹_›) ?_;rintro _ w5 ⟨rfl,hx5,hR'⟩;have hC:=hC.step (hx4.j hx5) (by simp<;>omega);clear hR;have hR:=hR';clear hR';refine Qc (Qd (Zc 1 J (A6 (B4 J J ?_))));have:Cc1 (B6 s) p=false:=by rw [hk];simp;omega
  exact ⟨by unfold Bf7;rw [this];rfl,hC,by unfold Bf7;rw [this];exact hR⟩
 ·try simp at hg
  refine Qu J (Z 1 J (Qu J (Zc 2 J (A4 J (fun hc=>?_) (fun hc=>?_)))))
  ·try simp at hc
   refine Qa (C8 (S:=[]) 8 [(0,0),(0,1),(0,2),(0,3),(0,4),(0,5),(0,6),(0,7),(2,8)] mo (by kernel_rfl) ?_);intro w6 hx6 hh6;have hR:=hR.u hx6;refine Z 2 J (Fa D9 J (Z 2 J (Fa D9 J (Fa G7 J (D6 J (B3 o3 J ‹_› (by simp<;>omega) (by rfl)) ?_)))));refine Ca Al3 J (X6 s p sl b p.i 4 _ ‹_›) ?_;rintro _ w7 ⟨rfl,hx7,hR'⟩;have hC:=hC.step (hx6.j hx7) (by simp<;>omega);clear hR;have hR:=hR';clear hR';refine Qc (Qd (Zc 1 J (A6 (B4 J J ?_))));have:Cc1 (B6 s) p=false:=by rw [hk];simp;omega
   exact ⟨by unfold Bf7;rw [this];rfl,hC,by unfold Bf7;rw [this];exact hR⟩
  ·try simp at hc
   refine A7 (Qd (Z 2 J (Fa D9 J (Fa G7 J (Lb o3 J ‹_› (by rfl) ?_)))));refine Ad J J (by omega) (Z 1 J (Fa D9 J (Fa G7 J (Pe sz3 J ‹_› J J ?_))));intro w8 hs8 hx8 hR;have hC:=hC.step hx8 (by simp<;>omega);refine Qc (Qd (Z 1 J (C9 J (Cr4 kn3 Tryz.underlying5 J) (Zc 1 J (A6 (B4 J J ?_))))));have:Cc1 (B6 s) p=true:=by rw [hk];simp;omega
   have hv:hexV (B6 s) p<17:=hexV_lt _ _;exact ⟨by unfold Bf7;rw [this];exact J4 (by rw [Al5 (by omega)];simp;omega),hC,by unfold Bf7;rw [this];exact hR⟩
end Go.Clt
