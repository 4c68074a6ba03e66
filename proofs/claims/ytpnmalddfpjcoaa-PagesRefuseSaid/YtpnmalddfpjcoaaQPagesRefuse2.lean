/- Part 2 of the proof: own library, plain forms and walks. -/
import Derived.Test.YtpnmalddfpjcoaaQPagesRefuse1
import Derived.Orders
import Derived.Test.YtpnmalddfpjcoaaRows
import Derived.Shelf.Sort.Plain
import Derived.Shelf.Slices.In.SortNone
import Derived.Test.YtpnmalddfpjcoaaProg
import Derived.Sort.Grow
import Derived.Lib.SlicesCompact
set_option linter.all false
set_option linter.deprecated false
namespace Go.Ab
open Go Go.RowKit
mutual
def ids:AV->List Nat
 | .ptr b _=>[b]
 | .vec b=>[b]
 | .vp b _ _ _=>[b]
 | .win b _ _ _=>[b]
 | .agg cs=>idsL cs
 | .tup cs=>idsL cs
 | .clo _ cs=>idsL cs
 | .cnd _ v=>ids v
 | _=>[]
def idsL:List AV->List Nat
 | []=>[]
 | c :: cs=>ids c ++ idsL cs
end
structure RS where
 tm:Nat->AV
 hp:Heap
def putT (tm:Nat->AV) (dst:Option Tmp) (v:AV):Nat->AV :=
 match dst with
 | some d=>fun t=>if t=d then v else tm t
 | none=>tm
def RS.app (s:RS) (o:Oper) (e:Eff):RS:=⟨putT s.tm o.dst e.res,s.hp.upds e.upd⟩
def tmpsOf:List Operand->List Nat
 | []=>[]
 | .tmp t :: r=>t :: tmpsOf r
 | _ :: r=>tmpsOf r
def readsOf (gd:Nat->Option Tmp) (o:Oper):List Nat :=
 tmpsOf o.op.operands.toList ++ (match o.guard with | some (j,_)=>(gd j).toList | none=>[])
def cutT (l:List Nat) (tm:Nat->AV):Nat->AV:=fun t=>if l.contains t then tm t else .any
def cutH (l:List Nat) (H:Heap):Heap:=fun b=>if l.contains b then H b else none
def needsOf (tm:Nat->AV) (o:Oper):List Nat :=
 match o.op with
 | .nilCheck _=>[]
 | .move _=>[]
 | .fieldAddr _ _ _=>[]
 | op=>op.operands.toList.flatMap fun x=>ids (opAV tm x)
def needsC (cs:Option CallSpec) (tm:Nat->AV) (o:Oper):List Nat :=
 needsOf tm o ++ (match cs with | some s=>s.hin.map (·.1) | none=>[])
structure RCtx where
 P:Program
 E0:Env
 T:Tab
 nt:Nat
 gd:Nat->Option Tmp
 nx:Nat
 cs:Nat->Option CallSpec
def dstOK (nt:Nat):Option Tmp->Bool
 | some d=>decide (d < nt)
 | none=>true
def RCtx.ev (X:RCtx) (i:Nat) (o:Oper) (s:RS):Option Eff :=
 let tm:=cutT (readsOf X.gd o) s.tm
 evOper X.P X.E0 X.T (cutH (needsC (X.cs i) tm o) s.hp) tm X.gd (X.nx + 8 * i) (X.cs i) o
def RCtx.effs (X:RCtx):List Oper->Nat->RS->Option (List Eff)
 | [],_,_=>some []
 | o :: r,i,s =>
  match X.ev i o s with
  | some e=>if dstOK X.nt o.dst then (X.effs r (i + 1) (s.app o e)).map (e :: ·) else none
  | none=>none
def obls:List Eff->Prop
 | []=>True
 | e :: r=>e.obl/\obls r
def appAll:RS->List Oper->List Eff->RS
 | s,o :: r,e :: es=>appAll (s.app o e) r es
 | s,_,_=>s
def DefL (E0 E:Env):List Deferred->Prop
 | []=>True
 | d :: r=>(∃ D,d = { target := .collected D,args := #[] } /\ E.M D=some (.deferred (some []))/\E0.M D=none /\ ∀ d' ∈ r,d' ≠ d)/\DefL E0 E r
theorem DefL.monoM {E0 E F:Env} (le:∀ b o,E.M b=some o->F.M b=some o):∀ {ds:List Deferred},DefL E0 E ds->DefL E0 F ds
 | [],_=>trivial
 | _ :: _,⟨⟨D,h1,h2,h3⟩,h4⟩=>⟨⟨D,h1,le _ _ h2,h3⟩,h4.monoM le⟩
theorem DefL.mono {E0 E F:Env} (le:E.le F) {ds:List Deferred} (h:DefL E0 E ds):DefL E0 F ds:=h.monoM le.M
structure RSok (C:Ctx) (E:Env) (nt:Nat) (s:RS) (w:World) (a:Act):Prop where
 heap:HeapOK C E s.hp w
 tm:∀ t,Rel E true (s.tm t) (a.tmps.getD t undef)
 defers:(C.df=false->a.defers = [])/\DefL C.E0 E a.defers
 size:a.tmps.size=nt
def Free (E:Env) (H:Heap) (j:Nat):Prop:=E.blk j=none/\E.hdr j=none/\H j=none
section
variable {C:Ctx} {E:Env} {w:World} {a:Act}
theorem cutT_rel {tm:Nat->AV} {l:List Nat} (h:∀ t,Rel E true (tm t) (a.tmps.getD t undef)) (t:Nat):Rel E true (cutT l tm t) (a.tmps.getD t undef):=by
 unfold cutT
 split
 ·exact h t
 ·exact .any _
theorem cutH_some {l:List Nat} {H:Heap} {b:Nat} {ob:OB} (h:cutH l H b=some ob):H b=some ob:=by
 unfold cutH at h
 split at h
 ·exact h
 ·cases h
theorem put_tm {tm:Nat->AV} {E':Env} (le:E.le E') {dst:Option Tmp} {v:AV} {u:Value} (h:∀ t,Rel E true (tm t) (a.tmps.getD t undef)) (hd:dstOK a.tmps.size dst=true) (hr:Rel E' true v u) (t:Nat) :
  Rel E' true (putT tm dst v t) ((a.put dst u).tmps.getD t undef):=by
 cases dst with
 | none=>exact (h t).mono le
 | some d =>
  have hlt:d < a.tmps.size:=by simpa [dstOK] using hd
  show Rel E' true (if t=d then v else tm t) ((a.tmps.setIfInBounds d u).getD t undef)
  by_cases e:t=d
  ·subst e
   rw [if_pos rfl]
   have:(a.tmps.setIfInBounds t u).getD t undef=u:=by simp [Array.getD_eq_getD_getElem?,hlt]
   rw [this]; exact hr
  ·rw [if_neg e]
   have:(a.tmps.setIfInBounds d u).getD t undef=a.tmps.getD t undef:=by
    simp only [Array.getD_eq_getD_getElem?]
    rw [Array.getElem?_setIfInBounds_ne (fun h=>e h.symm)]
   rw [this]; exact (h t).mono le
theorem put_defers (a:Act) (dst:Option Tmp) (u:Value):(a.put dst u).defers=a.defers:=by cases dst <;> rfl
theorem put_size (a:Act) (dst:Option Tmp) (u:Value):(a.put dst u).tmps.size=a.tmps.size:=by
 cases dst with
 | none=>rfl
 | some d=>exact Array.size_setIfInBounds ..
theorem RCtx.ev_step {X:RCtx} (hP:X.P=C.P) (hE:X.E0=C.E0) (hT:Tab.ok C.P X.T) {i:Nat} {o:Oper} {s:RS} {e:Eff} {ops:Array Oper} (hgd:∀ j,X.gd j=(ops[j]?).bind (·.dst)) (hs:RSok C E X.nt s w a)
  (hfr:∀ j,X.nx + 8 * i<=j->j < X.nx + 8 * i + 8->Free E s.hp j) (he:X.ev i o s=some e) (hd:dstOK X.nt o.dst=true) (hq:e.obl) (K:Act->World->Prop) (Q:Exit->Act->World->Prop)
  (hK:∀ a' w' E',E.le E'->RSok C E' X.nt (s.app o e) w' a'->(∀ j,(j < X.nx + 8 * i ∨ X.nx + 8 * i + 8<=j)->s.hp j=none->E'.blk j=E.blk j/\E'.hdr j=E.hdr j)->K a' w') :
  if Region.wanted o (yielded ops a.tmps) then o.wpIn C.F 0 C.P a w K Q else K (a.put o.dst undef) w:=by
 unfold RCtx.ev at he
 rw [hP,hE] at he
 refine evOper_sound hT hs.heap hfr (cutT_rel hs.tm) hgd (fun b ob h=>cutH_some h) he hq K Q fun v w' E' le hok hrel hfr' => ?_
 refine hK _ _ E' le ⟨hok,put_tm le hs.tm (by rw [hs.size]; exact hd) hrel,by rw [put_defers]; exact ⟨hs.defers.1,hs.defers.2.mono le⟩,by rw [put_size]; exact hs.size⟩ hfr'
theorem if_wanted {n:Nat} {ops:Array Oper} {o:Oper} {K:Act->World->Prop} {Q:Exit->Act->World->Prop} (h:if Region.wanted o (yielded ops a.tmps) then o.wpIn C.F n C.P a w K Q else K (a.put o.dst undef) w) :
  if Region.wanted o (yielded ops a.tmps) then o.wpIn C.F n C.P a w K Q else (∀ f,o.about C.P w a.eval=some f->C.F.fn f)/\K (a.put o.dst undef) w:=by
 split at h
 ·rename_i hw; rw [if_pos hw]; exact h
 ·rename_i hw; rw [if_neg hw]; exact ⟨fun _ _=>trivial,h⟩
theorem RCtx.seq_sound {X:RCtx} (hP:X.P=C.P) (hE:X.E0=C.E0) (hT:Tab.ok C.P X.T) {ops:Array Oper} (hgd:∀ j,X.gd j=(ops[j]?).bind (·.dst)) (Q:Exit->Act->World->Prop) :
  ∀ (l:List Oper) (i:Nat) (s:RS) (es:List Eff) (E:Env) (a:Act) (w:World),X.effs l i s=some es->obls es->RSok C E X.nt s w a->(∀ j,X.nx + 8 * i<=j->Free E s.hp j) →
   (∀ E' a' w',E.le E'->RSok C E' X.nt (appAll s l es) w' a'->(∀ j,X.nx + 8 * (i + l.length)<=j->E'.blk j=none/\E'.hdr j=none)->Q .normal a' w')->wpListIn C.F 0 C.P ops Q l a w:=by
 intro l
 induction l with
 | nil =>
  intro i s es E a w he _ hs hfr hQ
  simp only [RCtx.effs,Option.some.injEq] at he
  subst he
  exact hQ E a w (Env.le.refl E) hs (fun j hj=>⟨(hfr j (by simpa using hj)).1,(hfr j (by simpa using hj)).2.1⟩)
 | cons o r ih =>
  intro i s es E a w he hq hs hfr hQ
  simp only [RCtx.effs] at he
  split at he
  ·rename_i e hev
   split at he
   ·rename_i hd
    cases e1:X.effs r (i + 1) (s.app o e) with
    | none=>rw [e1] at he; cases he
    | some es' =>
     rw [e1] at he
     cases he
     obtain ⟨hq1,hq2⟩:=hq
     refine wpListIn_step fun K hK => ?_
     refine if_wanted ?_
     refine RCtx.ev_step hP hE hT hgd hs (fun j h1 _=>hfr j h1) hev hd hq1 K Q fun a' w' E' le hs' hfr'=>hK a' w' ?_
     refine ih (i + 1) (s.app o e) es' E' a' w' e1 hq2 hs' (fun j hj => ?_) (fun E'' a'' w'' le'' hs'' hf''=>hQ E'' a'' w'' (le.trans le'') hs'' (fun j hj=>hf'' j (by simp only [List.length_cons] at hj; omega)))
     ·have hj0:=hfr j (by omega)
      have:=hfr' j (.inr (by omega)) hj0.2.2
      refine ⟨by rw [this.1]; exact hj0.1,by rw [this.2]; exact hj0.2.1,?_⟩
      cases h0:(s.app o e).hp j with
      | none=>rfl
      | some ob =>
       have ho:=hs'.heap.own j ob h0
       have hbl:E'.blk j=none:=by rw [this.1]; exact hj0.1
       have hhd:E'.hdr j=none:=by rw [this.2]; exact hj0.2.1
       cases ob with
       | cells t cs=>obtain ⟨k,us,hk,_⟩:=ho; rw [hbl] at hk; cases hk
       | fz t cs=>obtain ⟨k,us,hk,_⟩:=ho; rw [hbl] at hk; cases hk
       | vec t sz n f=>obtain ⟨hd',g,hh,_⟩:=ho; rw [hhd] at hh; cases hh
       | mp t es=>obtain ⟨k,kt,et,hh,_⟩:=ho; rw [hhd] at hh; cases hh
       | vecx t sz n f j fj=>obtain ⟨hd',g,hh,_⟩:=ho; rw [hhd] at hh; cases hh
   ·cases he
  ·cases he
end
end Go.Ab
namespace Go.Ab
open Go Go.RowKit
def appSel (f:Nat->Bool):RS->List Oper->List Eff->Nat->RS
 | s,o :: r,e :: es,i=>appSel f (if f i then s.app o e else s) r es (i + 1)
 | s,_,_,_=>s
def keysOf (e:Eff):List Nat:=e.upd.map (·.1)
theorem putT_other {tm:Nat->AV} {dst:Option Tmp} {v:AV} {t:Nat} (h:dst ≠ some t):putT tm dst v t=tm t:=by
 cases dst with
 | none=>rfl
 | some d=>exact if_neg (fun e=>h (by rw [e]))
theorem putT_self {tm:Nat->AV} {dst:Option Tmp} {v:AV} {t:Nat} (h:dst=some t):putT tm dst v t=v:=by subst h; exact if_pos rfl
theorem upds_other:∀ (u:List (Nat × Option OB)) (H:Heap) (b:Nat),b ∉ u.map (·.1)->(H.upds u) b=H b:=by
 intro u
 induction u with
 | nil=>intro H b _; rfl
 | cons x u ih =>
  intro H b hb
  show (Heap.upds (H.put x.1 x.2) u) b=_
  rw [ih _ _ (fun h=>hb (List.mem_cons_of_mem _ h))]
  exact if_neg (fun e=>hb (by rw [e]; exact List.mem_cons_self))
theorem upds_same:∀ (u:List (Nat × Option OB)) (H H':Heap) (b:Nat),b ∈ u.map (·.1)->(H.upds u) b=(H'.upds u) b:=by
 intro u
 induction u with
 | nil=>intro H H' b hb; cases hb
 | cons x u ih =>
  intro H H' b hb
  show (Heap.upds (H.put x.1 x.2) u) b=(Heap.upds (H'.put x.1 x.2) u) b
  by_cases h:b ∈ u.map (·.1)
  ·exact ih _ _ b h
  ·rw [upds_other _ _ _ h,upds_other _ _ _ h]
   have e:b=x.1:=by
    cases hb with
    | head=>rfl
    | tail _ hb=>exact absurd hb h
   rw [e]
   unfold Heap.put
   rw [if_pos rfl,if_pos rfl]
theorem appSel_tm {f g:Nat->Bool} {t:Nat}:∀ (l:List Oper) (es:List Eff) (i:Nat) (s s':RS),s.tm t=s'.tm t->(∀ k o,l[k]? = some o->o.dst=some t->f (i + k)=g (i + k))->(appSel f s l es i).tm t=(appSel g s' l es i).tm t:=by
 intro l
 induction l with
 | nil=>intro es i s s' h _; cases es <;> exact h
 | cons o r ih =>
  intro es i s s' h hw
  cases es with
  | nil=>exact h
  | cons e es =>
   refine ih es (i + 1) _ _ ?_ (fun k o' hk hd=>by have:=hw (k + 1) o' (by simpa using hk) hd; rw [Nat.add_comm k 1,← Nat.add_assoc] at this; exact this)
   by_cases hd:o.dst=some t
   ·have:=hw 0 o rfl hd
    rw [Nat.add_zero] at this
    rw [this]
    cases g i with
    | true=>show putT _ _ _ t=putT _ _ _ t; rw [putT_self hd,putT_self hd]
    | false=>exact h
   ·have e1:∀ (b:Bool) (s:RS),(if b then s.app o e else s).tm t=s.tm t:=by
     intro b s; cases b
     ·rfl
     ·exact putT_other hd
    rw [e1,e1,h]
theorem appSel_hp {f g:Nat->Bool} {b:Nat}:∀ (l:List Oper) (es:List Eff) (i:Nat) (s s':RS),s.hp b=s'.hp b->(∀ k e,es[k]? = some e->b ∈ keysOf e->f (i + k)=g (i + k))->(appSel f s l es i).hp b=(appSel g s' l es i).hp b:=by
 intro l
 induction l with
 | nil=>intro es i s s' h _; cases es <;> exact h
 | cons o r ih =>
  intro es i s s' h hw
  cases es with
  | nil=>exact h
  | cons e es =>
   refine ih es (i + 1) _ _ ?_ (fun k o' hk hd=>by have:=hw (k + 1) o' (by simpa using hk) hd; rw [Nat.add_comm k 1,← Nat.add_assoc] at this; exact this)
   by_cases hd:b ∈ keysOf e
   ·have:=hw 0 e rfl hd
    rw [Nat.add_zero] at this
    rw [this]
    cases g i with
    | true=>exact upds_same _ _ _ _ hd
    | false=>exact h
   ·have e1:∀ (c:Bool) (s:RS),(if c then s.app o e else s).hp b=s.hp b:=by
     intro c s; cases c
     ·rfl
     ·exact upds_other _ _ _ hd
    rw [e1,e1,h]
theorem appSel_tm_last {f:Nat->Bool} {t:Nat}:∀ (l:List Oper) (es:List Eff) (i k:Nat) (s:RS) (o:Oper) (e:Eff),l[k]? = some o->es[k]? = some e->o.dst=some t->f (i + k)=true →
  (∀ j o',k < j->l[j]? = some o'->o'.dst=some t->f (i + j)=false)->(appSel f s l es i).tm t=e.res:=by
 intro l
 induction l with
 | nil=>intro es i k s o e h; simp at h
 | cons o' r ih =>
  intro es i k s o e ho he hd hf hl
  cases es with
  | nil=>simp at he
  | cons e' es =>
   cases k with
   | zero =>
    simp only [List.getElem?_cons_zero,Option.some.injEq] at ho he
    subst ho; subst he
    have hfi:f i=true:=hf
    show (appSel f (if f i then s.app o' e' else s) r es (i + 1)).tm t=_
    rw [hfi,if_pos rfl]
    rw [appSel_tm (f:=f) (g:=fun _=>false) r es (i + 1) _ (s.app o' e') rfl (fun k o2 hk hd2=>by
     have:=hl (k + 1) o2 (by omega) (by simpa using hk) hd2
     rw [Nat.add_comm k 1,← Nat.add_assoc] at this; exact this)]
    have nosel:∀ (r:List Oper) (es:List Eff) (i:Nat) (s:RS),appSel (fun _=>false) s r es i=s:=by
     intro r
     induction r with
     | nil=>intro es i s; cases es <;> rfl
     | cons o r ih=>intro es i s; cases es with | nil=>rfl | cons e es=>exact ih es (i + 1) s
    rw [nosel]
    exact putT_self hd
   | succ k =>
    refine ih es (i + 1) k _ o e (by simpa using ho) (by simpa using he) hd (by rw [Nat.add_assoc,Nat.add_comm 1 k]; exact hf) (fun j o2 hj ho2 hd2 => ?_)
    have:=hl (j + 1) o2 (by omega) (by simpa using ho2) hd2
    rw [Nat.add_assoc,Nat.add_comm 1 j]; exact this
theorem appSel_hp_last {f:Nat->Bool} {b:Nat} (H:Heap):∀ (l:List Oper) (es:List Eff) (i k:Nat) (s:RS) (e:Eff),k < l.length->es[k]? = some e->b ∈ keysOf e->f (i + k)=true →
  (∀ j e',k < j->es[j]? = some e'->b ∈ keysOf e'->f (i + j)=false)->(appSel f s l es i).hp b=(H.upds e.upd) b:=by
 intro l
 induction l with
 | nil=>intro es i k s e h; exact absurd h (by simp)
 | cons o' r ih =>
  intro es i k s e ho he hd hf hl
  cases es with
  | nil=>simp at he
  | cons e' es =>
   cases k with
   | zero =>
    simp only [List.getElem?_cons_zero,Option.some.injEq] at he
    subst he
    have hfi:f i=true:=hf
    show (appSel f (if f i then s.app o' e' else s) r es (i + 1)).hp b=_
    rw [hfi,if_pos rfl]
    rw [appSel_hp (f:=f) (g:=fun _=>false) r es (i + 1) _ (s.app o' e') rfl (fun k o2 hk hd2=>by
     have:=hl (k + 1) o2 (by omega) (by simpa using hk) hd2
     rw [Nat.add_comm k 1,← Nat.add_assoc] at this; exact this)]
    have nosel:∀ (r:List Oper) (es:List Eff) (i:Nat) (s:RS),appSel (fun _=>false) s r es i=s:=by
     intro r
     induction r with
     | nil=>intro es i s; cases es <;> rfl
     | cons o r ih=>intro es i s; cases es with | nil=>rfl | cons e es=>exact ih es (i + 1) s
    rw [nosel]
    exact upds_same _ _ _ _ hd
   | succ k =>
    refine ih es (i + 1) k _ e (by simpa using ho) (by simpa using he) hd (by rw [Nat.add_assoc,Nat.add_comm 1 k]; exact hf) (fun j o2 hj ho2 hd2 => ?_)
    have:=hl (j + 1) o2 (by omega) (by simpa using ho2) hd2
    rw [Nat.add_assoc,Nat.add_comm 1 j]; exact this
def mask (o:Oper) (acc:List Nat):Nat:=o.after.toList.foldl (fun s e=>if Region.binds .any e then s ||| 2 ^ e.on ||| acc.getD e.on 0 else s) 0
def ancs:List Oper->List Nat->List Nat
 | [],acc=>acc
 | o :: r,acc=>ancs r (acc ++ [mask o acc])
theorem mask_bit (acc:List Nat) (j:Nat):∀ (l:List Edge) (s:Nat),(l.foldl (fun s e=>if Region.binds .any e then s ||| 2 ^ e.on ||| acc.getD e.on 0 else s) s).testBit j=true →
  s.testBit j=true ∨ ∃ e ∈ l,Region.binds .any e=true/\(e.on=j ∨ (acc.getD e.on 0).testBit j=true):=by
 intro l
 induction l with
 | nil=>intro s h; exact .inl h
 | cons e l ih =>
  intro s h
  rcases ih _ h with h | ⟨e',he',h'⟩
  ·dsimp only at h
   split at h
   ·rename_i hb
    rw [Nat.testBit_or,Nat.testBit_or] at h
    simp only [Bool.or_eq_true] at h
    rcases h with (h | h) | h
    ·exact .inl h
    ·refine .inr ⟨e,List.mem_cons_self,hb,.inl ?_⟩
     rw [Nat.testBit_two_pow] at h
     simpa using h
    ·exact .inr ⟨e,List.mem_cons_self,hb,.inr h⟩
   ·exact .inl h
  ·exact .inr ⟨e',List.mem_cons_of_mem _ he',h'⟩
theorem ancs_get:∀ (l:List Oper) (acc:List Nat) (k:Nat),k < acc.length->(ancs l acc).getD k 0=acc.getD k 0:=by
 intro l
 induction l with
 | nil=>intro acc k _; rfl
 | cons o r ih =>
  intro acc k hk
  show (ancs r (acc ++ [mask o acc])).getD k 0=_
  rw [ih _ k (by rw [List.length_append]; omega)]
  simp only [List.getD_eq_getElem?_getD]
  rw [List.getElem?_append_left hk]
theorem ancs_bit:∀ (l:List Oper) (acc:List Nat) (k:Nat) (o:Oper) (j:Nat),l[k]? = some o->((ancs l acc).getD (acc.length + k) 0).testBit j=true->(∀ e ∈ o.after.toList,Region.binds .any e=true->e.on < acc.length + k) →
  ∃ e ∈ o.after.toList,Region.binds .any e=true/\(e.on=j ∨ ((ancs l acc).getD e.on 0).testBit j=true):=by
 intro l
 induction l with
 | nil=>intro acc k o j h; simp at h
 | cons o' r ih =>
  intro acc k o j ho hb hlt
  cases k with
  | zero =>
   simp only [List.getElem?_cons_zero,Option.some.injEq] at ho
   subst ho
   have hg:(ancs (o' :: r) acc).getD (acc.length + 0) 0=mask o' acc:=by
    show (ancs r (acc ++ [mask o' acc])).getD acc.length 0=_
    rw [ancs_get _ _ _ (by simp)]
    simp [List.getD_eq_getElem?_getD]
   rw [hg] at hb
   rcases mask_bit acc j _ _ hb with h | ⟨e,he,h1,h2⟩
   ·simp at h
   ·refine ⟨e,he,h1,?_⟩
    rcases h2 with h2 | h2
    ·exact .inl h2
    ·refine .inr ?_
     rw [ancs_get _ _ _ (by have:=hlt e he h1; omega)]
     exact h2
  | succ k =>
   have hl:(acc ++ [mask o' acc]).length + k=acc.length + (k + 1):=by simp; omega
   exact ih (acc ++ [mask o' acc]) k o j (by simpa using ho) (by rw [hl]; exact hb) (fun e he h=>by rw [hl]; exact hlt e he h)
def needsAll (gd:Nat->Option Tmp) (cs:Nat->Option CallSpec):Nat->RS->List Oper->List Eff->List (List Nat)
 | i,s,o :: r,e :: es=>needsC (cs i) (cutT (readsOf gd o) s.tm) o :: needsAll gd cs (i + 1) (s.app o e) r es
 | _,_,_,_=>[]
def meets (a b:List Nat):Bool:=a.any fun x=>b.contains x
def conf (gd:Nat->Option Tmp) (o p:Oper) (e f:Eff) (m n:List Nat):Bool :=
 (match o.dst with | some d=>(readsOf gd p).contains d || decide (p.dst=some d) | none=>false) || (match p.dst with | some d=>(readsOf gd o).contains d | none=>false) ||
 meets (keysOf e) (n ++ keysOf f) || meets m (keysOf f)
def nop : Oper := ⟨none, .ready 0, 0, "", #[], none⟩
def noEff:Eff:=⟨True,.any,[]⟩
def drawOK (gd:Nat->Option Tmp) (l:List Oper) (es:List Eff) (nds:List (List Nat)):Bool :=
 let M:=ancs l []
 (List.range l.length).all fun i =>
  ((l.getD i nop).after.toList.all fun e => !Region.binds .any e || decide (e.on < i)) &&
  (List.range i).all fun j => !conf gd (l.getD j nop) (l.getD i nop) (es.getD j noEff) (es.getD i noEff) (nds.getD j []) (nds.getD i []) || (M.getD i 0).testBit j
section
variable {C:Ctx}
theorem effs_get {X:RCtx}:∀ (l:List Oper) (i:Nat) (s:RS) (es:List Eff),X.effs l i s=some es->es.length=l.length ∧
  ∀ k o,l[k]? = some o -> ∃ e,es[k]? = some e/\X.ev (i + k) o (appSel (fun j=>decide (j < i + k)) s l es i)=some e/\dstOK X.nt o.dst=true ∧
   (needsAll X.gd X.cs i s l es)[k]? = some (needsC (X.cs (i + k)) (cutT (readsOf X.gd o) (appSel (fun j=>decide (j < i + k)) s l es i).tm) o):=by
 intro l
 induction l with
 | nil =>
  intro i s es h
  simp only [RCtx.effs,Option.some.injEq] at h
  subst h
  exact ⟨rfl,fun k o h=>by simp at h⟩
 | cons o r ih =>
  intro i s es h
  simp only [RCtx.effs] at h
  split at h
  ·rename_i e hev
   split at h
   ·rename_i hd
    cases e1:X.effs r (i + 1) (s.app o e) with
    | none=>rw [e1] at h; cases h
    | some es' =>
     rw [e1] at h
     cases h
     obtain ⟨hl,hk⟩:=ih (i + 1) _ es' e1
     refine ⟨by simp [hl],fun k o' ho => ?_⟩
     cases k with
     | zero =>
      simp only [List.getElem?_cons_zero,Option.some.injEq] at ho
      subst ho
      have nosel:∀ (f:Nat->Bool) (r:List Oper) (es:List Eff) (i:Nat) (s:RS),(∀ j,i<=j->f j=false)->appSel f s r es i=s:=by
       intro f r
       induction r with
       | nil=>intro es i s _; cases es <;> rfl
       | cons o r ih =>
        intro es i s hf
        cases es with
        | nil=>rfl
        | cons e es =>
         show appSel f (if f i then s.app o e else s) r es (i + 1)=s
         rw [hf i (Nat.le_refl _),if_neg (by simp)]
         exact ih es (i + 1) s (fun j hj=>hf j (by omega))
      have hpre:appSel (fun j=>decide (j < i + 0)) s (o :: r) (e :: es') i=s:=nosel _ _ _ _ _ (fun j hj=>by simp; omega)
      rw [hpre]
      exact ⟨e,rfl,hev,hd,rfl⟩
     | succ k =>
      obtain ⟨e2,h1,h2,h3,h4⟩:=hk k o' (by simpa using ho)
      have hpre:appSel (fun j=>decide (j < i + (k + 1))) s (o :: r) (e :: es') i=appSel (fun j=>decide (j < i + 1 + k)) (s.app o e) r es' (i + 1):=by
       show appSel _ (if decide (i < i + (k + 1)) then s.app o e else s) r es' (i + 1)=_
       rw [if_pos (by simp)]
       have:(fun j=>decide (j < i + (k + 1)))=(fun j=>decide (j < i + 1 + k)):=by funext j; congr 1; simp only [eq_iff_iff]; omega
       rw [this]
      rw [hpre]
      have hik:i + (k + 1)=i + 1 + k:=by omega
      rw [hik]
      exact ⟨e2,by simpa using h1,h2,h3,by simpa [needsAll] using h4⟩
   ·cases h
  ·cases h
theorem cutT_congr {l:List Nat} {tm tm':Nat->AV} (h:∀ t ∈ l,tm t=tm' t):cutT l tm=cutT l tm':=by
 funext t
 unfold cutT
 by_cases hc:l.contains t=true
 ·rw [if_pos hc,if_pos hc]; exact h t (by simpa using hc)
 ·rw [if_neg hc,if_neg hc]
theorem cutH_congr {l:List Nat} {H H':Heap} (h:∀ t ∈ l,H t=H' t):cutH l H=cutH l H':=by
 funext t
 unfold cutH
 by_cases hc:l.contains t=true
 ·rw [if_pos hc,if_pos hc]; exact h t (by simpa using hc)
 ·rw [if_neg hc,if_neg hc]
theorem meets_true {a b:List Nat} {x:Nat} (ha:x ∈ a) (hb:x ∈ b):meets a b=true:=by
 unfold meets
 rw [List.any_eq_true]
 exact ⟨x,ha,by simpa using hb⟩
theorem drawOK_spec {gd:Nat->Option Tmp} {l:List Oper} {es:List Eff} {nds:List (List Nat)} (h:drawOK gd l es nds=true) (i:Nat) (hi:i < l.length) :
  (∀ e ∈ (l.getD i nop).after.toList,Region.binds .any e=true->e.on < i) ∧
  ∀ j,j < i->conf gd (l.getD j nop) (l.getD i nop) (es.getD j noEff) (es.getD i noEff) (nds.getD j []) (nds.getD i [])=true->((ancs l []).getD i 0).testBit j=true:=by
 unfold drawOK at h
 simp only [List.all_eq_true,List.mem_range,Bool.and_eq_true,Bool.or_eq_true,Bool.not_eq_true',decide_eq_true_eq] at h
 obtain ⟨h1,h2⟩:=h i hi
 refine ⟨fun e he hb => ?_,fun j hj hc => ?_⟩
 ·rcases h1 e he with h | h
  ·rw [hb] at h; cases h
  ·exact h
 ·rcases h2 j hj with h | h
  ·rw [hc] at h; cases h
  ·exact h
def Closed (l:List Oper) (f:Nat->Bool):Prop := ∀ i o,l[i]? = some o->f i=true -> ∀ e ∈ o.after.toList,Region.binds .any e=true->f e.on=true
theorem closed_anc {gd:Nat->Option Tmp} {l:List Oper} {es:List Eff} {nds:List (List Nat)} (h:drawOK gd l es nds=true) {f:Nat->Bool} (hc:Closed l f):∀ (i:Nat) (o:Oper) (j:Nat),l[i]? = some o →
  (∀ e ∈ o.after.toList,Region.binds .any e=true->f e.on=true)->((ancs l []).getD i 0).testBit j=true->f j=true:=by
 intro i
 induction i using Nat.strongRecOn with
 | _ i ih =>
  intro o j ho hr hb
  have hi:i < l.length:=(List.getElem?_eq_some_iff.1 ho).1
  have hgi:l.getD i nop=o:=by rw [List.getD_eq_getElem?_getD,ho]; rfl
  have hlt:=(drawOK_spec h i hi).1
  rw [hgi] at hlt
  obtain ⟨e,he,hbe,hor⟩:=ancs_bit l [] i o j ho (by simpa using hb) (fun e he hb=>by simpa using hlt e he hb)
  rcases hor with hor | hor
  ·rw [← hor]; exact hr e he hbe
  ·have hle:=hlt e he hbe
   have ho':l[e.on]? = some l[e.on]:=List.getElem?_eq_getElem (by omega)
   exact ih e.on hle _ j ho' (fun e' he' hb'=>hc e.on _ ho' (hr e he hbe) e' he' hb') hor
theorem mem_readsOf_conf {gd:Nat->Option Tmp} {o p:Oper} {e f:Eff} {m n:List Nat} {t:Nat} (hd:o.dst=some t) (hr:t ∈ readsOf gd p ∨ p.dst=some t):conf gd o p e f m n=true:=by
 unfold conf
 rw [hd]
 rcases hr with hr | hr
 ·have:(readsOf gd p).contains t=true:=by simpa using hr
  simp only [this,Bool.true_or]
 ·rw [hr]; simp
theorem mem_readsOf_conf' {gd:Nat->Option Tmp} {o p:Oper} {e f:Eff} {m n:List Nat} {t:Nat} (hd:p.dst=some t) (hr:t ∈ readsOf gd o):conf gd o p e f m n=true:=by
 have hc:(readsOf gd o).contains t=true:=by simpa using hr
 simp only [conf,hd,hc,Bool.or_true,Bool.true_or]
theorem keys_conf {gd:Nat->Option Tmp} {o p:Oper} {e f:Eff} {m n:List Nat} {b:Nat} (hd:b ∈ keysOf e) (hr:b ∈ n ∨ b ∈ keysOf f):conf gd o p e f m n=true:=by
 have:meets (keysOf e) (n ++ keysOf f)=true:=meets_true hd (List.mem_append.2 hr)
 simp only [conf,this,Bool.or_true,Bool.true_or]
theorem keys_conf' {gd:Nat->Option Tmp} {o p:Oper} {e f:Eff} {m n:List Nat} {b:Nat} (hd:b ∈ keysOf f) (hr:b ∈ m):conf gd o p e f m n=true:=by
 have:meets m (keysOf f)=true:=meets_true hr hd
 simp only [conf,this,Bool.or_true]
theorem obls_get:∀ {es:List Eff},obls es -> ∀ (k:Nat) (e:Eff),es[k]? = some e->e.obl:=by
 intro es
 induction es with
 | nil=>intro _ k e h; simp at h
 | cons f es ih =>
  intro h k e he
  cases k with
  | zero=>simp only [List.getElem?_cons_zero,Option.some.injEq] at he; subst he; exact h.1
  | succ k=>exact ih h.2 k e (by simpa using he)
theorem appSel_all:∀ (l:List Oper) (es:List Eff) (i:Nat) (s:RS) (f:Nat->Bool),(∀ k,k < l.length->f (i + k)=true)->appSel f s l es i=appAll s l es:=by
 intro l
 induction l with
 | nil=>intro es i s f _; cases es <;> rfl
 | cons o r ih =>
  intro es i s f hf
  cases es with
  | nil=>rfl
  | cons e es =>
   show appSel f (if f i then s.app o e else s) r es (i + 1)=appAll (s.app o e) r es
   rw [show f i=true from hf 0 (by simp),if_pos rfl]
   exact ih es (i + 1) _ f (fun k hk=>by have:=hf (k + 1) (by simpa using hk); rw [Nat.add_comm k 1,← Nat.add_assoc] at this; exact this)
theorem RCtx.draw_sound {X:RCtx} (hP:X.P=C.P) (hE:X.E0=C.E0) (hT:Tab.ok C.P X.T) {l:List Oper} (hgd:∀ j,X.gd j=(l.toArray[j]?).bind (·.dst)) (Q:Exit->Act->World->Prop) {s:RS} {es:List Eff} (he:X.effs l 0 s=some es) (hq:obls es)
  (hd:drawOK X.gd l es (needsAll X.gd X.cs 0 s l es)=true)
  (hQ:∀ E' a' w',RSok C E' X.nt (appAll s l es) w' a'->(∀ j,X.nx + 8 * l.length<=j->E'.blk j=none/\E'.hdr j=none)->Q .normal a' w') :
  ∀ (fuel:Nat) (listed:Array Bool) (E:Env) (a:Act) (w:World),listed.size=l.length->fuel=((List.range l.length).filter fun i => !listed.getD i false).length->Closed l (fun i=>listed.getD i false) →
   RSok C E X.nt (appSel (fun i=>listed.getD i false) s l es 0) w a->(∀ j,X.nx<=j->(∀ i,i < l.length->listed.getD i false=true -> ¬ (X.nx + 8 * i<=j/\j < X.nx + 8 * i + 8))->E.blk j=none/\E.hdr j=none) →
   wpAnyIn C.F 0 C.P .any l.toArray Q fuel listed a w:=by
 obtain ⟨hlen,hget⟩:=effs_get l 0 s es he
 -- an operation that is ready
 have hready:∀ (listed:Array Bool) (i:Nat),i ∈ Region.ready .any l.toArray listed -> ∃ o,l[i]? = some o/\listed.getD i true=false /\ ∀ e ∈ o.after.toList,Region.binds .any e=true->listed.getD e.on false=true:=by
  intro listed i hi
  simp only [Region.ready,List.mem_filter,List.mem_range,Bool.and_eq_true,Bool.not_eq_true'] at hi
  obtain ⟨h1,h2,h3⟩:=hi
  have hi':i < l.length:=by simpa using h1
  have ho:l[i]? = some l[i]:=List.getElem?_eq_getElem hi'
  refine ⟨l[i],ho,h2,fun e hem hb => ?_⟩
  have ho2:l.toArray[i]? = some l[i]:=by rw [List.getElem?_toArray]; exact ho
  rw [ho2] at h3
  simp only [Option.map_some,Option.getD_some,Array.all_eq_true_iff_forall_mem] at h3
  have:=h3 e (by simpa using hem)
  simp only [hb,Bool.not_true,Bool.false_or] at this
  exact this
 -- where none is ready all are listed
 have hnone:∀ (listed:Array Bool),listed.size=l.length->Region.ready .any l.toArray listed = [] -> ∀ i,i < l.length->listed.getD i false=true:=by
  intro listed hs hr i
  induction i using Nat.strongRecOn with
  | _ i ih =>
   intro hi
   cases hli:listed.getD i false with
   | true=>rfl
   | false =>
    exfalso
    have hmem:i ∈ Region.ready .any l.toArray listed:=by
     simp only [Region.ready,List.mem_filter,List.mem_range,Bool.and_eq_true,Bool.not_eq_true']
     refine ⟨by simpa using hi,?_,?_⟩
     ·rw [Array.getD_eq_getD_getElem?,Array.getElem?_eq_getElem (by omega)] at hli ⊢
      exact hli
     ·have ho2:l.toArray[i]? = some l[i]:=by simp [hi]
      rw [ho2]
      simp only [Option.map_some,Option.getD_some,Array.all_eq_true_iff_forall_mem]
      intro e hem
      cases hb:Region.binds .any e with
      | false=>rfl
      | true =>
       have hlt:=(drawOK_spec hd i hi).1 e (by
        rw [List.getD_eq_getElem?_getD,List.getElem?_eq_getElem hi]
        simpa using hem) hb
       simp [ih e.on hlt (by omega)]
    rw [hr] at hmem
    cases hmem
 intro fuel
 induction fuel with
 | zero =>
  intro listed E a w hsz hfu hcl hok hfr
  have hall:∀ i,i < l.length->listed.getD i false=true:=by
   intro i hi
   have hnil:(List.range l.length).filter (fun i => !listed.getD i false) = []:=List.eq_nil_of_length_eq_zero hfu.symm
   cases h:listed.getD i false with
   | true=>rfl
   | false =>
    have:i ∈ (List.range l.length).filter (fun i => !listed.getD i false):=List.mem_filter.2 ⟨List.mem_range.2 hi,by simp [h]⟩
    rw [hnil] at this
    cases this
  refine ⟨?_,?_⟩
  ·cases hr:Region.ready .any l.toArray listed with
   | nil=>rfl
   | cons i r =>
    obtain ⟨o,ho,h1,_⟩:=hready listed i (by rw [hr]; exact List.mem_cons_self)
    have hi:i < l.length:=(List.getElem?_eq_some_iff.1 ho).1
    have:=hall i hi
    rw [Array.getD_eq_getD_getElem?,Array.getElem?_eq_getElem (by omega)] at this h1
    simp only [Option.getD_some] at this h1
    rw [h1] at this
    cases this
  ·rw [appSel_all l es 0 s _ (fun k hk=>by simpa using hall k hk)] at hok
   exact hQ E a w hok (fun j hj=>hfr j (by omega) (fun i hi _ h=>by omega))
 | succ fuel ih =>
  intro listed E a w hsz hfu hcl hok hfr
  refine ⟨fun hr => ?_,fun i hi => ?_⟩
  ·have hall:=hnone listed hsz hr
   rw [appSel_all l es 0 s _ (fun k hk=>by simpa using hall k hk)] at hok
   exact hQ E a w hok (fun j hj=>hfr j (by omega) (fun i hi _ h=>by omega))
  ·obtain ⟨o,ho,hli,hed⟩:=hready listed i hi
   have hil:i < l.length:=(List.getElem?_eq_some_iff.1 ho).1
   have hli':listed.getD i false=false:=by
    rw [Array.getD_eq_getD_getElem?,Array.getElem?_eq_getElem (by omega)] at hli ⊢
    exact hli
   obtain ⟨e,hei,hev,hdst,hnd⟩:=hget i o ho
   rw [Nat.zero_add] at hev hnd
   have hgo:l.getD i nop=o:=by rw [List.getD_eq_getElem?_getD,ho]; rfl
   have hge:es.getD i noEff=e:=by rw [List.getD_eq_getElem?_getD,hei]; rfl
   have hgn:(needsAll X.gd X.cs 0 s l es).getD i []=needsC (X.cs i) (cutT (readsOf X.gd o) (appSel (fun j=>decide (j < i)) s l es 0).tm) o:=by rw [List.getD_eq_getElem?_getD,hnd]; rfl
   -- a conflict orders the two
   have hlow:∀ j,j < i->conf X.gd (l.getD j nop) o (es.getD j noEff) e ((needsAll X.gd X.cs 0 s l es).getD j []) (needsC (X.cs i) (cutT (readsOf X.gd o) (appSel (fun j=>decide (j < i)) s l es 0).tm) o)=true->listed.getD j false=true:=by
    intro j hj hc
    have:=(drawOK_spec hd i hil).2 j hj (by rw [hgo,hge,hgn]; exact hc)
    exact closed_anc hd hcl i o j ho hed this
   have hhigh:∀ j o',i < j->l[j]? = some o'->conf X.gd o o' e (es.getD j noEff) (needsC (X.cs i) (cutT (readsOf X.gd o) (appSel (fun j=>decide (j < i)) s l es 0).tm) o) ((needsAll X.gd X.cs 0 s l es).getD j [])=true->listed.getD j false=false:=by
    intro j o' hj ho' hc
    have hjl:j < l.length:=(List.getElem?_eq_some_iff.1 ho').1
    have hgo':l.getD j nop=o':=by rw [List.getD_eq_getElem?_getD,ho']; rfl
    have hb:=(drawOK_spec hd j hjl).2 i hj (by rw [hgo,hge,hgn,hgo']; exact hc)
    cases hlj:listed.getD j false with
    | false=>rfl
    | true =>
     have:=closed_anc hd hcl j o' i ho' (fun e' he' hb'=>hcl j o' ho' hlj e' he' hb') hb
     rw [hli'] at this
     cases this
   -- the evaluation at the state that is there
   have htm:cutT (readsOf X.gd o) (appSel (fun i=>listed.getD i false) s l es 0).tm=cutT (readsOf X.gd o) (appSel (fun j=>decide (j < i)) s l es 0).tm:=by
    refine cutT_congr fun t ht=>appSel_tm l es 0 s s rfl fun k o' hk hdk => ?_
    rw [Nat.zero_add]
    have hgk:l.getD k nop=o':=by rw [List.getD_eq_getElem?_getD,hk]; rfl
    rcases Nat.lt_trichotomy k i with h | h | h
    ·rw [hlow k h (by rw [hgk]; exact mem_readsOf_conf hdk (.inl ht))]; simp [h]
    ·rw [h,hli']; simp
    ·rw [hhigh k o' h hk (mem_readsOf_conf' hdk ht)]; simp; omega
   have hhp:cutH (needsC (X.cs i) (cutT (readsOf X.gd o) (appSel (fun j=>decide (j < i)) s l es 0).tm) o) (appSel (fun i=>listed.getD i false) s l es 0).hp=cutH (needsC (X.cs i) (cutT (readsOf X.gd o) (appSel (fun j=>decide (j < i)) s l es 0).tm) o) (appSel (fun j=>decide (j < i)) s l es 0).hp:=by
    refine cutH_congr fun b hb=>appSel_hp l es 0 s s rfl fun k e' hk hdk => ?_
    rw [Nat.zero_add]
    have hkl:k < l.length:=by rw [← hlen]; exact (List.getElem?_eq_some_iff.1 hk).1
    have ho':l[k]? = some l[k]:=List.getElem?_eq_getElem hkl
    have hgk:es.getD k noEff=e':=by rw [List.getD_eq_getElem?_getD,hk]; rfl
    rcases Nat.lt_trichotomy k i with h | h | h
    ·rw [hlow k h (by rw [hgk]; exact keys_conf hdk (.inl hb))]; simp [h]
    ·rw [h,hli']; simp
    ·rw [hhigh k _ h ho' (by rw [hgk]; exact keys_conf' hdk hb)]; simp; omega
   have hev':X.ev i o (appSel (fun i=>listed.getD i false) s l es 0)=some e:=by
    unfold RCtx.ev at hev ⊢
    simp only [htm,hhp]
    exact hev
   -- what comes of it
   let listed':=listed.setIfInBounds i true
   have hget':∀ j,listed'.getD j false=if j=i then true else listed.getD j false:=by
    intro j
    by_cases e:j=i
    ·rw [if_pos e,e]
     simp [listed',Array.getD_eq_getD_getElem?,hsz,hil]
    ·rw [if_neg e]
     simp only [listed',Array.getD_eq_getD_getElem?]
     rw [Array.getElem?_setIfInBounds_ne (fun h=>e h.symm)]
   have happ:(appSel (fun i=>listed.getD i false) s l es 0).app o e=appSel (fun i=>listed'.getD i false) s l es 0:=by
    have h1:((appSel (fun i=>listed.getD i false) s l es 0).app o e).tm=(appSel (fun i=>listed'.getD i false) s l es 0).tm:=by
     funext t
     show putT _ o.dst e.res t=_
     by_cases hdt:o.dst=some t
     ·rw [putT_self hdt]
      refine (appSel_tm_last l es 0 i s o e ho hei hdt (by rw [Nat.zero_add,hget',if_pos rfl]) (fun j o' hj ho' hdj => ?_)).symm
      rw [Nat.zero_add,hget',if_neg (by omega)]
      exact hhigh j o' hj ho' (mem_readsOf_conf hdt (.inr hdj))
     ·rw [putT_other hdt]
      refine appSel_tm l es 0 s s rfl fun k o' hk hdk => ?_
      rw [Nat.zero_add,hget']
      by_cases e':k=i
      ·rw [e',ho] at hk; cases hk; exact absurd hdk hdt
      ·rw [if_neg e']
    have h2:((appSel (fun i=>listed.getD i false) s l es 0).app o e).hp=(appSel (fun i=>listed'.getD i false) s l es 0).hp:=by
     funext b
     show (Heap.upds _ e.upd) b=_
     by_cases hdb:b ∈ keysOf e
     ·refine (appSel_hp_last _ l es 0 i s e hil hei hdb (by rw [Nat.zero_add,hget',if_pos rfl]) (fun j e' hj he' hdj => ?_)).symm
      rw [Nat.zero_add,hget',if_neg (by omega)]
      have hjl:j < l.length:=by rw [← hlen]; exact (List.getElem?_eq_some_iff.1 he').1
      have hgj:es.getD j noEff=e':=by rw [List.getD_eq_getElem?_getD,he']; rfl
      exact hhigh j _ hj (List.getElem?_eq_getElem hjl) (by rw [hgj]; exact keys_conf hdb (.inr hdj))
     ·rw [upds_other _ _ _ hdb]
      refine appSel_hp l es 0 s s rfl fun k e' hk hdk => ?_
      rw [Nat.zero_add,hget']
      by_cases e2:k=i
      ·rw [e2,hei] at hk; cases hk; exact absurd hdk hdb
      ·rw [if_neg e2]
    show RS.mk _ _=_
    cases hR:appSel (fun i=>listed'.getD i false) s l es 0
    rw [hR] at h1 h2
    exact congr (congrArg RS.mk h1) h2
   have hoi:l.toArray[i]? = some o:=by simpa using ho
   have hfri:∀ j,X.nx + 8 * i<=j->j < X.nx + 8 * i + 8->Free E (appSel (fun i=>listed.getD i false) s l es 0).hp j:=by
    intro j h1 h2
    have hbh:=hfr j (by omega) (fun k hk hlk h=>by
     have:k=i:=by omega
     rw [this,hli'] at hlk
     cases hlk)
    refine ⟨hbh.1,hbh.2,?_⟩
    cases h0:(appSel (fun i=>listed.getD i false) s l es 0).hp j with
    | none=>rfl
    | some ob =>
     have hown:=hok.heap.own j ob h0
     cases ob with
     | cells t cs=>obtain ⟨k,us,hk,_⟩:=hown; rw [hbh.1] at hk; cases hk
     | fz t cs=>obtain ⟨k,us,hk,_⟩:=hown; rw [hbh.1] at hk; cases hk
     | vec t sz n f=>obtain ⟨hd',g,hh,_⟩:=hown; rw [hbh.2] at hh; cases hh
     | mp t es=>obtain ⟨k,kt,et,hh,_⟩:=hown; rw [hbh.2] at hh; cases hh
     | vecx t sz n f j fj=>obtain ⟨hd',g,hh,_⟩:=hown; rw [hbh.2] at hh; cases hh
   have hstep:=RCtx.ev_step (ops:=l.toArray) hP hE hT hgd hok hfri hev' hdst (obls_get hq i e hei) (wpAnyIn C.F 0 C.P .any l.toArray Q fuel listed') Q (fun a' w' E' le hok' hfr'=>by
    rw [happ] at hok'
    refine ih listed' E' a' w' (by simp [listed',hsz]) ?_ ?_ hok' ?_
    ·have hcount:∀ (m:Nat) (f g:Nat->Bool),i < m->f i=true->g i=false->(∀ j,j ≠ i->f j=g j)->((List.range m).filter f).length=((List.range m).filter g).length + 1:=by
      intro m f g
      induction m with
      | zero=>intro h; omega
      | succ m ihm =>
       intro hm hf hg hfg
       rw [List.range_succ,List.filter_append,List.filter_append,List.length_append,List.length_append]
       by_cases e':i=m
       ·subst e'
        have:(List.range i).filter f=(List.range i).filter g:=List.filter_congr fun j hj=>hfg j (by have:=List.mem_range.1 hj; omega)
        rw [this]
        simp [hf,hg]
       ·rw [ihm (by omega) hf hg hfg]
        have:f m=g m:=hfg m (fun h=>e' h.symm)
        simp only [List.filter_cons,List.filter_nil,this]
        omega
     have:=hcount l.length (fun i => !listed.getD i false) (fun i => !listed'.getD i false) hil (by simp [hli']) (by simp [hget']) (fun j hj=>by simp [hget',hj])
     omega
    ·intro j oj hoj hlj e' he' hb'
     replace hlj:listed'.getD j false=true:=hlj
     show listed'.getD e'.on false=true
     rw [hget'] at hlj ⊢
     by_cases ej:j=i
     ·rw [ej,ho] at hoj
      cases hoj
      have:=hed e' he' hb'
      split
      ·rfl
      ·exact this
     ·rw [if_neg ej] at hlj
      have:=hcl j oj hoj hlj e' he' hb'
      split
      ·rfl
      ·exact this
    ·intro j hj hno
     have h0:=hfr j hj (fun k hk hlk=>hno k hk (by
      rw [hget']
      split
      ·rfl
      ·exact hlk))
     have hni:=hno i hil (by rw [hget',if_pos rfl])
     have hH:(appSel (fun i=>listed.getD i false) s l es 0).hp j=none:=by
      cases h1:(appSel (fun i=>listed.getD i false) s l es 0).hp j with
      | none=>rfl
      | some ob =>
       have hown:=hok.heap.own j ob h1
       cases ob with
       | cells t cs=>obtain ⟨k,us,hk,_⟩:=hown; rw [h0.1] at hk; cases hk
       | fz t cs=>obtain ⟨k,us,hk,_⟩:=hown; rw [h0.1] at hk; cases hk
       | vec t sz n f=>obtain ⟨hd',g,hh,_⟩:=hown; rw [h0.2] at hh; cases hh
       | mp t es=>obtain ⟨k,kt,et,hh,_⟩:=hown; rw [h0.2] at hh; cases hh
       | vecx t sz n f j fj=>obtain ⟨hd',g,hh,_⟩:=hown; rw [h0.2] at hh; cases hh
     have:=hfr' j (by omega) hH
     exact ⟨by rw [this.1]; exact h0.1,by rw [this.2]; exact h0.2⟩)
   show wpOpIn C.F 0 C.P l.toArray Q i _ a w
   unfold wpOpIn
   rw [hoi]
   simp only
   split
   ·rename_i hw
    rw [if_pos hw] at hstep
    exact hstep
   ·rename_i hw
    rw [if_neg hw] at hstep
    exact ⟨fun _ _=>trivial,hstep⟩
end
end Go.Ab
namespace Go.Ab
open Go Go.RowKit
structure ASt where
 tm:List (Nat × AV)
 hp:List (Nat × OB)
 nx:Nat
def look:List (Nat × AV)->Nat->AV
 | [],_ => .any
 | p :: r,t=>if p.1=t then p.2 else look r t
inductive AX where
 | normal
 | ret
 | exit (id:Nat)
def AX.toExit:AX->Exit
 | .normal => .normal
 | .ret => .ret
 | .exit id => .exit id
structure Sat (C:Ctx) (E:Env) (nt:Nat) (st:ASt) (w:World) (a:Act):Prop where
 ok:RSok C E nt ⟨look st.tm,Heap.of st.hp⟩ w a
 fresh:∀ j,st.nx<=j->E.blk j=none/\E.hdr j=none
def SWP (C:Ctx) (nt:Nat) (c:Code) (K:AX->ASt->Prop) (st:ASt):Prop :=
 ∀ E w a,Sat C E nt st w a->c.wpIn C.F 0 C.P (fun e a' w' => ∃ x E' st',e=x.toExit/\Sat C E' nt st' w' a'/\K x st') a w
section
variable {C:Ctx} {nt:Nat} {K:AX->ASt->Prop} {st:ASt}
theorem swp_mono {c:Code} {K':AX->ASt->Prop} (h:SWP C nt c K st) (hk:∀ x st,K x st->K' x st):SWP C nt c K' st :=
 fun E w a hs=>wpIn_mono (h E w a hs) fun _ _ _ ⟨x,E',st',he,hs',hk'⟩=>⟨x,E',st',he,hs',hk x st' hk'⟩
theorem swp_skip (h:K .normal st):SWP C nt .skip K st:=fun E _ _ hs=>wpIn_skip ⟨.normal,E,st,rfl,hs,h⟩
theorem swp_ret (h:K .ret st):SWP C nt .ret K st:=fun E _ _ hs=>wpIn_ret ⟨.ret,E,st,rfl,hs,h⟩
theorem swp_exit {id:Nat} (h:K (.exit id) st):SWP C nt (.exit id) K st:=fun E _ _ hs=>wpIn_exit ⟨.exit id,E,st,rfl,hs,h⟩
def seqK (C:Ctx) (nt:Nat) (y:Code) (K:AX->ASt->Prop):AX->ASt->Prop
 | .normal,st=>SWP C nt y K st
 | x,st=>K x st
theorem swp_seq {x y:Code} (h:SWP C nt x (seqK C nt y K) st):SWP C nt (.seq x y) K st:=by
 intro E w a hs
 refine wpIn_seq (wpIn_mono (h E w a hs) ?_)
 rintro e a' w' ⟨x',E',st',rfl,hs',hk⟩
 cases x' with
 | normal=>exact hk E' w' a' hs'
 | ret=>exact ⟨.ret,E',st',rfl,hs',hk⟩
 | exit id=>exact ⟨.exit id,E',st',rfl,hs',hk⟩
def blkK (id:Nat) (K:AX->ASt->Prop):AX->ASt->Prop
 | .exit i,st=>if i=id then K .normal st else K (.exit i) st
 | x,st=>K x st
theorem swp_block {id:Nat} {c:Code} (h:SWP C nt c (blkK id K) st):SWP C nt (.block id c) K st:=by
 intro E w a hs
 refine wpIn_block (wpIn_mono (h E w a hs) ?_)
 rintro e a' w' ⟨x',E',st',rfl,hs',hk⟩
 cases x' with
 | normal=>exact ⟨.normal,E',st',rfl,hs',hk⟩
 | ret=>exact ⟨.ret,E',st',rfl,hs',hk⟩
 | exit i =>
  by_cases e:i=id
  ·subst e
   have hk':K .normal st':=by simpa [blkK] using hk
   show Exit.inBlock i _ (.exit i) a' w'
   unfold Exit.inBlock
   simp only [if_true]
   exact ⟨.normal,E',st',rfl,hs',hk'⟩
  ·have hk':K (.exit i) st':=by simpa [blkK,e] using hk
   show Exit.inBlock id _ (.exit i) a' w'
   unfold Exit.inBlock
   simp only [e,if_false]
   exact ⟨.exit i,E',st',rfl,hs',hk'⟩
theorem swp_cond {c:Operand} {x y:Code} (b:Bool) (hc:opAV (look st.tm) c = .lit (.bool b)) (h1:b=true->SWP C nt x K st) (h2:b=false->SWP C nt y K st):SWP C nt (.cond c x y) K st:=by
 intro E w a hs
 have hr:=opAV_rel hs.ok.tm c
 simp only at hr
 rw [hc] at hr
 have he:a.eval c = .bool b:=by generalize a.eval c=u at hr; cases hr; rfl
 refine wpIn_cond he ?_
 cases b with
 | true=>exact h1 rfl E w a hs
 | false=>exact h2 rfl E w a hs
def Ent (C:Ctx) (nt:Nat) (st st2:ASt):Prop := ∀ E w a,Sat C E nt st w a -> ∃ E',Sat C E' nt st2 w a
theorem Ent.refl:Ent C nt st st:=fun E _ _ h=>⟨E,h⟩
theorem Ent.trans {s1 s2 s3:ASt} (h:Ent C nt s1 s2) (k:Ent C nt s2 s3):Ent C nt s1 s3:=fun E w a hs=>let ⟨E',h'⟩:=h E w a hs; k E' w a h'
theorem swp_ent {c:Code} {st2:ASt} (h:Ent C nt st st2) (h2:SWP C nt c K st2):SWP C nt c K st:=fun E w a hs=>let ⟨E',hs'⟩:=h E w a hs; h2 E' w a hs'
def loopK (C:Ctx) (nt:Nat) {X:Type} (S:X->ASt) (I:X->Prop) (μ:X->Nat) (x:X) (K:AX->ASt->Prop):AX->ASt->Prop
 | .normal,st => ∃ x',Ent C nt st (S x')/\I x'/\μ x' < μ x
 | e,st=>K e st
theorem swp_loop {c:Code} {X:Type} (S:X->ASt) (I:X->Prop) (μ:X->Nat) (x0:X) (h0:Ent C nt st (S x0)) (hI:I x0) (hb:∀ x,I x->SWP C nt c (loopK C nt S I μ x K) (S x)):SWP C nt (.loop c) K st:=by
 intro E w a hs
 obtain ⟨E0,hs0⟩:=h0 E w a hs
 refine wpIn_loop_ghost (fun n a w => ∃ x E,μ x=n/\I x/\Sat C E nt (S x) w a) (μ x0) ⟨x0,E0,rfl,hI,hs0⟩ ?_
 rintro n a w ⟨x,E,rfl,hx,hs⟩
 refine wpIn_mono (hb x hx E w a hs) ?_
 rintro e a' w' ⟨x',E',st',rfl,hs',hk⟩
 cases x' with
 | normal =>
  obtain ⟨x2,hent,hI2,hlt⟩:=hk
  obtain ⟨E2,hs2⟩:=hent E' w' a' hs'
  exact ⟨μ x2,hlt,x2,E2,rfl,hI2,hs2⟩
 | ret=>exact ⟨.ret,E',st',rfl,hs',hk⟩
 | exit i=>exact ⟨.exit i,E',st',rfl,hs',hk⟩
def gdOf (l:List Oper):Nat->Option Tmp:=fun j=>(l[j]?).bind (·.dst)
def csOf:List (Nat × CallSpec)->Nat->Option CallSpec
 | [],_=>none
 | p :: r,i=>if p.1=i then some p.2 else csOf r i
def keepH (H:Heap):List Nat->List (Nat × OB)
 | []=>[]
 | b :: r=>match H b with | some ob=>(b,ob) :: keepH H r | none=>keepH H r
def regRun (P:Program) (E0:Env) (T:Tab) (nt:Nat) (l:List Oper) (draw:Bool) (cs:List (Nat × CallSpec)) (kt kh:List Nat) (st:ASt):Option (Prop × ASt) :=
 let X:RCtx:=⟨P,E0,T,nt,gdOf l,st.nx,csOf cs⟩
 let s:RS:=⟨look st.tm,Heap.of st.hp⟩
 match X.effs l 0 s with
 | some es =>
  if !draw || drawOK X.gd l es (needsAll X.gd X.cs 0 s l es) then
   let s':=appAll s l es
   some (obls es,⟨kt.map fun t=>(t,s'.tm t),keepH s'.hp kh,st.nx + 8 * l.length⟩)
  else none
 | none=>none
theorem look_map {E:Env} {tm:Nat->AV} {a:Act} (h:∀ t,Rel E true (tm t) (a.tmps.getD t undef)):∀ (kt:List Nat) (t:Nat),Rel E true (look (kt.map fun t=>(t,tm t)) t) (a.tmps.getD t undef):=by
 intro kt
 induction kt with
 | nil=>intro t; exact .any _
 | cons k r ih =>
  intro t
  simp only [List.map_cons,look]
  split
  ·rename_i e; subst e; exact h k
  ·exact ih t
theorem keepH_of {H:Heap}:∀ (kh:List Nat) (i:Nat) (ob:OB),Heap.of (keepH H kh) i=some ob->H i=some ob:=by
 intro kh
 induction kh with
 | nil=>intro i ob h; cases h
 | cons b r ih =>
  intro i ob h
  simp only [keepH] at h
  split at h
  ·rename_i ob' e
   rw [Heap.of_cons] at h
   split at h
   ·rename_i e'; subst e'; cases h; exact e
   ·exact ih i ob h
  ·exact ih i ob h
theorem swp_region {T:Tab} (hT:Tab.ok C.P T) (hm:C.P.follows .mixedOrders=true) {id:Nat} {l:List Oper} {draw:Bool} {cs:List (Nat × CallSpec)} {kt kh:List Nat} {q:Prop} {st':ASt}
  (h:regRun C.P C.E0 T nt l draw cs kt kh st=some (q,st')) (hq:q) (hk:K .normal st'):SWP C nt (.region id l.toArray draw) K st:=by
 intro E w a hs
 unfold regRun at h
 simp only at h
 split at h
 ·rename_i es he
  split at h
  ·rename_i hd
   cases h
   let X:RCtx:=⟨C.P,C.E0,T,nt,gdOf l,st.nx,csOf cs⟩
   have hgd:∀ j,X.gd j=(l.toArray[j]?).bind (·.dst):=fun j=>by simp [X,gdOf]
   have fin:∀ E' a' w',RSok C E' nt (appAll ⟨look st.tm,Heap.of st.hp⟩ l es) w' a'->(∀ j,st.nx + 8 * l.length<=j->E'.blk j=none/\E'.hdr j=none) →
     ∃ x E'' st'',(Exit.normal=x.toExit)/\Sat C E'' nt st'' w' a'/\K x st'':=by
    intro E' a' w' hok hfr
    exact ⟨.normal,E',_,rfl,⟨⟨hok.heap.drop (fun i ob hi=>keepH_of kh i ob hi),look_map hok.tm kt,hok.defers,hok.size⟩,hfr⟩,hk⟩
   have hfree:∀ j,st.nx<=j->Free E (Heap.of st.hp) j:=by
    intro j hj
    have h0:=hs.fresh j hj
    refine ⟨h0.1,h0.2,?_⟩
    cases h1:Heap.of st.hp j with
    | none=>rfl
    | some ob =>
     have hown:=hs.ok.heap.own j ob h1
     cases ob with
     | cells t cs=>obtain ⟨k,us,hk',_⟩:=hown; rw [h0.1] at hk'; cases hk'
     | fz t cs=>obtain ⟨k,us,hk',_⟩:=hown; rw [h0.1] at hk'; cases hk'
     | vec t sz n f=>obtain ⟨hd',g,hh,_⟩:=hown; rw [h0.2] at hh; cases hh
     | mp t es=>obtain ⟨k,kt,et,hh,_⟩:=hown; rw [h0.2] at hh; cases hh
     | vecx t sz n f j fj=>obtain ⟨hd',g,hh,_⟩:=hown; rw [h0.2] at hh; cases hh
   cases draw with
   | false =>
    refine wpIn_region_lit ?_
    refine RCtx.seq_sound (X:=X) rfl rfl hT hgd _ l 0 ⟨look st.tm,Heap.of st.hp⟩ es E a w he hq hs.ok (fun j hj=>hfree j (by simpa [X] using hj)) ?_
    intro E' a' w' _ hok hfr
    exact fin E' a' w' hok (fun j hj=>hfr j (by simpa [X] using hj))
   | true =>
    refine wpIn_region_any hm ?_
    simp only [Bool.not_true,Bool.false_or] at hd
    refine RCtx.draw_sound (X:=X) rfl rfl hT hgd _ he hq hd (fun E' a' w' hok hfr=>fin E' a' w' hok (fun j hj=>hfr j hj)) _ _ E a _ (by simp) ?_ ?_ ?_ ?_
    ·have:∀ i,i < l.length->(Array.replicate l.toArray.size false).getD i false=false:=fun i hi=>by simp [Array.getD_eq_getD_getElem?,hi]
     rw [List.filter_eq_self.2 (fun i hi=>by rw [this i (List.mem_range.1 hi)]; rfl)]
     simp
    ·intro i o _ hf
     have:(Array.replicate l.toArray.size false).getD i false=false:=by
      simp only [Array.getD_eq_getD_getElem?]
      cases h:(Array.replicate l.toArray.size false)[i]? with
      | none=>rfl
      | some b=>rw [Array.getElem?_replicate] at h; split at h <;> cases h; rfl
     have hf':(Array.replicate l.toArray.size false).getD i false=true:=hf
     rw [this] at hf'
     cases hf'
    ·have hsel:∀ (r:List Oper) (es:List Eff) (i:Nat) (s:RS) (f:Nat->Bool),(∀ j,f j=false)->appSel f s r es i=s:=by
      intro r
      induction r with
      | nil=>intro es i s f _; cases es <;> rfl
      | cons o r ih =>
       intro es i s f hf
       cases es with
       | nil=>rfl
       | cons e es =>
        show appSel f (if f i then s.app o e else s) r es (i + 1)=s
        rw [hf i,if_neg (by simp)]
        exact ih es (i + 1) s f hf
     rw [hsel]
     ·exact ⟨hs.ok.heap.drew,hs.ok.tm,hs.ok.defers,hs.ok.size⟩
     ·intro j
      simp only [Array.getD_eq_getD_getElem?]
      cases h:(Array.replicate l.toArray.size false)[j]? with
      | none=>rfl
      | some b=>rw [Array.getElem?_replicate] at h; split at h <;> cases h; rfl
    ·intro j hj _
     exact ⟨(hfree j hj).1,(hfree j hj).2.1⟩
  ·cases h
 ·cases h
end
end Go.Ab
namespace Go.Ab
open Go Go.RowKit
def isRp:AV->Bool
 | .rp _=>true
 | _=>false
def capOK:AV->Bool
 | .lit _=>true
 | .sl _ _ _=>true
 | .slc _ _ _=>true
 | .rp _=>true
 | .opt _ _=>true
 | .arr _ _ _=>true
 | .clo _ cs=>cs.all isRp
 | _=>false
theorem capOK_down {E:Env}:∀ {cs:List AV} {us:List Value},cs.all capOK=true->RelL E true cs us->RelL E false cs us:=by
 intro cs
 induction cs with
 | nil=>intro us _ h; cases h; exact .nil
 | cons c cs ih =>
  intro us hc h
  simp only [List.all_cons,Bool.and_eq_true] at hc
  cases h with
  | cons h h1 hs =>
   refine .cons ?_ h1 (ih hc.2 hs)
   cases h with
   | lit=>exact .lit _
   | slN=>exact .slN _ _
   | slZ=>exact .slZ _ _ _
   | slA _ _ _ b off cap g hn hcc hg hm h=>exact .slA _ _ _ b off cap g hn hcc hg hm h
   | slcN=>exact .slcN _ _
   | slcZ=>exact .slcZ _ _ _
   | slcA _ _ _ b off g hcc hg hm h=>exact .slcA _ _ _ b off g hcc hg hm h
   | rp b off hm h=>exact .rp b off hm h
   | optN _ h=>exact .optN _ h
   | optS b off hg hm h=>exact .optS b off hg hm h
   | @clo _ caps us f hl hk =>
    have hc1:=List.all_eq_true.1 hc.1
    refine .clo f hl fun k => ?_
    have hk:=hk k
    by_cases hkl:k < caps.length
    ·have hr:isRp (caps.getD k .any)=true:=by rw [List.getD_eq_getElem?_getD,List.getElem?_eq_getElem hkl]; exact hc1 _ (List.getElem_mem hkl)
     generalize caps.getD k .any=v at hr hk ⊢
     generalize us.getD k undef=u at hk ⊢
     cases hk with
     | rp b off hm h=>exact .rp b off hm h
     | _=>cases hr
    ·rw [List.getD_eq_getElem?_getD,List.getElem?_eq_none (by omega)]; exact .any _
   | _=>cases hc.1
  | arr g hg h hs=>exact .arr g hg h (ih hc.2 hs)
theorem idsL_get:∀ {cs:List AV},idsL cs = [] -> ∀ k,ids (cs.getD k .any) = []:=by
 intro cs
 induction cs with
 | nil=>intro _ k; simp [ids]
 | cons c cs ih =>
  intro h k
  simp only [idsL,List.append_eq_nil_iff] at h
  cases k with
  | zero=>simpa using h.1
  | succ k=>simpa using ih h.2 k
theorem Rel.trim {E F:Env} (hM:∀ b o,E.M b=some o->F.M b=some o) (hf:F.fns=E.fns):∀ {o:Bool} {av:AV} {u:Value},Rel E o av u->(o=true->ids av = [])->Rel F o av u:=by
 intro o av u h
 refine Rel.rec (motive_1:=fun o av u _=>(o=true->ids av = [])->Rel F o av u) (motive_2:=fun o cs us _=>(o=true->idsL cs = [])->RelL F o cs us) ?_ ?_ ?_ ?_ ?_ ?_ ?_ ?_ ?_ ?_ ?_ ?_ ?_ ?_ ?_ ?_ ?_ ?_ ?_ ?_ ?_ ?_ ?_ h
 ·intro o u _; exact .any u
 ·intro o u _; exact .lit u
 ·intro o cs us _ ih hn; exact .agg (ih (fun e=>by simpa [ids] using hn e))
 ·intro o cs us hl _ ih hn; exact .tup hl fun k=>ih k (fun e=>idsL_get (by simpa [ids] using hn e) k)
 ·intro o sz f _; exact .slN sz f
 ·intro o sz n f b off cap g hn hc hg hm _ ih _
  exact .slA sz n f b off cap g hn hc hg (fun i k hi hk=>mcell_mono' hM (by rw [hg i hi]; exact hk) (hm i k hi hk)) (fun i hi=>ih i hi (fun e=>by cases e))
 ·intro o sz f a _; exact .slZ sz f a
 ·intro o sz f _; exact .slcN sz f
 ·intro o sz n f b off g hc hg hm _ ih _
  exact .slcA sz n f b off g hc hg (fun i k hi hk=>mcell_mono' hM (by rw [hg i hi]; exact hk) (hm i k hi hk)) (fun i hi=>ih i hi (fun e=>by cases e))
 ·intro o sz f a _; exact .slcZ sz f a
 ·intro o cs us b off hm _ ih _; exact .rp b off (fun k hk=>mcell_mono' hM hk (hm k hk)) (ih (fun e=>by cases e))
 ·intro o g cs h _; exact .optN cs h
 ·intro o g cs us b off hg hm _ ih _; exact .optS b off hg (fun k hk=>mcell_mono' hM hk (hm k hk)) (ih (fun e=>by cases e))
 ·intro k b p h hn; exact absurd (hn rfl) (by simp [ids])
 ·intro u b h h1 hn; exact absurd (hn rfl) (by simp [ids])
 ·intro k n c b i sz p h hn; exact absurd (hn rfl) (by simp [ids])
 ·intro k cap b p sz n h hn hh; exact absurd (hh rfl) (by simp [ids])
 ·intro u k h _; exact .fn k (by rw [hf]; exact h)
 ·intro o caps us f hl _ ih hn; exact .clo f hl fun k=>ih k (fun e=>idsL_get (by simpa [ids] using hn e) k)
 ·intro o g v u _ h2 ih hn; exact .cnd (fun e=>ih e (fun e=>by simpa [ids] using hn e)) h2
 ·intro o _; exact .nil
 ·intro o v u cs us _ h1 _ ih ihs hn
  exact .cons (ih (fun e=>by have:=hn e; simp only [idsL,List.append_eq_nil_iff] at this; exact this.1)) h1 (ihs (fun e=>by have:=hn e; simp only [idsL,List.append_eq_nil_iff] at this; exact this.2))
 ·intro o sz n f cs us g hg _ _ ih ihs hn
  exact .arr g hg (fun i hi=>ih i hi (fun e=>by cases e)) (ihs (fun e=>by have:=hn e; simp only [idsL,List.append_eq_nil_iff] at this; exact this.2))
theorem RelL.trim {E F:Env} (hM:∀ b o,E.M b=some o->F.M b=some o) (hf:F.fns=E.fns) {cs:List AV} {us:List Value} (h:RelL E false cs us):RelL F false cs us:=by
 have:=Rel.trim hM hf (Rel.agg h) (fun e=>by cases e)
 generalize hz:us.toArray=z at this
 cases this with
 | agg h' =>
  rename_i us'
  have:us=us':=by simpa using hz
  rw [this]; exact h'
inductive Src where
 | same (b:Nat)
 | nil
def srcOfId:List (Nat × Src)->Nat->Option Src
 | [],_=>none
 | p :: r,i=>if p.1=i then some p.2 else srcOfId r i
def coeZ:AV->AV->Prop
 | .sl sz' n' f',.sl sz n f=>sz'=sz/\n'=n /\ ∀ i,i < n->f' i=f i
 | .slc sz' n' f',.sl sz n f=>sz'=sz/\n'=n /\ ∀ i,i < n->f' i=f i
 | .lit (.slice none 0 0),.sl _ n _=>n=0
 | v,t=>v=t
def coeZL:List AV->List AV->Prop
 | [],[]=>True
 | v :: vs,t :: ts=>coeZ v t/\coeZL vs ts
 | _,_=>False
theorem coeZ_rel {E:Env} {o:Bool} {v t:AV} {u:Value} (h:coeZ v t) (hr:Rel E o v u):Rel E o t u:=by
 unfold coeZ at h
 split at h
 ·obtain ⟨rfl,rfl,hh⟩:=h; exact sl_congr hr hh
 ·obtain ⟨rfl,rfl,hh⟩:=h
  refine sl_congr (E:=E) ?_ hh
  cases hr with
  | slcN=>exact .slN _ _
  | slcZ=>exact .slZ _ _ _
  | slcA _ _ _ b off g hc hg hm h=>exact .slA _ _ _ b off _ g (Nat.le_refl _) hc hg hm h
 ·subst h; cases hr; exact .slN _ _
 ·subst h; exact hr
theorem coeZ_arr {sz n:Nat} {f:Nat->List AV} {t:AV} (h:coeZ (.arr sz n f) t):t = .arr sz n f:=by
 cases t <;> exact h.symm
theorem coeZL_rel {E:Env} {o:Bool}:∀ {vs ts:List AV} {us:List Value},coeZL vs ts->RelL E o vs us->RelL E o ts us:=by
 intro vs
 induction vs with
 | nil =>
  intro ts us h hr
  cases ts with
  | nil=>exact hr
  | cons=>exact h.elim
 | cons v vs ih =>
  intro ts us h hr
  cases ts with
  | nil=>exact h.elim
  | cons t ts =>
   cases hr with
   | cons h0 h1 hs=>exact .cons (coeZ_rel h.1 h0) h1 (ih h.2 hs)
   | arr g hg h0 hs =>
    have h2:=h.1
    have h3:=coeZ_arr h2
    subst h3
    exact .arr g hg h0 (ih h.2 hs)
def coeC (L:Nat->Option OB) (mp:List (Nat × Src)):AV->AV->Prop × List Nat
 | _,.any=>(True,[])
 | .vec b,.sl sz n f =>
  match L b with
  | some (.vec _ sz' n' f')=>(sz'=sz/\n'=n /\ ∀ i,i < n->f' i=f i,[b])
  | _=>(False,[])
 | .vec b,.vec c=>(srcOfId mp c=some (.same b),[])
 | .ptr b p,.ptr c q=>(srcOfId mp c=some (.same b)/\p=q,[])
 | .win b p sz n,.win c q sz' n'=>(srcOfId mp c=some (.same b)/\p=q/\sz=sz'/\n=n',[])
 | .vp b i sz p,.vp c j sz' q=>(srcOfId mp c=some (.same b)/\i=j/\sz=sz'/\p=q,[])
 | .sl sz' n' f',.sl sz n f=>(sz'=sz/\n'=n /\ ∀ i,i < n->f' i=f i,[])
 | .slc sz' n' f',.sl sz n f=>(sz'=sz/\n'=n /\ ∀ i,i < n->f' i=f i,[])
 | .lit (.slice none 0 0),.sl _ n _=>(n=0,[])
 | .lit (.slice none 0 0),.vec c=>(srcOfId mp c=some .nil,[])
 | .arr sz' n' f',.arr sz n f=>(sz'=sz/\n'=n /\ ∀ i,i < n->f' i=f i,[])
 | .rp cs,.opt g ds=>(g=true/\coeZL cs ds,[])
 | .lit (.pointer none),.opt g _=>(g=false,[])
 | .opt g cs,.opt g' ds=>(g=g'/\(g'=true->coeZL cs ds),[])
 | v,t=>(v=t/\ids t = [],[])
def coeCL (L:Nat->Option OB) (mp:List (Nat × Src)):List AV->List AV->Prop × List Nat
 | [],[]=>(True,[])
 | v :: vs,t :: ts=>((coeC L mp v t).1/\(coeCL L mp vs ts).1,(coeC L mp v t).2 ++ (coeCL L mp vs ts).2)
 | _,_=>(False,[])
def coeS (L:Nat->Option OB) (mp:List (Nat × Src)):AV->AV->Prop × List Nat
 | .agg cs,.agg ds=>coeCL L mp cs ds
 | v,t=>coeC L mp v t
def coeSL (L:Nat->Option OB) (mp:List (Nat × Src)):List AV->List AV->Prop × List Nat
 | [],[]=>(True,[])
 | v :: vs,t :: ts=>((coeS L mp v t).1/\(coeSL L mp vs ts).1,(coeS L mp v t).2 ++ (coeSL L mp vs ts).2)
 | _,_=>(False,[])
def coeV (L:Nat->Option OB) (mp:List (Nat × Src)):AV->AV->Prop × List Nat
 | .tup vs,.tup ts=>coeSL L mp vs ts
 | .clo f vs,.clo g ts=>(f=g/\(coeSL L mp vs ts).1,(coeSL L mp vs ts).2)
 | .cnd g v,t=>(g=true/\(coeS L mp v t).1,(coeS L mp v t).2)
 | v,t=>coeS L mp v t
section
variable {C:Ctx} {E F:Env} {H:Heap} {w:World}
structure EntEnv (L:Nat->Option OB) (mp:List (Nat × Src)) (bs:List Nat) (E F:Env):Prop where
 M:∀ b o,E.M b=some o->F.M b=some o
 fns:F.fns=E.fns
 same:∀ c b,srcOfId mp c=some (.same b)->F.blk c=E.blk b/\F.hdr c=E.hdr b
 nil:∀ c,srcOfId mp c=some .nil->F.blk c=none/\F.hdr c=some (.slice none 0 0)
 frz:∀ b ∈ bs,∀ t sz n f,L b=some (.vec t sz n f) -> ∀ hd,E.hdr b=some hd -> ∀ ob,Rel F ob (.sl sz n f) hd
theorem coeC_rel {L:Nat->Option OB} {mp:List (Nat × Src)} {bs:List Nat} (he:EntEnv L mp bs E F) {v t:AV} {u:Value} {p:Prop × List Nat} (hp:coeC L mp v t=p) (h:p.1) (hb:∀ b ∈ p.2,b ∈ bs) (hr:Rel E true v u):Rel F true t u:=by
 unfold coeC at hp
 split at hp
 ·exact .any _
 ·split at hp
  ·rename_i b sz n f _ ty sz' n' f' hL
   rw [← hp] at h hb
   obtain ⟨rfl,rfl,hh⟩:=h
   cases hr with
   | vec _ hd _=>exact sl_congr (he.frz b (hb b (by simp)) ty _ _ f' hL u hd true) hh
  ·rw [← hp] at h; exact h.elim
 ·rw [← hp] at h
  cases hr with
  | vec _ hd h1=>exact .vec _ (by rw [(he.same _ _ h).2]; exact hd) h1
 ·rw [← hp] at h
  obtain ⟨h1,rfl⟩:=h
  cases hr with
  | ptr _ _ hk=>exact .ptr _ _ (by rw [(he.same _ _ h1).1]; exact hk)
 ·rw [← hp] at h
  obtain ⟨h1,rfl,rfl,rfl⟩:=h
  cases hr with
  | win _ _ _ _ hk hn=>exact .win _ _ _ _ (by rw [(he.same _ _ h1).1]; exact hk) hn
 ·rw [← hp] at h
  obtain ⟨h1,rfl,rfl,rfl⟩:=h
  cases hr with
  | vp _ _ _ _ hk=>exact .vp _ _ _ _ (by rw [(he.same _ _ h1).2]; exact hk)
 ·rw [← hp] at h
  obtain ⟨rfl,rfl,hh⟩:=h
  exact sl_congr (hr.trim he.M he.fns (fun _=>rfl)) hh
 ·rw [← hp] at h
  obtain ⟨rfl,rfl,hh⟩:=h
  refine sl_congr (E:=F) ?_ hh
  have:=hr.trim he.M he.fns (fun _=>rfl)
  cases this with
  | slcN=>exact .slN _ _
  | slcZ=>exact .slZ _ _ _
  | slcA _ _ _ b off g hc hg hm h=>exact .slA _ _ _ b off _ g (Nat.le_refl _) hc hg hm h
 ·rw [← hp] at h
  replace h:_=0:=h
  subst h
  cases hr
  exact .slN _ _
 ·rw [← hp] at h
  cases hr
  exact .vec _ (he.nil _ h).2 rfl
 ·cases hr
 ·rw [← hp] at h
  obtain ⟨rfl,hh⟩:=h
  have:=hr.trim he.M he.fns (fun _=>rfl)
  cases this with
  | rp b off hm hl =>
   have hl':=coeZL_rel hh hl
   exact .optS b off rfl hm hl'
 ·rw [← hp] at h
  cases hr
  exact .optN _ h
 ·rw [← hp] at h
  obtain ⟨rfl,hh⟩:=h
  have:=hr.trim he.M he.fns (fun _=>rfl)
  cases this with
  | optN _ hg=>exact .optN _ hg
  | optS b off hg hm hl=>exact .optS b off hg hm (coeZL_rel (hh hg) hl)
 ·rw [← hp] at h
  obtain ⟨rfl,h2⟩:=h
  exact hr.trim he.M he.fns (fun _=>h2)
theorem coeC_arr {L:Nat->Option OB} {mp:List (Nat × Src)} {sz n:Nat} {f:Nat->List AV} {t:AV} {p:Prop × List Nat} (hp:coeC L mp (.arr sz n f) t=p) (h:p.1):t = .any ∨ ∃ g,t = .arr sz n g /\ ∀ i,i < n->f i=g i:=by
 cases t <;> simp only [coeC] at hp
 case any=>exact .inl rfl
 case arr sz' n' g =>
  rw [← hp] at h
  obtain ⟨rfl,rfl,hh⟩:=h
  exact .inr ⟨g,rfl,hh⟩
 all_goals (rw [← hp] at h; have:=h.1; cases this)
theorem coeCL_rel {L:Nat->Option OB} {mp:List (Nat × Src)} {bs:List Nat} (he:EntEnv L mp bs E F):∀ {vs ts:List AV} {us:List Value},(coeCL L mp vs ts).1->(∀ b ∈ (coeCL L mp vs ts).2,b ∈ bs)->(∀ sz n f,AV.arr sz n f ∈ vs->AV.any ∉ ts)->RelL E true vs us->RelL F true ts us:=by
 intro vs
 induction vs with
 | nil =>
  intro ts us h _ _ hr
  cases ts with
  | nil=>cases hr; exact .nil
  | cons=>exact h.elim
 | cons v vs ih =>
  intro ts us h hb ha hr
  cases ts with
  | nil=>exact h.elim
  | cons t ts =>
   simp only [coeCL] at h hb
   have ha':∀ sz n f,AV.arr sz n f ∈ vs->AV.any ∉ ts:=fun sz n f hm hn=>ha sz n f (List.mem_cons_of_mem _ hm) (List.mem_cons_of_mem _ hn)
   cases hr with
   | cons h0 h1 hs=>exact .cons (coeC_rel he rfl h.1 (fun b hm=>hb b (List.mem_append_left _ hm)) h0) h1 (ih h.2 (fun b hm=>hb b (List.mem_append_right _ hm)) ha' hs)
   | arr g hg h0 hs =>
    rcases coeC_arr rfl h.1 with h1 | ⟨f',rfl,hff⟩
    ·exact absurd (by rw [h1]; exact List.mem_cons_self) (ha _ _ _ List.mem_cons_self)
    ·exact .arr g hg (fun i hi=>by rw [← hff i hi]; exact (h0 i hi).trim he.M he.fns) (ih h.2 (fun b hm=>hb b (List.mem_append_right _ hm)) ha' hs)
def noAnyL:List AV->Bool
 | []=>true
 | .any :: _=>false
 | _ :: r=>noAnyL r
theorem noAnyL_not:∀ {l:List AV},noAnyL l=true->AV.any ∉ l:=by
 intro l
 induction l with
 | nil=>intro _ h; cases h
 | cons c l ih =>
  intro h hm
  cases hm with
  | head=>cases h
  | tail _ hm=>cases c <;> first | cases h | exact ih h hm
def fullS:AV->Bool
 | .agg cs=>noAnyL cs
 | _=>true
theorem coeS_rel {L:Nat->Option OB} {mp:List (Nat × Src)} {bs:List Nat} (he:EntEnv L mp bs E F) {v t:AV} {u:Value} {p:Prop × List Nat} (hp:coeS L mp v t=p) (h:p.1) (hb:∀ b ∈ p.2,b ∈ bs) (hf:fullS t=true) (hr:Rel E true v u):Rel F true t u:=by
 unfold coeS at hp
 split at hp
 ·rw [← hp] at h hb
  cases hr with
  | agg hl=>exact .agg (coeCL_rel he h hb (fun _ _ _ _=>noAnyL_not hf) hl)
 ·exact coeC_rel he hp h hb hr
theorem coeSL_get {L:Nat->Option OB} {mp:List (Nat × Src)}:∀ {vs ts:List AV},(coeSL L mp vs ts).1->vs.length=ts.length /\ ∀ k,k < vs.length->(coeS L mp (vs.getD k .any) (ts.getD k .any)).1 /\ ∀ b ∈ (coeS L mp (vs.getD k .any) (ts.getD k .any)).2,b ∈ (coeSL L mp vs ts).2:=by
 intro vs
 induction vs with
 | nil=>intro ts h; cases ts with | nil=>exact ⟨rfl,fun k hk=>absurd hk (by simp)⟩ | cons=>exact h.elim
 | cons v vs ih =>
  intro ts h
  cases ts with
  | nil=>exact h.elim
  | cons t ts =>
   obtain ⟨h1,h2⟩:=ih h.2
   refine ⟨by simp [h1],fun k hk => ?_⟩
   cases k with
   | zero=>exact ⟨h.1,fun b hm=>List.mem_append_left _ hm⟩
   | succ k =>
    obtain ⟨h3,h4⟩:=h2 k (by simpa using hk)
    exact ⟨by simpa using h3,fun b hm=>List.mem_append_right _ (h4 b (by simpa using hm))⟩
theorem coeSL_rel {L:Nat->Option OB} {mp:List (Nat × Src)} {bs:List Nat} (he:EntEnv L mp bs E F) {vs ts:List AV} (h:(coeSL L mp vs ts).1) (hb:∀ b ∈ (coeSL L mp vs ts).2,b ∈ bs) (hf:ts.all fullS=true) {us:List Value}
  (hr:∀ k,Rel E true (vs.getD k .any) (us.getD k undef)) (k:Nat):Rel F true (ts.getD k .any) (us.getD k undef):=by
 obtain ⟨hl,hg⟩:=coeSL_get h
 rcases Nat.lt_or_ge k vs.length with hk | hk
 ·obtain ⟨h1,h2⟩:=hg k hk
  refine coeS_rel he rfl h1 (fun b hm=>hb b (h2 b hm)) ?_ (hr k)
  rw [List.all_eq_true] at hf
  rw [List.getD_eq_getElem?_getD,List.getElem?_eq_getElem (by omega)]
  exact hf _ (List.getElem_mem _)
 ·rw [List.getD_eq_getElem?_getD (l:=ts),List.getElem?_eq_none (by omega)]
  exact .any _
def fullV:AV->Bool
 | .tup ts=>ts.all fullS
 | .clo _ ts=>ts.all fullS
 | t=>fullS t
theorem fullV_S {t:AV} (h:fullV t=true):fullS t=true:=by cases t <;> first | exact h | rfl
theorem coeV_rel {L:Nat->Option OB} {mp:List (Nat × Src)} {bs:List Nat} (he:EntEnv L mp bs E F) {v t:AV} {u:Value} {p:Prop × List Nat} (hp:coeV L mp v t=p) (h:p.1) (hb:∀ b ∈ p.2,b ∈ bs) (hf:fullV t=true) (hr:Rel E true v u):Rel F true t u:=by
 unfold coeV at hp
 split at hp
 ·rw [← hp] at h hb
  cases hr with
  | tup hl hk=>exact .tup (by rw [hl]; exact (coeSL_get h).1) (coeSL_rel he h hb hf hk)
 ·rw [← hp] at h hb
  obtain ⟨rfl,h⟩:=h
  cases hr with
  | clo _ hl hk=>exact .clo _ (by rw [hl]; exact (coeSL_get h).1) (coeSL_rel he h hb hf hk)
 ·rw [← hp] at h hb
  obtain ⟨hg,h⟩:=h
  cases hr with
  | cnd h1 h2=>exact coeS_rel he rfl h hb (fullV_S hf) (h1 hg)
 ·exact coeS_rel he hp h hb (fullV_S hf) hr
theorem World.ownsRow_unique {w:World} {t:TypeId} {sz n:Nat} {v:Value} {xs ys:List Value} (h1:w.ownsRow 0 t sz v n xs) (h2:w.ownsRow 0 t sz v n ys):xs=ys:=by
 rcases h1.2 with ⟨rfl,h0⟩ | ⟨g,cap,cur,rfl,_,hw,_,_,_,ht⟩
 ·have e1:=h1.1
  have e2:=h2.1
  subst h0
  rw [Nat.zero_mul] at e1 e2
  rw [List.eq_nil_of_length_eq_zero e1,List.eq_nil_of_length_eq_zero e2]
 ·rcases h2.2 with ⟨h,_⟩ | ⟨g',cap',cur',h,_,hw',_,_,_,ht'⟩
  ·cases h
  ·cases h
   rw [hw] at hw'
   cases hw'
   rw [← ht,ht']
def coeB (L:Nat->Option OB) (mp:List (Nat × Src)):OB->OB->Prop × List Nat
 | .cells t cs,.cells t' ds=>(t=t'/\(coeCL L mp cs ds).1/\noAnyL ds=true,(coeCL L mp cs ds).2)
 | .vec t sz n f,.vec t' sz' n' f'=>(t=t'/\sz=sz'/\n=n' /\ ∀ i,i < n->f i=f' i,[])
 | .mp t es,.mp t' es'=>(t=t'/\es=es',[])
 | .vecx t sz n f j fj,.vecx t' sz' n' f' j' fj'=>(t=t'/\sz=sz'/\n=n'/\j=j'/\(∀ i,i < n->i ≠ j->f i=f' i)/\(coeCL L mp fj fj').1/\noAnyL fj'=true,(coeCL L mp fj fj').2)
 | .vecx t sz n f j fj,.vec t' sz' n' f'=>(t=t'/\sz=sz'/\n=n'/\(∀ i,i < n->i ≠ j->f i=f' i)/\(coeCL L mp fj (f' j)).1/\noAnyL (f' j)=true/\(f' j).all capOK=true,(coeCL L mp fj (f' j)).2)
 | .vec t sz n f,.vecx t' sz' n' f' j' fj'=>(t=t'/\sz=sz'/\n=n'/\(∀ i,i < n->i ≠ j'->f i=f' i)/\(coeCL L mp (f j') fj').1/\noAnyL fj'=true,(coeCL L mp (f j') fj').2)
 | _,_=>(False,[])
def coeT (L:Nat->Option OB) (mp:List (Nat × Src)) (tm:Nat->AV):List (Nat × AV)->Prop × List Nat
 | []=>(True,[])
 | p :: r=>((coeV L mp (tm p.1) p.2).1/\(coeT L mp tm r).1,(coeV L mp (tm p.1) p.2).2 ++ (coeT L mp tm r).2)
def coeH (L:Nat->Option OB) (mp:List (Nat × Src)):List (Nat × OB)->Prop × List Nat
 | []=>(True,[])
 | p :: r =>
  match srcOfId mp p.1 with
  | some (.same b) =>
   match L b with
   | some ob=>((coeB L mp ob p.2).1/\(coeH L mp r).1,(coeB L mp ob p.2).2 ++ (coeH L mp r).2)
   | none=>(False,[])
  | some .nil =>
   match p.2 with
   | .vec _ _ n _=>(n=0/\(coeH L mp r).1,(coeH L mp r).2)
   | .vecx _ _ n _ _ _=>(n=0/\(coeH L mp r).1,(coeH L mp r).2)
   | _=>(False,[])
  | none=>(False,[])
def sames:List (Nat × Src)->List Nat
 | []=>[]
 | (_,.same b) :: r=>b :: sames r
 | _ :: r=>sames r
def entB (lim:Nat) (st2:ASt) (bs:List Nat) (mp:List (Nat × Src)):Bool :=
 noDup (bs ++ sames mp) && noDup (mp.map (·.1)) && st2.tm.all (fun p=>fullV p.2) && mp.all (fun p=>decide (p.1 < st2.nx) && (!decide (p.1 < lim) || (match p.2 with | .same b=>b == p.1 | .nil=>false))) && decide (lim<=st2.nx)
def entQ (st st2:ASt) (bs:List Nat) (mp:List (Nat × Src)):Prop :=
 (coeT (Heap.of st.hp) mp (look st.tm) st2.tm).1/\(coeH (Heap.of st.hp) mp st2.hp).1 ∧
 ((coeT (Heap.of st.hp) mp (look st.tm) st2.tm).2 ++ (coeH (Heap.of st.hp) mp st2.hp).2).all (fun b=>bs.contains b)=true/\bs.all (fun b=>match Heap.of st.hp b with | some (.vec _ _ _ _)=>true | _=>false)=true
theorem srcOfId_mem:∀ {mp:List (Nat × Src)} {c:Nat} {x:Src},srcOfId mp c=some x->(c,x) ∈ mp:=by
 intro mp
 induction mp with
 | nil=>intro c x h; cases h
 | cons p r ih =>
  intro c x h
  simp only [srcOfId] at h
  split at h
  ·rename_i e; cases h; rw [← e]; exact List.mem_cons_self
  ·exact List.mem_cons_of_mem _ (ih h)
theorem sames_mem:∀ {mp:List (Nat × Src)} {c b:Nat},(c,Src.same b) ∈ mp->b ∈ sames mp:=by
 intro mp
 induction mp with
 | nil=>intro c b h; cases h
 | cons p r ih =>
  intro c b h
  obtain ⟨c',x⟩:=p
  cases h with
  | head=>simp only [sames]; exact List.mem_cons_self
  | tail _ h =>
   cases x with
   | same b'=>simp only [sames]; exact List.mem_cons_of_mem _ (ih h)
   | nil=>simp only [sames]; exact ih h
theorem sames_inj:∀ {mp:List (Nat × Src)} {c d b:Nat},noDup (sames mp)=true->srcOfId mp c=some (.same b)->srcOfId mp d=some (.same b)->c=d:=by
 intro mp
 induction mp with
 | nil=>intro c d b _ h; cases h
 | cons p r ih =>
  intro c d b hn hc hd
  obtain ⟨c',x⟩:=p
  simp only [srcOfId] at hc hd
  have hn':noDup (sames r)=true:=by
   cases x with
   | same b'=>exact (noDup_cons hn).2
   | nil=>exact hn
  split at hc
  ·rename_i e1
   cases hc
   have hb:=(noDup_cons (show noDup (b :: sames r)=true from hn)).1
   split at hd
   ·rename_i e2; rw [← e1,← e2]
   ·exact absurd (sames_mem (srcOfId_mem hd)) hb
  ·split at hd
   ·rename_i e2
    cases hd
    have hb:=(noDup_cons (show noDup (b :: sames r)=true from hn)).1
    exact absurd (sames_mem (srcOfId_mem hc)) hb
   ·exact ih hn' hc hd
theorem coeT_look {L:Nat->Option OB} {mp:List (Nat × Src)} {bs:List Nat} (he:EntEnv L mp bs E F) {tm:Nat->AV} {a:Act} (hr:∀ t,Rel E true (tm t) (a.tmps.getD t undef)):∀ (l:List (Nat × AV)),(coeT L mp tm l).1->(∀ b ∈ (coeT L mp tm l).2,b ∈ bs) →
  l.all (fun p=>fullV p.2)=true -> ∀ t,Rel F true (look l t) (a.tmps.getD t undef):=by
 intro l
 induction l with
 | nil=>intro _ _ _ t; exact .any _
 | cons p r ih =>
  intro h hb hf t
  simp only [coeT] at h hb
  simp only [List.all_cons,Bool.and_eq_true] at hf
  simp only [look]
  split
  ·rename_i e
   rw [← e]
   exact coeV_rel he rfl h.1 (fun b hm=>hb b (List.mem_append_left _ hm)) hf.1 (hr p.1)
  ·exact ih h.2 (fun b hm=>hb b (List.mem_append_right _ hm)) hf.2 t
theorem coeH_get {L:Nat->Option OB} {mp:List (Nat × Src)}:∀ (l:List (Nat × OB)),(coeH L mp l).1 -> ∀ c ob,Heap.of l c=some ob →
  (∃ b ob1,srcOfId mp c=some (.same b)/\L b=some ob1/\(coeB L mp ob1 ob).1 /\ ∀ x ∈ (coeB L mp ob1 ob).2,x ∈ (coeH L mp l).2) ∨ (srcOfId mp c=some .nil/\((∃ t sz f,ob = .vec t sz 0 f) ∨ ∃ t sz f j fj,ob = .vecx t sz 0 f j fj)):=by
 intro l
 induction l with
 | nil=>intro _ c ob h; cases h
 | cons p r ih =>
  intro h c ob hc
  rw [Heap.of_cons] at hc
  simp only [coeH] at h ⊢
  split at h
  ·rename_i b hsb
   split at h
   ·rename_i ob1 hL
    simp only
    split at hc
    ·rename_i e
     cases hc
     rw [← e]
     exact .inl ⟨b,ob1,hsb,hL,h.1,fun x hx=>List.mem_append_left _ hx⟩
    ·rcases ih h.2 c ob hc with ⟨b',ob',h1,h2,h3,h4⟩ | h5
     ·exact .inl ⟨b',ob',h1,h2,h3,fun x hx=>List.mem_append_right _ (h4 x hx)⟩
     ·exact .inr h5
   ·exact h.elim
  ·rename_i hsn
   split at h
   ·rename_i t sz n f hp
    obtain ⟨rfl,h⟩:=h
    split at hc
    ·rename_i e
     cases hc
     rw [← e]
     exact .inr ⟨hsn,.inl ⟨t,sz,f,hp⟩⟩
    ·exact ih h c ob hc
   ·rename_i t sz n f j fj hp
    obtain ⟨rfl,h⟩:=h
    split at hc
    ·rename_i e
     cases hc
     rw [← e]
     exact .inr ⟨hsn,.inr ⟨t,sz,f,j,fj,hp⟩⟩
    ·exact ih h c ob hc
   ·exact h.elim
  ·exact h.elim
theorem ent_of {nt lim:Nat} {st st2:ASt} (hE0:∀ j,lim<=j->C.E0.blk j=none/\C.E0.hdr j=none) (bs:List Nat) (mp:List (Nat × Src)) (hb:entB lim st2 bs mp=true) (hq:entQ st st2 bs mp):Ent C nt st st2:=by
 intro E w a hs
 simp only [entB,Bool.and_eq_true,List.all_eq_true,decide_eq_true_eq,Bool.or_eq_true,Bool.not_eq_true',decide_eq_false_iff_not] at hb
 obtain ⟨⟨⟨⟨hnd,hndm⟩,hfull⟩,hmp⟩,hlim⟩:=hb
 obtain ⟨hqT,hqH,hbs,hbv⟩:=hq
 obtain ⟨hndb,hnds,hdisj⟩:=noDup_append hnd
 simp only [List.all_eq_true,List.contains_eq_mem,decide_eq_true_eq] at hbs hbv
 have hvec:∀ b ∈ bs,∃ t sz n f,Heap.of st.hp b=some (.vec t sz n f):=by
  intro b hb
  have:=hbv b hb
  split at this
  ·rename_i t sz n f e; exact ⟨t,sz,n,f,e⟩
  ·cases this
 obtain ⟨E1,le1,hb1,hh1,hok1,hrel1⟩:=HeapOK.freezeAll bs E _ hs.ok.heap hndb hvec
 let F:Env:={ E1 with
  blk:=fun i=>if i < lim then E1.blk i else match srcOfId mp i with | some (.same b)=>E1.blk b | _=>none
  hdr:=fun i=>if i < lim then E1.hdr i else match srcOfId mp i with | some (.same b)=>E1.hdr b | some .nil=>some (.slice none 0 0) | none=>none }
 have hlow:∀ c,c < lim -> ∀ x,srcOfId mp c=some x->x = .same c:=by
  intro c hc x hx
  have:=(hmp _ (srcOfId_mem hx)).2
  rcases this with h | h
  ·exact absurd hc h
  ·cases x with
   | same b=>rw [show b=c by simpa using h]
   | nil=>cases h
 have hsameF:∀ c b,srcOfId mp c=some (.same b)->F.blk c=E1.blk b/\F.hdr c=E1.hdr b:=by
  intro c b h
  by_cases hc:c < lim
  ·have:=hlow c hc _ h
   cases this
   exact ⟨if_pos hc,if_pos hc⟩
  ·constructor
   ·show (if c < lim then _ else _)=_
    rw [if_neg hc,h]
   ·show (if c < lim then _ else _)=_
    rw [if_neg hc,h]
 have hnilF:∀ c,srcOfId mp c=some .nil->F.blk c=none/\F.hdr c=some (.slice none 0 0):=by
  intro c h
  by_cases hc:c < lim
  ·have:=hlow c hc _ h
   cases this
  ·constructor
   ·show (if c < lim then _ else _)=_
    rw [if_neg hc,h]
   ·show (if c < lim then _ else _)=_
    rw [if_neg hc,h]
 have he:EntEnv (Heap.of st.hp) mp bs E F:=by
  refine ⟨fun b o h=>le1.M b o h,le1.fns,fun c b h => ?_,hnilF,fun b hb t sz n f hL hd hh ob => ?_⟩
  ·have:=hsameF c b h
   rw [hb1,hh1] at this
   exact this
  ·have h0:=hrel1 b hb t sz n f hL hd hh false
   have h1:=Rel.trim (E:=E1) (F:=F) (fun _ _ h=>h) rfl h0 (fun e=>by cases e)
   cases ob with
   | false=>exact h1
   | true=>exact h1.up
 refine ⟨F,⟨⟨?_,coeT_look he hs.ok.tm st2.tm hqT (fun b hm=>hbs b (List.mem_append_left _ hm)) (by rw [List.all_eq_true]; exact hfull),⟨hs.ok.defers.1,DefL.monoM (F:=F) (fun b o h=>le1.M b o h) hs.ok.defers.2⟩,hs.ok.size⟩,fun j hj => ?_⟩⟩
 ·have hE0F:C.E0.le F:=by
   refine ⟨fun b o h=>hok1.le.M b o h,fun b k h => ?_,fun b u h => ?_,hok1.le.fns⟩
   ·have hlt:b < lim:=by
     rcases Nat.lt_or_ge b lim with hh | hh
     ·exact hh
     ·rw [(hE0 b hh).1] at h; cases h
    show (if b < lim then _ else _)=_
    rw [if_pos hlt]; exact hok1.le.blk b k h
   ·have hlt:b < lim:=by
     rcases Nat.lt_or_ge b lim with hh | hh
     ·exact hh
     ·rw [(hE0 b hh).2] at h; cases h
    show (if b < lim then _ else _)=_
    rw [if_pos hlt]; exact hok1.le.hdr b u h
  have hLb:∀ c b,srcOfId mp c=some (.same b)->dropIds (Heap.of st.hp) bs b=Heap.of st.hp b:=by
   intro c b h
   exact dropIds_other _ _ _ (fun hm=>hdisj b hm (sames_mem (srcOfId_mem h)))
  refine ⟨hok1.os,hok1.tape,hok1.output,hok1.size,hok1.pres,fun b o h=>hok1.mem b o h,hE0F,fun b o h=>hok1.ext b o h,?_,?_⟩
  ·intro c ob hc
   rcases coeH_get st2.hp hqH c ob hc with ⟨b,ob1,h1,h2,h3,h4⟩ | ⟨h1,⟨t,sz,f,rfl⟩ | ⟨t,sz,f,j,fj,rfl⟩⟩
   ·have hown:=hok1.own b ob1 (by rw [hLb c b h1]; exact h2)
    obtain ⟨hfb,hfh⟩:=hsameF c b h1
    cases ob1 with
    | cells ty cs =>
     cases ob with
     | cells ty' ds =>
      obtain ⟨rfl,hcc,hna⟩:=h3
      obtain ⟨k,us,hk,hav,hM,hw,hr⟩:=hown
      refine ⟨k,us,by rw [hfb]; exact hk,hav,hM,hw,?_⟩
      have hown0:=hs.ok.heap.own b _ h2
      obtain ⟨k0,us0,hk0,_,_,hw0,hr0⟩:=hown0
      rw [← hb1,hk] at hk0
      cases hk0
      rw [hw] at hw0
      have:us=us0:=by simpa using hw0
      rw [this]
      exact coeCL_rel he hcc (fun x hx=>hbs x (List.mem_append_right _ (h4 x hx))) (fun _ _ _ _=>noAnyL_not hna) hr0
     | fz=>exact h3.elim
     | vec=>exact h3.elim
     | vecx=>exact h3.elim
     | mp=>exact h3.elim
    | fz=>cases ob <;> exact h3.elim
    | mp ty es =>
     cases ob with
     | mp ty' es' =>
      obtain ⟨rfl,rfl⟩:=h3
      obtain ⟨k,kt,et,hh,hbk,ha,hM,h1,h2,h3,ho⟩:=hown
      exact ⟨k,kt,et,by rw [hfh]; exact hh,by rw [hfb]; exact hbk,ha,hM,h1,h2,h3,ho⟩
     | fz=>exact h3.elim
     | vec=>exact h3.elim
     | vecx=>exact h3.elim
     | cells=>exact h3.elim
    | vecx ty sz n f j fj =>
     obtain ⟨hd,g,hh,ho,hl,hr,hj,hbk,hav⟩:=hown
     have hown0:=hs.ok.heap.own b _ h2
     obtain ⟨hd0,g0,hh0,ho0,hl0,hr0,hj0,hbk0,_⟩:=hown0
     rw [← hh1,hh] at hh0
     cases hh0
     have hgg:∀ i,i < n->g i=g0 i:=by
      intro i hi
      have hx:=World.ownsRow_unique ho ho0
      refine List.ext_getElem? fun k => ?_
      by_cases hk:k < sz
      ·have e1:=flat_get g sz n hl i k hi hk
       have e2:=flat_get g0 sz n hl0 i k hi hk
       rw [hx] at e1
       rw [← e1,e2]
      ·rw [List.getElem?_eq_none (by rw [hl i hi]; omega),List.getElem?_eq_none (by rw [hl0 i hi]; omega)]
     cases ob with
     | vecx ty' sz' n' f' j' fj' =>
      obtain ⟨rfl,rfl,rfl,rfl,hff,hcc,hna⟩:=h3
      refine ⟨hd,g,by rw [hfh]; exact hh,ho,hl,fun i hi hij=>by rw [← hff i hi hij]; exact RelL.trim (E:=E1) (F:=F) (fun _ _ h=>h) rfl (hr i hi hij),fun hjn => ?_,by rw [hfb]; exact hbk,hav⟩
      rw [hgg j hjn]
      exact coeCL_rel he hcc (fun x hx=>hbs x (List.mem_append_right _ (h4 x hx))) (fun _ _ _ _=>noAnyL_not hna) (hj0 hjn)
     | vec ty' sz' n' f' =>
      obtain ⟨rfl,rfl,rfl,hff,hcc,hna,hcap⟩:=h3
      refine ⟨hd,g,by rw [hfh]; exact hh,ho,hl,fun i hi => ?_,by rw [hfb]; exact hbk,hav⟩
      by_cases hij:i=j
      ·subst hij
       rw [hgg i hi]
       exact capOK_down hcap (coeCL_rel he hcc (fun x hx=>hbs x (List.mem_append_right _ (h4 x hx))) (fun _ _ _ _=>noAnyL_not hna) (hj0 hi))
      ·rw [← hff i hi hij]; exact RelL.trim (E:=E1) (F:=F) (fun _ _ h=>h) rfl (hr i hi hij)
     | fz=>exact h3.elim
     | mp=>exact h3.elim
     | cells=>exact h3.elim
    | vec ty sz n f =>
     cases ob with
     | vec ty' sz' n' f' =>
      obtain ⟨rfl,rfl,rfl,hff⟩:=h3
      obtain ⟨hd,g,hh,ho,hl,hr,hbk,hav⟩:=hown
      exact ⟨hd,g,by rw [hfh]; exact hh,ho,hl,fun i hi=>by rw [← hff i hi]; exact RelL.trim (E:=E1) (F:=F) (fun _ _ h=>h) rfl (hr i hi),by rw [hfb]; exact hbk,hav⟩
     | vecx ty' sz' n' f' j' fj' =>
      obtain ⟨rfl,rfl,rfl,hff,hcc,hna⟩:=h3
      obtain ⟨hd,g,hh,ho,hl,hr,hbk,hav⟩:=hown
      have hown0:=hs.ok.heap.own b _ h2
      obtain ⟨hd0,g0,hh0,ho0,hl0,hr0,hbk0,_⟩:=hown0
      rw [← hh1,hh] at hh0
      cases hh0
      have hgg:∀ i,i < n->g i=g0 i:=by
       intro i hi
       have hx:=World.ownsRow_unique ho ho0
       refine List.ext_getElem? fun k => ?_
       by_cases hk:k < sz
       ·have e1:=flat_get g sz n hl i k hi hk
        have e2:=flat_get g0 sz n hl0 i k hi hk
        rw [hx] at e1
        rw [← e1,e2]
       ·rw [List.getElem?_eq_none (by rw [hl i hi]; omega),List.getElem?_eq_none (by rw [hl0 i hi]; omega)]
      refine ⟨hd,g,by rw [hfh]; exact hh,ho,hl,fun i hi hij=>by rw [← hff i hi hij]; exact RelL.trim (E:=E1) (F:=F) (fun _ _ h=>h) rfl (hr i hi),fun hjn => ?_,by rw [hfb]; exact hbk,hav⟩
      rw [hgg j' hjn]
      exact coeCL_rel he hcc (fun x hx=>hbs x (List.mem_append_right _ (h4 x hx))) (fun _ _ _ _=>noAnyL_not hna) (hr0 j' hjn).up
     | fz=>exact h3.elim
     | mp=>exact h3.elim
     | cells=>exact h3.elim
   ·obtain ⟨hfb,hfh⟩:=hnilF c h1
    exact ⟨.slice none 0 0,fun _=>[],hfh,World.ownsRow_nil w 0 t sz,fun i hi=>absurd hi (by omega),fun i hi=>absurd hi (by omega),hfb,fun k hk=>by cases hk⟩
   ·obtain ⟨hfb,hfh⟩:=hnilF c h1
    exact ⟨.slice none 0 0,fun _=>[],hfh,World.ownsRow_nil w 0 t sz,fun i hi=>absurd hi (by omega),fun i hi=>absurd hi (by omega),fun h=>absurd h (by omega),hfb,fun k hk=>by cases hk⟩
  ·intro i j k hij hi hj hik hjk
   have get:∀ c,Heap.of st2.hp c ≠ none->F.blk c=some k -> ∃ b,srcOfId mp c=some (.same b)/\dropIds (Heap.of st.hp) bs b ≠ none/\E1.blk b=some k:=by
    intro c hc hk
    cases e:Heap.of st2.hp c with
    | none=>exact absurd e hc
    | some ob =>
     rcases coeH_get st2.hp hqH c ob e with ⟨b,ob1,h1,h2,_⟩ | ⟨h1,_⟩
     ·exact ⟨b,h1,by rw [hLb c b h1,h2]; simp,by rw [← (hsameF c b h1).1]; exact hk⟩
     ·rw [(hnilF c h1).1] at hk; cases hk
   obtain ⟨b1,s1,n1,k1⟩:=get i hi hik
   obtain ⟨b2,s2,n2,k2⟩:=get j hj hjk
   refine hok1.sep b1 b2 k (fun e=>hij ?_) n1 n2 k1 k2
   rw [← e] at s2
   exact sames_inj hnds s1 s2
 ·have hge:¬ j < lim:=by omega
  have hno:srcOfId mp j=none:=by
   cases e:srcOfId mp j with
   | none=>rfl
   | some x=>have:=(hmp _ (srcOfId_mem e)).1; omega
  constructor
  ·show (if j < lim then _ else _)=_
   rw [if_neg hge,hno]
  ·show (if j < lim then _ else _)=_
   rw [if_neg hge,hno]
end
end Go.Ab
namespace Go.Ab
open Go Go.RowKit
structure Env.leC (E F:Env):Prop where
 M:∀ b o,E.M b=some o->o.isCells=true->F.M b=some o
 blk:∀ b k,E.blk b=some k->F.blk b=some k
 hdr:∀ b u,E.hdr b=some u->F.hdr b=some u
 fns:F.fns=E.fns
theorem mcell_sub {M N:Nat->Option Obj} (h:∀ b o,M b=some o->o.isCells=true->N b=some o) {b off k:Nat} {us:List Value} (hk:k < us.length) (hm:mcell M b off=us[k]?):mcell N b off=us[k]? := by
 rw [List.getElem?_eq_getElem hk] at hm ⊢
 unfold mcell at hm ⊢
 split at hm
 ·rename_i c _ _ e; rw [h _ _ e rfl]; exact hm
 ·cases hm
theorem Rel.monoC {E F:Env} (le:E.leC F):∀ {o:Bool} {av:AV} {u:Value},Rel E o av u->Rel F o av u:=by
 intro o av u h
 refine Rel.rec (motive_1:=fun o av u _=>Rel F o av u) (motive_2:=fun o cs us _=>RelL F o cs us) ?_ ?_ ?_ ?_ ?_ ?_ ?_ ?_ ?_ ?_ ?_ ?_ ?_ ?_ ?_ ?_ ?_ ?_ ?_ ?_ ?_ ?_ ?_ h
 ·intro o u; exact .any u
 ·intro o u; exact .lit u
 ·intro o cs us _ ih; exact .agg ih
 ·intro o cs us hl _ ih; exact .tup hl ih
 ·intro o sz f; exact .slN sz f
 ·intro o sz n f b off cap g hn hc hg hm _ ih
  exact .slA sz n f b off cap g hn hc hg (fun i k hi hk=>mcell_sub le.M (by rw [hg i hi]; exact hk) (hm i k hi hk)) ih
 ·intro o sz f a; exact .slZ sz f a
 ·intro o sz f; exact .slcN sz f
 ·intro o sz n f b off g hc hg hm _ ih
  exact .slcA sz n f b off g hc hg (fun i k hi hk=>mcell_sub le.M (by rw [hg i hi]; exact hk) (hm i k hi hk)) ih
 ·intro o sz f a; exact .slcZ sz f a
 ·intro o cs us b off hm _ ih; exact .rp b off (fun k hk=>mcell_sub le.M hk (hm k hk)) ih
 ·intro o g cs h; exact .optN cs h
 ·intro o g cs us b off hg hm _ ih; exact .optS b off hg (fun k hk=>mcell_sub le.M hk (hm k hk)) ih
 ·intro k b p h; exact .ptr b p (le.blk _ _ h)
 ·intro u b h h1; exact .vec b (le.hdr _ _ h) h1
 ·intro k n c b i sz p h; exact .vp b i sz p (le.hdr _ _ h)
 ·intro k cap b p sz n h hn; exact .win b p sz n (le.blk _ _ h) hn
 ·intro u k h; exact .fn k (by rw [le.fns]; exact h)
 ·intro o caps us f hl _ ih; exact .clo f hl ih
 ·intro o g v u _ h2 ih; exact .cnd ih h2
 ·intro o; exact .nil
 ·intro o v u cs us _ h1 _ ih ihs; exact .cons ih h1 ihs
 ·intro o sz n f cs us g hg _ _ ih ihs; exact .arr g hg ih ihs
theorem RelL.monoC {E F:Env} (le:E.leC F) {o:Bool} {cs:List AV} {us:List Value} (h:RelL E o cs us):RelL F o cs us:=by
  have:=Rel.monoC le (Rel.agg h)
  generalize hz:us.toArray=z at this
  cases this with
  | agg h' => rename_i us'; have : us = us' := by simpa using hz
              rw [this]; exact h'
theorem OwnOB.moveC {C C2:Ctx} {E E2:Env} {w w2:World} {id:Nat} {ob:OB} (h:OwnOB C E w id ob) (hP:C2.P=C.P) (hav:∀ k,C.avail k->C2.avail k) (le:E.leC E2) (hb:E2.blk id=E.blk id)
  (hw:∀ k,E.M k=none->w2.heap[k]? = w.heap[k]?) (hN:∀ k,E.M k=none->E2.M k=none):OwnOB C2 E2 w2 id ob:=by
 cases ob with
 | cells t cs =>
  obtain ⟨k,us,hk,ha,hm,hw',hr'⟩:=h
  exact ⟨k,us,by rw [hb]; exact hk,hav k ha,hN k hm,by rw [hw k hm]; exact hw',hr'.monoC le⟩
 | fz t cs =>
  obtain ⟨k,us,hk,hm,hr'⟩:=h
  exact ⟨k,us,by rw [hb]; exact hk,le.M _ _ hm rfl,hr'.monoC le⟩
 | vec t sz n f =>
  obtain ⟨hd,g,hh',ho,hl,hr',hbk,hav'⟩:=h
  refine ⟨hd,g,le.hdr _ _ hh',⟨ho.1,?_⟩,hl,fun i hi=>(hr' i hi).monoC le,by rw [hb]; exact hbk,fun k hk=>⟨hav k (hav' k hk).1,hN k (hav' k hk).2⟩⟩
  rcases ho.2 with h0 | ⟨g0,cap,cur,hv,h1,h2,h3⟩
  ·exact .inl h0
  ·subst hv
   exact .inr ⟨g0,cap,cur,rfl,h1,by rw [hw g0 (hav' g0 rfl).2]; exact h2,h3⟩
 | mp t es =>
  obtain ⟨k,kt,et,hh',hbk,ha,hm,h1,h2,h3,es',clock,ho,hf⟩:=h
  exact ⟨k,kt,et,le.hdr _ _ hh',by rw [hb]; exact hbk,hav k ha,hN k hm,by rw [hP]; exact h1,by rw [hP]; exact h2,by rw [hP]; exact h3,es',clock,by rw [hw k hm]; exact ho,by rw [hP]; exact hf⟩
 | vecx t sz n f j fj =>
  obtain ⟨hd,g,hh',ho,hl,hr',hj,hbk,hav'⟩:=h
  refine ⟨hd,g,le.hdr _ _ hh',⟨ho.1,?_⟩,hl,fun i hi hij=>(hr' i hi hij).monoC le,fun h=>(hj h).monoC le,by rw [hb]; exact hbk,fun k hk=>⟨hav k (hav' k hk).1,hN k (hav' k hk).2⟩⟩
  rcases ho.2 with h0 | ⟨g0,cap,cur,hv,h1,h2,h3⟩
  ·exact .inl h0
  ·subst hv
   exact .inr ⟨g0,cap,cur,rfl,h1,by rw [hw g0 (hav' g0 rfl).2]; exact h2,h3⟩
theorem OwnOB.moveAv {C C2:Ctx} {E:Env} {w:World} {id:Nat} {ob:OB} (h:OwnOB C E w id ob) (hav:∀ k,C.avail k/\E.M k=none->C2.avail k) (hP:C2.P=C.P:=by rfl):OwnOB C2 E w id ob:=by
 cases ob with
 | cells t cs=>obtain ⟨k,us,hk,ha,hm,hw',hr'⟩:=h; exact ⟨k,us,hk,hav k ⟨ha,hm⟩,hm,hw',hr'⟩
 | fz t cs=>exact h
 | vec t sz n f=>obtain ⟨hd,g,h1,h2,h3,h4,h5,h6⟩:=h; exact ⟨hd,g,h1,h2,h3,h4,h5,fun k hk=>⟨hav k (h6 k hk),(h6 k hk).2⟩⟩
 | mp t es=>obtain ⟨k,kt,et,h1,h2,h3,h4,h5,h6,h7,h8⟩:=h; exact ⟨k,kt,et,h1,h2,hav k ⟨h3,h4⟩,h4,by rw [hP]; exact h5,by rw [hP]; exact h6,by rw [hP]; exact h7,by rw [hP]; exact h8⟩
 | vecx t sz n f j fj=>obtain ⟨hd,g,h1,h2,h3,h4,h5,h6,h7⟩:=h; exact ⟨hd,g,h1,h2,h3,h4,h5,h6,fun k hk=>⟨hav k (h7 k hk),(h7 k hk).2⟩⟩
theorem HeapOK.putL {C C2:Ctx} {E E2:Env} {H:Heap} {w:World} (h:HeapOK C E H w) {l:Nat} {o o':Obj} {m:Option Obj} (hl:E.M l=some o) (hoc:o.isCells=false) (hm:m=none ∨ m=some o')
  (hM:E2.M=fun b=>if b=l then m else E.M b) (hb:E2.blk=E.blk) (hh:E2.hdr=E.hdr) (hf:E2.fns=E.fns) (hP:C2.P=C.P) (hw0:C2.w0=C.w0) (hav:∀ b,C.avail b->C2.avail b)
  (hpres:∀ b,¬ C2.avail b->(w.putObj l o').heap[b]? = C2.w0.heap[b]?) (hE0:C2.E0.le E2) (hext:∀ b o,E2.M b=some o->C2.E0.M b=some o ∨ C2.avail b):HeapOK C2 E2 H (w.putObj l o'):=by
 have hlt:l < w.heap.size:=(Array.getElem?_eq_some_iff.1 (h.mem l o hl)).1
 have le:E.leC E2:=⟨fun b o1 hb1 hc=>by
   rw [hM]
   show (if b=l then m else E.M b)=some o1
   have hne:b ≠ l:=fun e=>by rw [e,hl] at hb1; cases hb1; rw [hoc] at hc; cases hc
   rw [if_neg hne]; exact hb1,fun _ _ e=>by rw [hb]; exact e,fun _ _ e=>by rw [hh]; exact e,hf⟩
 refine ⟨h.os.trans (by rw [hw0]),h.tape.trans (by rw [hw0]),h.output.trans (by rw [hw0]),by rw [World.putObj_size,hw0]; exact h.size,hpres,?_,hE0,hext,?_,?_⟩
 ·intro b o1 hb1
  rw [hM] at hb1
  replace hb1:(if b=l then m else E.M b)=some o1:=hb1
  by_cases e:b=l
  ·rw [if_pos e] at hb1
   rcases hm with hm | hm
   ·rw [hm] at hb1; cases hb1
   ·rw [hm] at hb1; cases hb1; rw [e]; exact World.putObj_heap_same hlt
  ·rw [if_neg e] at hb1
   rw [World.putObj_heap_other e]
   exact h.mem b o1 hb1
 ·intro i ob hi
  refine (h.own i ob hi).moveC hP hav le (by rw [hb]) (fun k hk=>World.putObj_heap_other (fun e=>by rw [e,hl] at hk; cases hk)) (fun k hk => ?_)
  rw [hM]
  show (if k=l then m else E.M k)=none
  rw [if_neg (fun e=>by rw [e,hl] at hk; cases hk)]; exact hk
 ·intro i j k hij hi hj h1 h2
  rw [hb] at h1 h2
  exact h.sep i j k hij hi hj h1 h2
theorem DefL.mem {E0 E:Env}:∀ {ds:List Deferred},DefL E0 E ds -> ∀ d ∈ ds,∃ D,d = { target := .collected D,args := #[] } /\ E.M D=some (.deferred (some []))
 | [],_,_,h=>by cases h
 | _ :: _,⟨⟨D,h1,h2,_⟩,h4⟩,d,h=>by
  cases h with
  | head=>exact ⟨D,h1,h2⟩
  | tail _ h=>exact h4.mem d h
theorem Sat.take {C:Ctx} {E:Env} {nt:Nat} {st:ASt} {w:World} {tmps:Array Value} {D:Nat} {ds:List Deferred} (h:Sat C E nt st w { tmps:=tmps,defers:={ target := .collected D,args := #[] } :: ds }) :
    w.heap[D]? = some (.deferred (some [])) /\ ∃ E',Sat C E' nt st (w.putObj D (.deferred none)) { tmps:=tmps,defers:=ds }:=by
  obtain ⟨⟨D',h1,h2,h3,h4⟩,h5⟩:=h.ok.defers.2
  have hD:D'=D:=by injection h1 with e1 _; injection e1 with e; exact e.symm
  subst hD
  have hh:=h.ok.heap
  refine ⟨hh.mem _ _ h2,{ E with M:=fun b=>if b=D' then none else E.M b },?_⟩
  have hav:C.avail D':=(hh.ext _ _ h2).resolve_left (by rw [h3]; simp)
  have hlE:E.leC { E with M:=fun b=>if b=D' then none else E.M b }:=⟨fun b o hb hc=>by
      show (if b=D' then none else E.M b)=some o
      rw [if_neg (fun e=>by rw [e,h2] at hb; cases hb; cases hc)]; exact hb,fun _ _ h=>h,fun _ _ h=>h,rfl⟩
  have hok:=hh.putL (C2:=C) (E2:={ E with M:=fun b=>if b=D' then none else E.M b }) (o' := .deferred none) (m:=none) h2 rfl (.inl rfl) rfl rfl rfl rfl rfl rfl (fun _ h=>h)
    (fun b hb=>by rw [World.putObj_heap_other (fun e=>hb (by rw [e]; exact hav))]; exact hh.pres b hb)
    ⟨fun b o hb=>by
      show (if b=D' then none else E.M b)=some o
      rw [if_neg (fun e=>by rw [e,h3] at hb; cases hb)]; exact hh.le.M b o hb,hh.le.blk,hh.le.hdr,hh.le.fns⟩
    (fun b o hb=>by
      replace hb:(if b=D' then none else E.M b)=some o:=hb
      split at hb
      · cases hb
      · exact hh.ext b o hb)
  have key:∀ (l:List Deferred),(∀ d' ∈ l,d' ≠ ({ target := .collected D',args := #[] }:Deferred))->DefL C.E0 E l->DefL C.E0 { E with M:=fun b=>if b=D' then none else E.M b } l:=by
    intro l
    induction l with
    | nil=>intro _ _; trivial
    | cons d r ih =>
      rintro hne ⟨⟨D2,g1,g2,g3,g4⟩,g5⟩
      refine ⟨⟨D2,g1,?_,g3,g4⟩,ih (fun d' hd'=>hne d' (List.mem_cons_of_mem _ hd')) g5⟩
      show (if D2=D' then none else E.M D2)=_
      rw [if_neg (fun e=>hne d List.mem_cons_self (by rw [g1,e]))]; exact g2
  refine ⟨⟨hok,fun t=>(h.ok.tm t).monoC hlE,⟨fun hd => ?_,key ds (fun d' hd'=>by rw [← h1]; exact fun e=>h4 d' hd' (by rw [e])) h5⟩,h.ok.size⟩,fun j hj=>h.fresh j hj⟩
  have:=h.ok.defers.1 hd
  cases this
theorem leaves_marks {C:Ctx} {P:Program} {nt:Nat} {st:ASt} {fn:Func} {tmps:Array Value} {R:Ending->World->Prop} (fin:∀ E w,Sat C E nt st w { tmps:=tmps,defers:=[] } -> LeavesInM Fence.wide 0 P fn tmps R [] .returning w) :
  ∀ (ds:List Deferred) (E:Env) (w:World),Sat C E nt st w { tmps:=tmps,defers:=ds } -> LeavesInM Fence.wide 0 P fn tmps R ds .returning w:=by
 intro ds
 induction ds with
 | nil=>intro E w h; exact fin E w h
 | cons d r ih =>
  intro E w h
  obtain ⟨⟨D,h1,_⟩,_⟩:=h.ok.defers.2
  subst h1
  obtain ⟨hD,E',h'⟩:=h.take
  exact ⟨by simp,.inl ⟨D,_,rfl,run_takeDeferred hD,ih E' _ h'⟩⟩
theorem callsIn_marks {P:Program} {f:FuncId} {fn:Func} {c:Code} (hf:P.funcs[f]? = some fn) (hb:fn.body=some c) {args:Array Value} {w:World} {R:Ending->World->Prop}
  (h:c.wpIn Fence.wide 0 P (bodyPostM Fence.wide 0 P fn R) { tmps:=args ++ Array.replicate (fn.ntmps - args.size) undef,defers:=[] } w):Calls P f args w R :=
 (callsIn_wide (n:=0)).1 (callsIn_of_wp_marks (F:=Fence.wide) (n:=0) hf hb trivial h)
end Go.Ab
namespace Go.Ab
open Go Go.RowKit
def resVal (T:Tab) (st:ASt):ResultVar->Option (Prop × AV)
 | .tmp t=>some (True,look st.tm t)
 | .cell t ty=>evLoad T (Heap.of st.hp) ty (look st.tm t)
def resVals (T:Tab) (st:ASt):List ResultVar->Option (Prop × List AV)
 | []=>some (True,[])
 | r :: rs =>
  match resVal T st r,resVals T st rs with
  | some (q,v),some (q',vs)=>some (q/\q',v :: vs)
  | _,_=>none
def retAV:List AV->AV
 | [v]=>v
 | vs => .tup vs
def retQ (T:Tab) (rs:List ResultVar) (st:ASt) (res:AV) (bs:List Nat):Prop :=
 match resVals T st rs with
 | some (q,vs)=>q/\(coeV (Heap.of st.hp) [] (retAV vs) res).1/\(coeV (Heap.of st.hp) [] (retAV vs) res).2.all (fun b=>bs.contains b)=true/\noDup bs=true ∧
   bs.all (fun b=>match Heap.of st.hp b with | some (.vec _ _ _ _)=>true | _=>false)=true
 | none=>False
def RetK (T:Tab) (rs:List ResultVar) (res:AV):AX->ASt->Prop
 | .exit _,_=>False
 | _,st => ∃ bs,retQ T rs st res bs
def argsTm:List AV->Nat->List (Nat × AV)
 | [],_=>[]
 | v :: r,i=>(i,v) :: argsTm r (i + 1)
theorem look_args:∀ (l:List AV) (i t:Nat),look (argsTm l i) t=if i<=t then l.getD (t - i) .any else .any:=by
 intro l
 induction l with
 | nil=>intro i t; simp [argsTm,look]
 | cons v r ih =>
  intro i t
  simp only [argsTm,look]
  by_cases e:i=t
  ·subst e; simp
  ·rw [if_neg e,ih]
   by_cases h:i<=t
   ·rw [if_pos h,if_pos (by omega)]
    have:t - i=(t - (i + 1)) + 1:=by omega
    rw [this,List.getD_cons_succ]
   ·rw [if_neg h,if_neg (by omega)]
section
variable {C:Ctx} {E:Env} {H:Heap} {w:World} {T:Tab}
theorem loadAt_addr {P:Program} {t:TypeId} {z v:Value} (h:(Instr.loadAt t z).run P w = .ok v w):(do loadVar t (← asAddr z):Sem Value).run P w = .ok v w:=by
 unfold Instr.loadAt Instr.sureAddr at h
 cases z <;> simp only [Sem.run_bind,run_stuck,Result.andThen_halt] at h <;> try (cases h; done)
 rename_i ad
 cases ad with
 | none=>simp only [run_stuck,Result.andThen_halt] at h; cases h
 | some ad=>exact h
def resRun (tmps:Array Value):ResultVar->Sem Value
 | .tmp t=>pure (tmps.getD t undef)
 | .cell x t=>do loadVar t (← asAddr (tmps.getD x undef))
theorem resVals_run (hT:Tab.ok C.P T) {nt:Nat} {st:ASt} {a:Act} (hs:Sat C E nt st w a):∀ (rs:List ResultVar) (q:Prop) (vs:List AV),resVals T st rs=some (q,vs)->q →
  ∃ us,(rs.mapM (resRun a.tmps)).run C.P w = .ok us w/\us.length=vs.length /\ ∀ k,Rel E true (vs.getD k .any) (us.getD k undef):=by
 intro rs
 induction rs with
 | nil =>
  intro q vs h _
  simp only [resVals,Option.some.injEq,Prod.mk.injEq] at h
  rw [← h.2]
  exact ⟨[],rfl,rfl,fun k=>by simp; exact .any _⟩
 | cons r rs ih =>
  intro q vs h hq
  simp only [resVals] at h
  split at h
  ·rename_i q1 v q2 vs' e1 e2
   cases h
   obtain ⟨us,h1,h2,h3⟩:=ih q2 vs' e2 hq.2
   have hr:∃ u,(resRun a.tmps r).run C.P w = .ok u w/\Rel E true v u:=by
    cases r with
    | tmp t =>
     simp only [resVal,Option.some.injEq,Prod.mk.injEq] at e1
     refine ⟨_,rfl,?_⟩
     rw [← e1.2]
     exact hs.ok.tm t
    | cell x t =>
     obtain ⟨u,hu,hr⟩:=evLoad_run hT hs.ok.heap (hs.ok.tm x) (fun _ _ h=>h) e1 hq.1
     exact ⟨u,loadAt_addr hu,hr⟩
   obtain ⟨u,hu,hr⟩:=hr
   refine ⟨u :: us,?_,by simp [h2],fun k => ?_⟩
   ·rw [List.mapM_cons]
    simp only [Sem.run_bind,hu,Result.andThen_ok,h1,Sem.run_pure]
   ·cases k with
    | zero=>exact hr
    | succ k=>simpa using h3 k
  ·cases h
theorem results_run {P:Program} {fn:Func} {tmps:Array Value} {us:List Value} (h:(fn.results.toList.mapM (resRun tmps)).run P w = .ok us w) :
  (results fn tmps).run P w = .ok (if h:us.length=1 then us[0] else .tuple us.toArray) w:=by
 have hm:(fn.results.mapM (resRun tmps)).run P w = .ok us.toArray w:=by
  rw [← Array.toArray_toList (xs:=fn.results),List.mapM_toArray]
  simp only [Sem.run_map,h,Result.andThen_ok]
 have he:results fn tmps=(do let vs ← fn.results.mapM (resRun tmps); pure (if h:vs.size=1 then vs[0] else .tuple vs)):=by
  unfold results
  congr 1
 rw [he]
 simp only [Sem.run_bind,hm,Result.andThen_ok,Sem.run_pure]
 simp
theorem triple_of {P:Program} {f:FuncId} {fn:Func} {c:Code} (hf:P.funcs[f]? = some fn) (hb:fn.body=some c) (hcall:Callable P f) (hT:Tab.ok P T) (s:CallSpec) (hin:s.hin = []) (hout:s.hout = [])
  (hargs:idsL s.args = []) (hres:fullV s.res=true) (hn:s.args.length<=fn.ntmps) (hfn:∀ E E':Env,E'.M=E.M->E'.fns=E.fns->s.fnok E->s.fnok E')
  (body:s.pre -> ∀ C:Ctx,C.P=P/\C.ro=none/\C.df=true->s.fnok C.E0->(∀ j,C.E0.blk j=none/\C.E0.hdr j=none)->SWP C fn.ntmps c (RetK T fn.results.toList s.res) ⟨argsTm s.args 0,[],0⟩):Triple P f s:=by
 refine ⟨hcall,fun hpre E w vs hfnok hok hlen hrel _ => ?_⟩
 let E0:Env:={ E with blk:=fun _=>none,hdr:=fun _=>none }
 let C:Ctx:={ calleeCtx P E0 w [] with df:=true }
 have hok0:HeapOK C E0 (Heap.of []) w:=⟨rfl,rfl,rfl,Nat.le_refl _,fun _ _=>rfl,fun b o h=>hok.mem b o h,Env.le.refl _,fun b o h => .inl h,(fun i ob h=>by cases h),(fun i j k _ h=>absurd rfl h)⟩
 have htm:∀ t,Rel E0 true (look (argsTm s.args 0) t) ((vs.toArray ++ Array.replicate (fn.ntmps - vs.toArray.size) undef).getD t undef):=by
  intro t
  rw [look_args,if_pos (Nat.zero_le _),Nat.sub_zero]
  rcases Nat.lt_or_ge t vs.length with ht | ht
  ·have h1:(vs.toArray ++ Array.replicate (fn.ntmps - vs.toArray.size) undef).getD t undef=vs.getD t undef:=by
    simp only [Array.getD_eq_getD_getElem?,List.getD_eq_getElem?_getD]
    rw [Array.getElem?_append_left (by simpa using ht)]
    simp
   rw [h1]
   exact Rel.trim (E:=E) (F:=E0) (fun _ _ h=>h) rfl (hrel t) (fun _=>idsL_get hargs t)
  ·rw [List.getD_eq_getElem?_getD,List.getElem?_eq_none (by omega)]
   exact .any _
 have hsat:Sat C E0 fn.ntmps ⟨argsTm s.args 0,[],0⟩ w { tmps:=vs.toArray ++ Array.replicate (fn.ntmps - vs.toArray.size) undef,defers:=[] } :=
  ⟨⟨hok0,htm,⟨fun _=>rfl,trivial⟩,by simp; omega⟩,fun j _=>⟨rfl,rfl⟩⟩
 have hsw:=body hpre C ⟨rfl,rfl,rfl⟩ (hfn E E0 rfl rfl hfnok) (fun j=>⟨rfl,rfl⟩) E0 w _ hsat
 refine callsIn_marks hf hb (wpIn_mono (F:=Fence.wide) hsw ?_)
 rintro e a0 w0' ⟨x,E0',st',rfl,hs0,hk⟩
 have fin:∀ (E':Env) (w':World) (a':Act),Sat C E' fn.ntmps st' w' a'->(∃ bs,retQ T fn.results.toList st' s.res bs) -> ∃ v,(results fn a'.tmps).run P w' = .ok v w'/\CallPost P s E w (.returned v) w':=by
  rintro E' w' a' hs' ⟨bs,hq⟩
  unfold retQ at hq
  split at hq
  ·rename_i q rvs hrv
   obtain ⟨hq0,hco,hcb,hnd,hbv⟩:=hq
   obtain ⟨us,hus,hul,hur⟩:=resVals_run (C:=C) hT hs' _ q rvs hrv hq0
   have hrun:=results_run (P:=P) hus
   refine ⟨_,hrun,?_⟩
   have hrv':Rel E' true (retAV rvs) (if h:us.length=1 then us[0] else .tuple us.toArray):=by
    cases rvs with
    | nil =>
     have:us = []:=List.eq_nil_of_length_eq_zero hul
     subst this
     exact .tup rfl (fun k=>hur k)
    | cons v r =>
     cases r with
     | nil =>
      have hul1:us.length=1:=hul
      rw [dif_pos hul1]
      have:=hur 0
      simp only [List.getD_cons_zero] at this
      rw [List.getD_eq_getElem?_getD,List.getElem?_eq_getElem (by omega)] at this
      exact this
     | cons v2 r =>
      have hne:¬ us.length=1:=by rw [hul]; simp
      rw [dif_neg hne]
      exact .tup (cs:=v :: v2 :: r) hul hur
   simp only [List.all_eq_true,List.contains_eq_mem,decide_eq_true_eq] at hcb hbv
   have hvec:∀ b ∈ bs,∃ t sz n f,Heap.of st'.hp b=some (.vec t sz n f):=by
    intro b hb
    have:=hbv b hb
    split at this
    ·rename_i t sz n f e; exact ⟨t,sz,n,f,e⟩
    ·cases this
   obtain ⟨E1,le1,hb1,hh1,hok1,hrel1⟩:=HeapOK.freezeAll bs E' _ hs'.ok.heap hnd hvec
   let F:Env:={ E with M:=E1.M }
   have lF:E.le F:=⟨fun b o h=>hok1.le.M b o h,fun _ _ h=>h,fun _ _ h=>h,rfl⟩
   have hfns:F.fns=E'.fns:=by
    show E.fns=E'.fns
    exact (hs'.ok.heap.le.fns.symm:E0.fns=E'.fns)
   have he:EntEnv (Heap.of st'.hp) [] bs E' F:=by
    refine ⟨fun b o h=>le1.M b o h,hfns,(fun c b h=>by cases h),(fun c h=>by cases h),fun b hb t sz n f hL hd hh ob => ?_⟩
    have h0:=hrel1 b hb t sz n f hL hd hh false
    have h1:=Rel.trim (E:=E1) (F:=F) (fun _ _ h=>h) (by rw [hfns]; exact le1.fns.symm) h0 (fun e=>by cases e)
    cases ob with
    | false=>exact h1
    | true=>exact h1.up
   have hresF:=coeV_rel he rfl hco (fun b hb=>hcb b hb) hres hrv'
   refine ⟨_,F,rfl,?_,hresF,fun j _=>⟨rfl,rfl⟩⟩
   rw [hin,hout]
   refine ⟨hok1.os,hok1.tape,hok1.output,hok1.size,fun b hb=>hok1.pres b ?_,fun b o h=>hok1.mem b o h,lF,fun b o h => ?_,(fun i ob h=>by cases h),(fun i j k _ h=>absurd rfl h)⟩
   ·rintro (h | ⟨q,hq,_⟩)
    ·exact hb (.inl h)
    ·cases hq
   ·rcases hok1.ext b o h with h | h
    ·exact .inl h
    ·rcases h with h | ⟨q,hq,_⟩
     ·exact .inr (.inl h)
     ·cases hq
  ·exact hq.elim
 have go:(∃ bs,retQ T fn.results.toList st' s.res bs)->LeavesInM Fence.wide 0 P fn a0.tmps (CallPost P s E w) a0.defers .returning w0':=fun hq =>
  leaves_marks (C:=C) (fun E1 w1 h1=>fin E1 w1 { tmps:=a0.tmps,defers:=[] } h1 hq) a0.defers E0' w0' hs0
 cases x with
 | normal=>exact go hk
 | ret=>exact go hk
 | exit id=>exact hk.elim
end
end Go.Ab
namespace Go.Ab
open Go Go.RowKit
abbrev iv (n:Int):AV := .lit (.int .i64 n)
abbrev bv (b:Bool):AV := .lit (.bool b)
abbrev nilN:List Nat:=[]
abbrev nilP:List PS:=[]
abbrev nilA:List AV:=[]
abbrev nilv:AV := .lit (.slice none 0 0)
structure LoopAnn where
 X:Type
 S:X->ASt
 I:X->Prop
 mu:X->Nat
 x0:X
 nx:X->X
structure Hint where
 X:Type
 M:X->List (Nat × AV)
 H:X->List (Nat × OB):=fun _=>[]
 I:X->Prop:=fun _=>True
 mu:X->Nat
 x0:X
 nx:X->X
def Hint.ann (h:Hint) (kt:List (Nat × AV)) (kh:List (Nat × OB)) (n:Nat):LoopAnn where
 X:=h.X
 S:=fun x=>⟨kt ++ h.M x,kh ++ h.H x,n⟩
 I:=h.I
 mu:=h.mu
 x0:=h.x0
 nx:=h.nx
def plainV:AV->Bool
 | .cnd _ _=>false
 | v=>(ids v).isEmpty
def plainB:OB->Bool
 | .cells _ cs=>(idsL cs).isEmpty && noAnyL cs
 | .vec _ _ _ _=>true
 | .mp _ _=>true
 | _=>false
theorem coeZ_refl (v:AV):coeZ v v:=by
 cases v <;> first | exact ⟨rfl,rfl,fun _ _=>rfl⟩ | (unfold coeZ; split <;> simp_all)
theorem coeZL_refl:∀ vs:List AV,coeZL vs vs
 | []=>trivial
 | v :: vs=>⟨coeZ_refl v,coeZL_refl vs⟩
theorem coeC_refl (L:Nat->Option OB) (mp:List (Nat × Src)) {v:AV} (h:ids v = []):(coeC L mp v v).1/\(coeC L mp v v).2 = []:=by
 cases v <;> simp [coeC,ids] at h ⊢ <;> first | exact h | (constructor <;> rfl) | exact fun _=>coeZL_refl _ | skip
theorem coeCL_refl (L:Nat->Option OB) (mp:List (Nat × Src)):∀ {vs:List AV},idsL vs = []->(coeCL L mp vs vs).1/\(coeCL L mp vs vs).2 = []:=by
 intro vs
 induction vs with
 | nil=>intro _; exact ⟨trivial,rfl⟩
 | cons v vs ih =>
  intro h
  simp only [idsL,List.append_eq_nil_iff] at h
  obtain ⟨h1,h2⟩:=coeC_refl L mp h.1
  obtain ⟨h3,h4⟩:=ih h.2
  exact ⟨⟨h1,h3⟩,by simp only [coeCL,h2,h4]; rfl⟩
theorem coeS_refl (L:Nat->Option OB) (mp:List (Nat × Src)) {v:AV} (h:ids v = []):(coeS L mp v v).1/\(coeS L mp v v).2 = []:=by
 cases v with
 | agg cs=>exact coeCL_refl L mp (by simpa [ids] using h)
 | _=>exact coeC_refl L mp h
theorem coeSL_refl (L:Nat->Option OB) (mp:List (Nat × Src)):∀ {vs:List AV},idsL vs = []->(coeSL L mp vs vs).1/\(coeSL L mp vs vs).2 = []:=by
 intro vs
 induction vs with
 | nil=>intro _; exact ⟨trivial,rfl⟩
 | cons v vs ih =>
  intro h
  simp only [idsL,List.append_eq_nil_iff] at h
  obtain ⟨h1,h2⟩:=coeS_refl L mp h.1
  obtain ⟨h3,h4⟩:=ih h.2
  exact ⟨⟨h1,h3⟩,by simp only [coeSL,h2,h4]; rfl⟩
theorem coeV_refl (L:Nat->Option OB) (mp:List (Nat × Src)) {v:AV} (h:plainV v=true):(coeV L mp v v).1/\(coeV L mp v v).2 = []:=by
 cases v with
 | cnd g v=>cases h
 | tup vs=>exact coeSL_refl L mp (by simpa [plainV,ids] using h)
 | clo f vs =>
  obtain ⟨h1,h2⟩:=coeSL_refl L mp (vs:=vs) (by simpa [plainV,ids] using h)
  exact ⟨⟨rfl,h1⟩,h2⟩
 | _=>exact coeS_refl L mp (by simpa [plainV] using h)
theorem coeB_refl (L:Nat->Option OB) (mp:List (Nat × Src)) {v:OB} (h:plainB v=true):(coeB L mp v v).1/\(coeB L mp v v).2 = []:=by
 cases v with
 | cells t cs =>
  simp only [plainB,Bool.and_eq_true,List.isEmpty_iff] at h
  obtain ⟨h1,h2⟩:=coeCL_refl L mp h.1
  exact ⟨⟨rfl,h1,h.2⟩,h2⟩
 | fz=>cases h
 | vec=>exact ⟨⟨rfl,rfl,rfl,fun _ _=>rfl⟩,rfl⟩
 | mp=>exact ⟨⟨rfl,rfl⟩,rfl⟩
 | vecx=>cases h
def coeTK (L:Nat->Option OB) (mp:List (Nat × Src)) (kt:List Nat) (tm:Nat->AV):List (Nat × AV)->Prop × List Nat
 | []=>(True,[])
 | p :: r =>
  if kt.contains p.1 then ((tm p.1=p.2/\plainV p.2=true)/\(coeTK L mp kt tm r).1,(coeTK L mp kt tm r).2)
  else ((coeV L mp (tm p.1) p.2).1/\(coeTK L mp kt tm r).1,(coeV L mp (tm p.1) p.2).2 ++ (coeTK L mp kt tm r).2)
def coeHK (L:Nat->Option OB) (mp:List (Nat × Src)) (kh:List Nat):List (Nat × OB)->Prop × List Nat
 | []=>(True,[])
 | p :: r =>
  match srcOfId mp p.1 with
  | some (.same b) =>
   match L b with
   | some ob =>
    if kh.contains p.1 then ((ob=p.2/\plainB p.2=true)/\(coeHK L mp kh r).1,(coeHK L mp kh r).2)
    else ((coeB L mp ob p.2).1/\(coeHK L mp kh r).1,(coeB L mp ob p.2).2 ++ (coeHK L mp kh r).2)
   | none=>(False,[])
  | some .nil =>
   match p.2 with
   | .vec _ _ n _=>(n=0/\(coeHK L mp kh r).1,(coeHK L mp kh r).2)
   | .vecx _ _ n _ _ _=>(n=0/\(coeHK L mp kh r).1,(coeHK L mp kh r).2)
   | _=>(False,[])
  | none=>(False,[])
theorem coeTK_T {L:Nat->Option OB} {mp:List (Nat × Src)} {kt:List Nat} {tm:Nat->AV}:∀ {l:List (Nat × AV)},(coeTK L mp kt tm l).1->(coeT L mp tm l).1/\(coeT L mp tm l).2=(coeTK L mp kt tm l).2:=by
 intro l
 induction l with
 | nil=>intro _; exact ⟨trivial,rfl⟩
 | cons p r ih =>
  intro h
  simp only [coeTK] at h ⊢
  simp only [coeT]
  by_cases e:kt.contains p.1=true
  ·rw [if_pos e] at h ⊢
   obtain ⟨⟨h1,h2⟩,h3⟩:=h
   obtain ⟨h4,h5⟩:=coeV_refl L mp h2
   obtain ⟨h6,h7⟩:=ih h3
   rw [h1]
   exact ⟨⟨h4,h6⟩,by rw [h5,h7]; rfl⟩
  ·rw [if_neg e] at h ⊢
   obtain ⟨h6,h7⟩:=ih h.2
   exact ⟨⟨h.1,h6⟩,by rw [h7]⟩
theorem coeHK_H {L:Nat->Option OB} {mp:List (Nat × Src)} {kh:List Nat}:∀ {l:List (Nat × OB)},(coeHK L mp kh l).1->(coeH L mp l).1/\(coeH L mp l).2=(coeHK L mp kh l).2:=by
 intro l
 induction l with
 | nil=>intro _; exact ⟨trivial,rfl⟩
 | cons p r ih =>
  intro h
  simp only [coeHK] at h ⊢
  simp only [coeH]
  split at h
  ·rename_i b hs
   split at h
   ·rename_i ob hL
    simp only [hs,hL]
    by_cases e:kh.contains p.1=true
    ·rw [if_pos e] at h ⊢
     obtain ⟨⟨h1,h2⟩,h3⟩:=h
     obtain ⟨h4,h5⟩:=coeB_refl L mp h2
     obtain ⟨h6,h7⟩:=ih h3
     rw [h1]
     exact ⟨⟨h4,h6⟩,by rw [h5,h7]; rfl⟩
    ·rw [if_neg e] at h ⊢
     obtain ⟨h6,h7⟩:=ih h.2
     exact ⟨⟨h.1,h6⟩,by rw [h7]⟩
   ·exact h.elim
  ·rename_i hs
   split at h
   ·rename_i hp
    simp only [hs,hp]
    obtain ⟨h1,h2⟩:=h
    obtain ⟨h6,h7⟩:=ih h2
    exact ⟨⟨h1,h6⟩,h7⟩
   ·rename_i hp
    simp only [hs,hp]
    obtain ⟨h1,h2⟩:=h
    obtain ⟨h6,h7⟩:=ih h2
    exact ⟨⟨h1,h6⟩,h7⟩
   ·exact h.elim
  ·exact h.elim
def entK (st st2:ASt) (bs:List Nat) (mp:List (Nat × Src)) (kt kh:List Nat):Prop :=
 (coeTK (Heap.of st.hp) mp kt (look st.tm) st2.tm).1/\(coeHK (Heap.of st.hp) mp kh st2.hp).1 ∧
 ((coeTK (Heap.of st.hp) mp kt (look st.tm) st2.tm).2 ++ (coeHK (Heap.of st.hp) mp kh st2.hp).2).all (fun b=>bs.contains b)=true/\bs.all (fun b=>match Heap.of st.hp b with | some (.vec _ _ _ _)=>true | _=>false)=true
theorem entK_Q {st st2:ASt} {bs:List Nat} {mp:List (Nat × Src)} {kt kh:List Nat} (h:entK st st2 bs mp kt kh):entQ st st2 bs mp:=by
 obtain ⟨h1,h2,h3,h4⟩:=h
 obtain ⟨a1,a2⟩:=coeTK_T h1
 obtain ⟨b1,b2⟩:=coeHK_H h2
 exact ⟨a1,b1,by rw [a2,b2]; exact h3,h4⟩
section
variable {C:Ctx} {nt:Nat} {K:AX->ASt->Prop} {st:ASt}
theorem ent_q {st2:ASt} (hE0:∀ j,C.E0.blk j=none/\C.E0.hdr j=none) (bs:List Nat) (mp:List (Nat × Src)) (kt kh:List Nat) (q:Prop) (hb:entB 0 st2 bs mp=true) (he:entK st st2 bs mp kt kh=q) (hq:q):Ent C nt st st2 :=
 ent_of (fun j _=>hE0 j) bs mp hb (entK_Q (by rw [he]; exact hq))
theorem ret_q {T:Tab} {rs:List ResultVar} {res:AV} (bs:List Nat) (q:Prop) (he:retQ T rs st res bs=q) (hq:q):RetK T rs res .ret st:=⟨bs,by rw [he]; exact hq⟩
end
end Go.Ab
namespace Go.Ab
open Go Go.RowKit
def subP (b:Nat) (cs:List AV):AV->AV
 | .ptr c []=>if c=b then .rp cs else .ptr c []
 | v=>v
theorem look_sub (g:AV->AV) (hg:g .any = .any):∀ (l:List (Nat × AV)) (t:Nat),look (l.map fun p=>(p.1,g p.2)) t=g (look l t):=by
 intro l
 induction l with
 | nil=>intro t; exact hg.symm
 | cons p r ih =>
  intro t
  simp only [List.map_cons,look]
  split
  ·rfl
  ·exact ih t
theorem of_filter {l:List (Nat × OB)} {b i:Nat} {ob:OB} (h:Heap.of (l.filter fun p=>p.1 != b) i=some ob):(Heap.of l).put b none i=some ob:=by
 induction l with
 | nil=>cases h
 | cons p r ih =>
  unfold Heap.put at ih ⊢
  by_cases e:p.1=b
  ·rw [List.filter_cons_of_neg (by simp [e])] at h
   have h1:=ih h
   split at h1
   ·cases h1
   ·rename_i hi
    rw [if_neg hi,Heap.of_cons,if_neg (fun e'=>hi (by rw [← e',e]))]
    exact h1
  ·rw [List.filter_cons_of_pos (by simp [e]),Heap.of_cons] at h
   split at h
   ·rename_i e'
    rw [if_neg (fun e2=>e (by rw [e',e2])),Heap.of_cons,if_pos e']
    exact h
   ·rename_i e'
    have h1:=ih h
    split at h1
    ·cases h1
    ·rename_i hi
     rw [if_neg hi,Heap.of_cons,if_neg e']
     exact h1
section
variable {C:Ctx} {nt:Nat} {K:AX->ASt->Prop} {st:ASt}
theorem ent_fz (b:Nat) (t:TypeId) (cs:List AV) (st2:ASt) (hb:Heap.of st.hp b=some (.cells t cs)) (hc:cs.all capOK=true)
  (h2:(⟨st.tm.map (fun p=>(p.1,subP b cs p.2)),st.hp.filter (fun p=>p.1 != b),st.nx⟩:ASt)=st2):Ent C nt st st2:=by
 subst h2
 intro E w a hs
 obtain ⟨k,us,hk,hav,hM,hw,hr⟩:=hs.ok.heap.own b _ hb
 have le:=Env.le_freeze (o := .cells us.toArray t (0,0)) hM
 have hok:=hs.ok.heap.freeze b k _ (by show Heap.of st.hp b ≠ none; rw [hb]; simp) hk hav hM hw
 refine ⟨E.freeze k (.cells us.toArray t (0,0)),⟨⟨hok.drop (fun i ob hi=>of_filter hi),fun tt => ?_,⟨hs.ok.defers.1,hs.ok.defers.2.mono le⟩,hs.ok.size⟩,fun j hj=>hs.fresh j hj⟩⟩
 have h0:=hs.ok.tm tt
 simp only at h0 ⊢
 rw [look_sub (subP b cs) rfl]
 generalize look st.tm tt=v at h0
 generalize a.tmps.getD tt undef=u at h0
 unfold subP
 split
 ·rename_i c
  split
  ·rename_i e
   subst e
   cases h0 with
   | ptr _ _ hk' =>
    rw [hk] at hk'
    cases hk'
    refine .rp (us:=us) k 0 (fun j hj => ?_) (((Rel.agg (capOK_down hc hr)).mono le |> fun h => ?_))
    ·simp [mcell,frozen_self]
    ·generalize hz:us.toArray=z at h
     cases h with
     | agg h' =>
      rename_i us'
      have:us=us':=by simpa using hz
      rw [this]; exact h'
  ·exact h0.mono le
 ·exact h0.mono le
end
end Go.Ab
namespace Go.Ab
open Go Go.RowKit
def fnokOf (P:Program) (k:Nat) {ι:Type} (A:ι->List AV) (R:ι->AV):Env->Prop:=fun E => ∀ u,E.fns k u -> ∀ i,FnOK P E u (A i) (R i)
theorem FnOK.congr {P:Program} {E E':Env} (hM:E'.M=E.M) {u:Value} {A:List AV} {R:AV} (h:FnOK P E u A R):FnOK P E' u A R:=by
 obtain ⟨f,caps,hu,hc,hk⟩:=h
 exact ⟨f,caps,hu,hc,fun E2 w vs h1=>hk E2 w vs (fun b o hb=>h1 b o (by rw [hM]; exact hb))⟩
theorem fnokOf_congr {P:Program} {k:Nat} {ι:Type} {A:ι->List AV} {R:ι->AV}:∀ E E':Env,E'.M=E.M->E'.fns=E.fns->fnokOf P k A R E->fnokOf P k A R E' :=
 fun E E' hM hF h u hu i=>FnOK.congr hM (h u (by rw [← hF]; exact hu) i)
theorem fnok_clo {P:Program} {E:Env} {f:FuncId} {A:List AV} {R:AV} {caps:List AV} (s:CallSpec) (ht:Triple P f s) (hs:s.args=A ++ caps) (hpre:s.pre) (hfn:∀ E,s.fnok E) (hin:s.hin = []) (hout:s.hout = []) (hres:s.res=R)
  (hids:idsL caps = []) (hno:noFnL caps=true) {u:Value} (hu:Rel E true (.clo f caps) u):FnOK P E u A R:=by
 cases hu with
 | clo _ hl hk =>
  rename_i us
  refine ⟨f,us,rfl,ht.1,fun E2 w vs hM hmem hlen hvs => ?_⟩
  have hok:HeapOK (calleeCtx P E2 w s.hin) E2 (Heap.of s.hin) w:=by
   rw [hin]
   exact ⟨rfl,rfl,rfl,Nat.le_refl _,fun _ _=>rfl,hmem,Env.le.refl _,fun b o h => .inl h,(fun i ob h=>by cases h),fun i j k _ h=>absurd rfl h⟩
  have hcap:∀ k,Rel E2 true (caps.getD k .any) (us.getD k undef):=by
   intro k
   have h1:=Rel.trim (E:=E) (F:={ E2 with fns:=E.fns }) hM rfl (hk k) (fun _=>idsL_get hids k)
   exact h1.setFns E2.fns (fun _=>noFnL_get hno k)
  have hall:∀ k,Rel E2 true (s.args.getD k .any) ((vs ++ us).getD k undef):=by
   intro k
   rw [hs,getD_append_av,getD_append_value,hlen]
   split
   ·exact hvs k
   ·exact hcap _
  have:=ht.2 hpre E2 w (vs ++ us) (hfn _) hok (by rw [hs,List.length_append,List.length_append,hlen,hl]) hall (by rw [hout]; intro p hp; cases hp)
  refine this.mono ?_
  intro e w' h
  unfold CallPost at h ⊢
  rw [hin,hout,hres] at h
  exact h
theorem fnok_arg {P:Program} {E0:Env} {k:Nat} (j:Nat) {ι:Type} {A:ι->List AV} {R:ι->AV} {args vals:List AV} (huniq:∀ j',args[j']? = some (.fn k)->j'=j)
  (h:∀ E u,Rel E true (vals.getD j .any) u -> ∀ i,FnOK P E u (A i) (R i)) (E:Env) (us:List Value) (_:E0.le E) (_:us.length=args.length) (hr:∀ k,Rel E true (vals.getD k .any) (us.getD k undef)):fnokOf P k A R (E.setFns (fnsOf args us)):=by
 rintro u ⟨j',h1,h2⟩ i
 have:=huniq j' h1
 subst this
 have h3:=hr j'
 rw [List.getD_eq_getElem?_getD (l:=us),h2] at h3
 exact FnOK.congr rfl (h E u h3 i)
theorem FnOK.mono {P:Program} {E E':Env} (hM:∀ b o,E.M b=some o->E'.M b=some o) {u:Value} {A:List AV} {R:AV} (h:FnOK P E u A R):FnOK P E' u A R:=by
 obtain ⟨f,caps,hu,hc,hk⟩:=h
 exact ⟨f,caps,hu,hc,fun E2 w vs h1=>hk E2 w vs (fun b o hb=>h1 b o (hM b o hb))⟩
theorem fnok_pass {P:Program} {E0:Env} {k k':Nat} (j:Nat) {ι:Type} {A:ι->List AV} {R:ι->AV} {args vals:List AV} (huniq:∀ j',args[j']? = some (.fn k')->j'=j) (hv:vals.getD j .any = .fn k) (hfn:fnokOf P k A R E0)
  (E:Env) (us:List Value) (le:E0.le E) (_:us.length=args.length) (hr:∀ k,Rel E true (vals.getD k .any) (us.getD k undef)):fnokOf P k' A R (E.setFns (fnsOf args us)):=by
 rintro u ⟨j',h1,h2⟩ i
 have:=huniq j' h1
 subst this
 have h3:=hr j'
 rw [List.getD_eq_getElem?_getD (l:=us),h2,hv] at h3
 cases h3 with
 | fn _ h=>exact FnOK.congr (E:=E) rfl (FnOK.mono le.M (hfn u (by rw [← le.fns]; exact h) i))
end Go.Ab
namespace Go.Ab
open Go Go.RowKit
section
variable {C:Ctx} {nt:Nat} {K:AX->ASt->Prop} {st:ASt}
end
end Go.Ab
namespace Go.Ab
open Go Go.RowKit
theorem run_part_int {P:Program} {t:TypeId} {k:IntKind} (h:P.underlying t=some (.int k)) {xs:Array Value} {off:Nat} {v:Value} (hx:xs[off]? = some v) (w:World):(part t xs off).run P w = .ok v w:=by
 unfold part
 simp only [Sem.run_bind,Go.isAgg,run_underlying h,Result.andThen_ok,Sem.run_pure,Bool.false_eq_true,if_false,hx]
theorem eqFields_ints {P : Program} (w : World) (d : Nat) (a b : List Int) : ∀ (fs : List Field) (k : Nat), (∀ j f, fs[j]? = some f → f.offset = k + j ∧ f.name ≠ "_" ∧ P.underlying f.type = some (.int .i64)) → a.length = k + fs.length → b.length = k + fs.length →
  (Op.eqFields (d + 1) (a.map (Value.int .i64)).toArray (b.map (Value.int .i64)).toArray fs).run P w = .ok (decide (a.drop k=b.drop k)) w:=by
 intro fs
 induction fs with
 | nil =>
  intro k _ h1 h2
  rw [List.drop_of_length_le (by simp at h1; omega),List.drop_of_length_le (by simp at h2; omega)]
  simp [Op.eqFields]
 | cons f fs ih =>
  intro k hf h1 h2
  obtain ⟨ho,hn,hu⟩:=hf 0 f rfl
  simp only [List.length_cons] at h1 h2
  have ha:k < a.length:=by omega
  have hb:k < b.length:=by omega
  have hx:(a.map (Value.int .i64)).toArray[f.offset]? = some (.int .i64 a[k]):=by rw [ho]; simp [ha]
  have hy:(b.map (Value.int .i64)).toArray[f.offset]? = some (.int .i64 b[k]):=by rw [ho]; simp [hb]
  rw [Op.eqFields,if_pos hn]
  simp only [Sem.run_bind,run_part_int hu hx,run_part_int hu hy,Result.andThen_ok,run_equalIn_int w d f.type .i64 .i64 _ _ hu]
  have key:(a.drop k=b.drop k) ↔ (a[k]=b[k]/\a.drop (k + 1)=b.drop (k + 1)):=by
   rw [List.drop_eq_getElem_cons ha,List.drop_eq_getElem_cons hb,List.cons.injEq]
  by_cases e:a[k]=b[k]
  ·have e1:(a[k] == b[k])=true:=by simpa using e
   rw [e1]
   simp only [Bool.not_true,Bool.false_eq_true,if_false]
   rw [ih (k + 1) (fun j g hj=>by have:=hf (j + 1) g (by simpa using hj); exact ⟨by omega,this.2⟩) (by omega) (by omega)]
   rw [decide_eq_decide.2 (key.trans (and_iff_right e))]
  ·have e1:(a[k] == b[k])=false:=by simpa using e
   rw [e1,decide_eq_false (fun h=>e (key.1 h).1)]
   simp
def isI64:Option TypeDesc->Bool
 | some (.int .i64)=>true
 | _=>false
def fldsOK (P:Program):Nat->List Field->Bool
 | _,[]=>true
 | k, f :: fs => decide (f.offset = k) && (decide (f.name ≠ "_") && (isI64 (P.underlying f.type) && fldsOK P (k + 1) fs))
theorem flds_ok {P : Program} : ∀ (fs : List Field) (k : Nat), fldsOK P k fs = true → ∀ j f, fs[j]? = some f → f.offset = k + j ∧ f.name ≠ "_" ∧ P.underlying f.type = some (.int .i64) := by
 intro fs
 induction fs with
 | nil=>intro k _ j f h; simp at h
 | cons g fs ih =>
  intro k h j f hj
  simp only [fldsOK,Bool.and_eq_true,decide_eq_true_eq] at h
  obtain ⟨h1,h2,h3,h4⟩:=h
  cases j with
  | zero =>
   simp only [List.getElem?_cons_zero,Option.some.injEq] at hj
   subst hj
   refine ⟨by omega,h2,?_⟩
   unfold isI64 at h3
   split at h3
   ·rename_i e; exact e
   ·cases h3
  | succ j =>
   have:=ih (k + 1) h4 j f (by simpa using hj)
   exact ⟨by omega,this.2⟩
theorem flat_ints {P:Program} {t:TypeId} {n:Nat} (hl:(P.fieldsOf t).toList.length=n) (hu:P.underlying t=some (.struct (P.fieldsOf t))) (hp:P.stoodInHeld t=false) (hg:P.eqGuardType P.depth t=false) (hfs:fldsOK P 0 (P.fieldsOf t).toList=true):FlatEq P t n:=by
 refine ⟨hg,fun w a b h1 h2 => ?_⟩
 rw [run_equalIn_agg w 9999 t _ _ hu hp,eqFields_ints w 9998 a b _ 0 (flds_ok _ 0 hfs) (by omega) (by omega)]
 simp
theorem flat_nest {P:Program} {t s:TypeId} {m n:Nat} {f0 f1:Field} (hf:(P.fieldsOf t).toList = [f0,f1]) (hu:P.underlying t=some (.struct (P.fieldsOf t))) (hp:P.stoodInHeld t=false) (hg:P.eqGuardType P.depth t=false)
  (h0 : f0.type = s) (o0 : f0.offset = 0) (n0 : f0.name ≠ "_") (o1 : f1.offset = m) (n1 : f1.name ≠ "_") (u1 : P.underlying f1.type = some (.int .i64)) (hn : n = m + 1)
  (ls:(P.fieldsOf s).toList.length=m) (us:P.underlying s=some (.struct (P.fieldsOf s))) (ps:P.stoodInHeld s=false) (fs:fldsOK P 0 (P.fieldsOf s).toList=true) (hs:∃ i,P.info? s=some i/\i.size=m):FlatEq P t n:=by
 refine ⟨hg,fun w a b h1 h2 => ?_⟩
 subst h0; subst hn
 have hz:(sizeOf f0.type).run P w = .ok m w:=by
  obtain ⟨i,hi,e⟩:=hs
  simp [Go.sizeOf,typeInfo,hi,e]
 have hpart:∀ l:List Int,l.length=m + 1->(part f0.type (l.map (Value.int .i64)).toArray f0.offset).run P w = .ok (.agg ((l.take m).map (Value.int .i64)).toArray) w:=by
  intro l hl
  unfold part
  simp only [Sem.run_bind,Go.isAgg,run_underlying us,Result.andThen_ok,Sem.run_pure,if_true,hz,o0]
  congr 2
  simp [List.map_take]
 have hx:∀ l:List Int,∀ hl:l.length=m + 1,(l.map (Value.int .i64)).toArray[f1.offset]? = some (.int .i64 (l[m]'(by omega))):=by
  intro l hl; rw [o1]; simp [hl]
 rw [run_equalIn_agg w 9999 t _ _ hu hp,hf,Op.eqFields,if_pos n0]
 simp only [Sem.run_bind,hpart a h1,hpart b h2,Result.andThen_ok]
 rw [run_equalIn_agg w 9998 f0.type _ _ us ps,eqFields_ints w 9997 (a.take m) (b.take m) _ 0 (flds_ok _ 0 fs) (by rw [List.length_take]; omega) (by rw [List.length_take]; omega)]
 simp only [List.drop_zero,Result.andThen_ok]
 have key:a=b ↔ a.take m=b.take m/\a[m]'(by omega)=b[m]'(by omega):=by
  constructor
  ·intro h; subst h; exact ⟨rfl,rfl⟩
  ·rintro ⟨e1,e2⟩
   have ea:a=a.take m ++ [a[m]'(by omega)]:=by
    rw [List.take_append_getElem,List.take_of_length_le (by omega)]
   have eb:b=b.take m ++ [b[m]'(by omega)]:=by
    rw [List.take_append_getElem,List.take_of_length_le (by omega)]
   exact ea.trans ((by rw [e1,e2]:a.take m ++ [a[m]'(by omega)]=b.take m ++ [b[m]'(by omega)]).trans eb.symm)
 by_cases e:a.take m=b.take m
 ·rw [decide_eq_true e]
  simp only [Bool.not_true,Bool.false_eq_true,if_false]
  rw [Op.eqFields,if_pos n1]
  simp only [Sem.run_bind,run_part_int u1 (hx a h1),run_part_int u1 (hx b h2),Result.andThen_ok,run_equalIn_int w 9998 f1.type .i64 .i64 _ _ u1]
  by_cases e2:a[m]'(by omega)=b[m]'(by omega)
  ·have e3:(a[m]'(by omega) == b[m]'(by omega))=true:=by simpa using e2
   rw [e3,decide_eq_true (key.2 ⟨e,e2⟩)]
   simp [Op.eqFields]
  ·have e3:(a[m]'(by omega) == b[m]'(by omega))=false:=by simpa using e2
   rw [e3,decide_eq_false (fun h=>e2 (key.1 h).2)]
   simp
 ·rw [decide_eq_false e,decide_eq_false (fun h=>e (key.1 h).1)]
  simp
def nestB (P:Program) (s:TypeId) (m:Nat):List Field->Bool
 | [f0, f1] => decide (f0.type = s) && (decide (f0.offset = 0) && (decide (f0.name ≠ "_") && (decide (f1.offset = m) && (decide (f1.name ≠ "_") && isI64 (P.underlying f1.type)))))
 | _=>false
theorem flat_nested {P:Program} {t:TypeId} (s:TypeId) (m:Nat) {n:Nat} (hf:nestB P s m (P.fieldsOf t).toList=true) (hu:P.underlying t=some (.struct (P.fieldsOf t))) (hp:P.stoodInHeld t=false) (hg:P.eqGuardType P.depth t=false) (hn:n=m + 1)
  (ls:(P.fieldsOf s).toList.length=m) (us:P.underlying s=some (.struct (P.fieldsOf s))) (ps:P.stoodInHeld s=false) (fs:fldsOK P 0 (P.fieldsOf s).toList=true) (hs:∃ i,P.info? s=some i/\i.size=m):FlatEq P t n:=by
 match e:(P.fieldsOf t).toList,hf with
 | [f0,f1],hf =>
  simp only [nestB,Bool.and_eq_true,decide_eq_true_eq] at hf
  obtain ⟨a,b,c,d,e1,e2⟩:=hf
  refine flat_nest e hu hp hg a b c d e1 ?_ hn ls us ps fs hs
  unfold isI64 at e2
  split at e2
  ·rename_i h; exact h
  ·cases e2
 | [],hf=>cases hf
 | [_],hf=>cases hf
 | _ :: _ :: _ :: _,hf=>cases hf
end Go.Ab
namespace Go.Ab
open Go Go.RowKit Go.Proofs
def ti2:TI:=⟨.int .i64,1,8,[.lit (Value.int .i64 0)],false⟩
theorem tok2:TOK Try.prog 2 ti2:=⟨⟨Try.t2,Value.int .i64 0,by kernel_rfl,rfl,rfl,rfl,rfl,fun _ _=>(.cons (.lit _) rfl .nil)⟩,Try.underlying2,fun _=>rfl,(by intro h; cases h)⟩
def ti3:TI:=⟨.int .i64,1,8,[.lit (Value.int .i64 0)],false⟩
theorem tok3:TOK Try.prog 3 ti3:=⟨⟨Try.t3,Value.int .i64 0,by kernel_rfl,rfl,rfl,rfl,rfl,fun _ _=>(.cons (.lit _) rfl .nil)⟩,Try.underlying3,fun _=>rfl,(by intro h; cases h)⟩
def ti4:TI:=⟨.bool,1,1,[.lit (Value.bool false)],false⟩
theorem tok4:TOK Try.prog 4 ti4:=⟨⟨Try.t4,Value.bool false,by kernel_rfl,rfl,rfl,rfl,rfl,fun _ _=>(.cons (.lit _) rfl .nil)⟩,Try.underlying4,fun _=>rfl,(by intro h; cases h)⟩
def ti5:TI:=⟨.int .u8,1,1,[.lit (Value.int .u8 0)],false⟩
theorem tok5:TOK Try.prog 5 ti5:=⟨⟨Try.t5,Value.int .u8 0,by kernel_rfl,rfl,rfl,rfl,rfl,fun _ _=>(.cons (.lit _) rfl .nil)⟩,Try.underlying5,fun _=>rfl,(by intro h; cases h)⟩
def ti6:TI:=⟨.int .u8,1,1,[.lit (Value.int .u8 0)],false⟩
theorem tok6:TOK Try.prog 6 ti6:=⟨⟨Try.t6,Value.int .u8 0,by kernel_rfl,rfl,rfl,rfl,rfl,fun _ _=>(.cons (.lit _) rfl .nil)⟩,Try.underlying6,fun _=>rfl,(by intro h; cases h)⟩
def ti7:TI:=⟨.struct [(2,0),(3,1),(4,2),(6,3)],4,24,[.lit (Value.int .i64 0),.lit (Value.int .i64 0),.lit (Value.bool false),.lit (Value.int .u8 0)],false⟩
theorem tok7:TOK Try.prog 7 ti7:=⟨⟨Try.t7,.agg #[Value.int .i64 0,Value.int .i64 0,Value.bool false,Value.int .u8 0],by kernel_rfl,rfl,rfl,rfl,rfl,fun _ _=>(.cons (.lit _) rfl (.cons (.lit _) rfl (.cons (.lit _) rfl (.cons (.lit _) rfl .nil))))⟩,⟨_,Try.underlying7,rfl⟩,(by intro h; cases h),(by intro h; cases h)⟩
def ti8:TI:=⟨.struct [(2,0),(3,1),(4,2),(6,3)],4,24,[.lit (Value.int .i64 0),.lit (Value.int .i64 0),.lit (Value.bool false),.lit (Value.int .u8 0)],false⟩
theorem tok8:TOK Try.prog 8 ti8:=⟨⟨Try.t8,.agg #[Value.int .i64 0,Value.int .i64 0,Value.bool false,Value.int .u8 0],by kernel_rfl,rfl,rfl,rfl,rfl,fun _ _=>(.cons (.lit _) rfl (.cons (.lit _) rfl (.cons (.lit _) rfl (.cons (.lit _) rfl .nil))))⟩,⟨_,Try.underlying8,rfl⟩,(by intro h; cases h),(by intro h; cases h)⟩
def ti12:TI:=⟨.int .u64,1,8,[.lit (Value.int .u64 0)],false⟩
theorem tok12:TOK Try.prog 12 ti12:=⟨⟨Try.t12,Value.int .u64 0,by kernel_rfl,rfl,rfl,rfl,rfl,fun _ _=>(.cons (.lit _) rfl .nil)⟩,Try.underlying12,fun _=>rfl,(by intro h; cases h)⟩
def ti15:TI:=⟨.ptr 192,1,8,[.lit (Value.pointer none)],false⟩
theorem tok15:TOK Try.prog 15 ti15:=⟨⟨Try.t15,Value.pointer none,by kernel_rfl,rfl,rfl,rfl,rfl,fun _ _=>(.cons (.lit _) rfl .nil)⟩,Try.underlying15,fun _=>rfl,(by intro h; cases h)⟩
def ti16:TI:=⟨.ptr 195,1,8,[.lit (Value.pointer none)],false⟩
theorem tok16:TOK Try.prog 16 ti16:=⟨⟨Try.t16,Value.pointer none,by kernel_rfl,rfl,rfl,rfl,rfl,fun _ _=>(.cons (.lit _) rfl .nil)⟩,Try.underlying16,fun _=>rfl,(by intro h; cases h)⟩
def ti17:TI:=⟨.ptr 204,1,8,[.lit (Value.pointer none)],false⟩
theorem tok17:TOK Try.prog 17 ti17:=⟨⟨Try.t17,Value.pointer none,by kernel_rfl,rfl,rfl,rfl,rfl,fun _ _=>(.cons (.lit _) rfl .nil)⟩,Try.underlying17,fun _=>rfl,(by intro h; cases h)⟩
def ti18:TI:=⟨.struct [(17,0)],1,8,[.lit (Value.pointer none)],false⟩
theorem tok18:TOK Try.prog 18 ti18:=⟨⟨Try.t18,.agg #[Value.pointer none],by kernel_rfl,rfl,rfl,rfl,rfl,fun _ _=>(.cons (.lit _) rfl .nil)⟩,⟨_,Try.underlying18,rfl⟩,(by intro h; cases h),(by intro h; cases h)⟩
def ti19:TI:=⟨.struct [(17,0)],1,8,[.lit (Value.pointer none)],false⟩
theorem tok19:TOK Try.prog 19 ti19:=⟨⟨Try.t19,.agg #[Value.pointer none],by kernel_rfl,rfl,rfl,rfl,rfl,fun _ _=>(.cons (.lit _) rfl .nil)⟩,⟨_,Try.underlying19,rfl⟩,(by intro h; cases h),(by intro h; cases h)⟩
def ti21:TI:=⟨.int .i32,1,4,[.lit (Value.int .i32 0)],false⟩
theorem tok21:TOK Try.prog 21 ti21:=⟨⟨Try.t21,Value.int .i32 0,by kernel_rfl,rfl,rfl,rfl,rfl,fun _ _=>(.cons (.lit _) rfl .nil)⟩,Try.underlying21,fun _=>rfl,(by intro h; cases h)⟩
def ti22:TI:=⟨.slice 65,1,24,[.lit (Value.slice none 0 0)],false⟩
theorem tok22:TOK Try.prog 22 ti22:=⟨⟨Try.t22,Value.slice none 0 0,by kernel_rfl,rfl,rfl,rfl,rfl,fun _ _=>(.cons (.lit _) rfl .nil)⟩,Try.underlying22,fun _=>rfl,(by intro h; cases h)⟩
def ti23:TI:=⟨.slice 46,1,24,[.lit (Value.slice none 0 0)],false⟩
theorem tok23:TOK Try.prog 23 ti23:=⟨⟨Try.t23,Value.slice none 0 0,by kernel_rfl,rfl,rfl,rfl,rfl,fun _ _=>(.cons (.lit _) rfl .nil)⟩,Try.underlying23,fun _=>rfl,(by intro h; cases h)⟩
def ti24:TI:=⟨.slice 27,1,24,[.lit (Value.slice none 0 0)],false⟩
theorem tok24:TOK Try.prog 24 ti24:=⟨⟨Try.t24,Value.slice none 0 0,by kernel_rfl,rfl,rfl,rfl,rfl,fun _ _=>(.cons (.lit _) rfl .nil)⟩,Try.underlying24,fun _=>rfl,(by intro h; cases h)⟩
def ti25:TI:=⟨.struct [(3,0),(3,1),(22,2),(23,3),(24,4)],5,88,[.lit (Value.int .i64 0),.lit (Value.int .i64 0),.lit (Value.slice none 0 0),.lit (Value.slice none 0 0),.lit (Value.slice none 0 0)],false⟩
theorem tok25:TOK Try.prog 25 ti25:=⟨⟨Try.t25,.agg #[Value.int .i64 0,Value.int .i64 0,Value.slice none 0 0,Value.slice none 0 0,Value.slice none 0 0],by kernel_rfl,rfl,rfl,rfl,rfl,fun _ _=>(.cons (.lit _) rfl (.cons (.lit _) rfl (.cons (.lit _) rfl (.cons (.lit _) rfl (.cons (.lit _) rfl .nil)))))⟩,⟨_,Try.underlying25,rfl⟩,(by intro h; cases h),(by intro h; cases h)⟩
def ti26:TI:=⟨.struct [(3,0),(3,1),(22,2),(23,3),(24,4)],5,88,[.lit (Value.int .i64 0),.lit (Value.int .i64 0),.lit (Value.slice none 0 0),.lit (Value.slice none 0 0),.lit (Value.slice none 0 0)],false⟩
theorem tok26:TOK Try.prog 26 ti26:=⟨⟨Try.t26,.agg #[Value.int .i64 0,Value.int .i64 0,Value.slice none 0 0,Value.slice none 0 0,Value.slice none 0 0],by kernel_rfl,rfl,rfl,rfl,rfl,fun _ _=>(.cons (.lit _) rfl (.cons (.lit _) rfl (.cons (.lit _) rfl (.cons (.lit _) rfl (.cons (.lit _) rfl .nil)))))⟩,⟨_,Try.underlying26,rfl⟩,(by intro h; cases h),(by intro h; cases h)⟩
def ti27:TI:=⟨.slice 3,1,24,[.lit (Value.slice none 0 0)],false⟩
theorem tok27:TOK Try.prog 27 ti27:=⟨⟨Try.t27,Value.slice none 0 0,by kernel_rfl,rfl,rfl,rfl,rfl,fun _ _=>(.cons (.lit _) rfl .nil)⟩,Try.underlying27,fun _=>rfl,(by intro h; cases h)⟩
def ti28:TI:=⟨.struct [(3,0),(27,1),(3,2),(3,3)],4,48,[.lit (Value.int .i64 0),.lit (Value.slice none 0 0),.lit (Value.int .i64 0),.lit (Value.int .i64 0)],false⟩
theorem tok28:TOK Try.prog 28 ti28:=⟨⟨Try.t28,.agg #[Value.int .i64 0,Value.slice none 0 0,Value.int .i64 0,Value.int .i64 0],by kernel_rfl,rfl,rfl,rfl,rfl,fun _ _=>(.cons (.lit _) rfl (.cons (.lit _) rfl (.cons (.lit _) rfl (.cons (.lit _) rfl .nil))))⟩,⟨_,Try.underlying28,rfl⟩,(by intro h; cases h),(by intro h; cases h)⟩
def ti29:TI:=⟨.struct [(3,0),(27,1),(3,2),(3,3)],4,48,[.lit (Value.int .i64 0),.lit (Value.slice none 0 0),.lit (Value.int .i64 0),.lit (Value.int .i64 0)],false⟩
theorem tok29:TOK Try.prog 29 ti29:=⟨⟨Try.t29,.agg #[Value.int .i64 0,Value.slice none 0 0,Value.int .i64 0,Value.int .i64 0],by kernel_rfl,rfl,rfl,rfl,rfl,fun _ _=>(.cons (.lit _) rfl (.cons (.lit _) rfl (.cons (.lit _) rfl (.cons (.lit _) rfl .nil))))⟩,⟨_,Try.underlying29,rfl⟩,(by intro h; cases h),(by intro h; cases h)⟩
def ti35:TI:=⟨.struct [(3,0),(3,1)],2,16,[.lit (Value.int .i64 0),.lit (Value.int .i64 0)],true⟩
theorem eq35:FlatEq Try.prog 35 2:=flat_ints (by kernel_rfl) (by kernel_rfl) (by kernel_rfl) (by kernel_rfl) (by kernel_rfl)
theorem tok35:TOK Try.prog 35 ti35:=⟨⟨Try.t35,.agg #[Value.int .i64 0,Value.int .i64 0],by kernel_rfl,rfl,rfl,rfl,rfl,fun _ _=>(.cons (.lit _) rfl (.cons (.lit _) rfl .nil))⟩,⟨_,Try.underlying35,rfl⟩,(by intro h; cases h),fun _=>eq35⟩
def ti36:TI:=⟨.struct [(3,0),(3,1)],2,16,[.lit (Value.int .i64 0),.lit (Value.int .i64 0)],true⟩
theorem eq36:FlatEq Try.prog 36 2:=flat_ints (by kernel_rfl) (by kernel_rfl) (by kernel_rfl) (by kernel_rfl) (by kernel_rfl)
theorem tok36:TOK Try.prog 36 ti36:=⟨⟨Try.t36,.agg #[Value.int .i64 0,Value.int .i64 0],by kernel_rfl,rfl,rfl,rfl,rfl,fun _ _=>(.cons (.lit _) rfl (.cons (.lit _) rfl .nil))⟩,⟨_,Try.underlying36,rfl⟩,(by intro h; cases h),fun _=>eq36⟩
def ti37:TI:=⟨.int .i64,1,8,[.lit (Value.int .i64 0)],false⟩
theorem tok37:TOK Try.prog 37 ti37:=⟨⟨Try.t37,Value.int .i64 0,by kernel_rfl,rfl,rfl,rfl,rfl,fun _ _=>(.cons (.lit _) rfl .nil)⟩,Try.underlying37,fun _=>rfl,(by intro h; cases h)⟩
def ti45:TI:=⟨.struct [(36,0),(3,2)],3,24,[.lit (Value.int .i64 0),.lit (Value.int .i64 0),.lit (Value.int .i64 0)],true⟩
theorem eq45:FlatEq Try.prog 45 3:=flat_nested 36 2 (by kernel_rfl) (by kernel_rfl) (by kernel_rfl) (by kernel_rfl) rfl (by kernel_rfl) (by kernel_rfl) (by kernel_rfl) (by kernel_rfl) ⟨Try.t36,by kernel_rfl,rfl⟩
theorem tok45:TOK Try.prog 45 ti45:=⟨⟨Try.t45,.agg #[Value.int .i64 0,Value.int .i64 0,Value.int .i64 0],by kernel_rfl,rfl,rfl,rfl,rfl,fun _ _=>(.cons (.lit _) rfl (.cons (.lit _) rfl (.cons (.lit _) rfl .nil)))⟩,⟨_,Try.underlying45,rfl⟩,(by intro h; cases h),fun _=>eq45⟩
def ti46:TI:=⟨.struct [(36,0),(3,2)],3,24,[.lit (Value.int .i64 0),.lit (Value.int .i64 0),.lit (Value.int .i64 0)],true⟩
theorem eq46:FlatEq Try.prog 46 3:=flat_nested 36 2 (by kernel_rfl) (by kernel_rfl) (by kernel_rfl) (by kernel_rfl) rfl (by kernel_rfl) (by kernel_rfl) (by kernel_rfl) (by kernel_rfl) ⟨Try.t36,by kernel_rfl,rfl⟩
theorem tok46:TOK Try.prog 46 ti46:=⟨⟨Try.t46,.agg #[Value.int .i64 0,Value.int .i64 0,Value.int .i64 0],by kernel_rfl,rfl,rfl,rfl,rfl,fun _ _=>(.cons (.lit _) rfl (.cons (.lit _) rfl (.cons (.lit _) rfl .nil)))⟩,⟨_,Try.underlying46,rfl⟩,(by intro h; cases h),fun _=>eq46⟩
def ti59:TI:=⟨.struct [(3,0),(36,1),(3,3),(3,4)],5,40,[.lit (Value.int .i64 0),.lit (Value.int .i64 0),.lit (Value.int .i64 0),.lit (Value.int .i64 0),.lit (Value.int .i64 0)],false⟩
theorem tok59:TOK Try.prog 59 ti59:=⟨⟨Try.t59,.agg #[Value.int .i64 0,Value.int .i64 0,Value.int .i64 0,Value.int .i64 0,Value.int .i64 0],by kernel_rfl,rfl,rfl,rfl,rfl,fun _ _=>(.cons (.lit _) rfl (.cons (.lit _) rfl (.cons (.lit _) rfl (.cons (.lit _) rfl (.cons (.lit _) rfl .nil)))))⟩,⟨_,Try.underlying59,rfl⟩,(by intro h; cases h),(by intro h; cases h)⟩
def ti60:TI:=⟨.struct [(3,0),(36,1),(3,3),(3,4)],5,40,[.lit (Value.int .i64 0),.lit (Value.int .i64 0),.lit (Value.int .i64 0),.lit (Value.int .i64 0),.lit (Value.int .i64 0)],false⟩
theorem tok60:TOK Try.prog 60 ti60:=⟨⟨Try.t60,.agg #[Value.int .i64 0,Value.int .i64 0,Value.int .i64 0,Value.int .i64 0,Value.int .i64 0],by kernel_rfl,rfl,rfl,rfl,rfl,fun _ _=>(.cons (.lit _) rfl (.cons (.lit _) rfl (.cons (.lit _) rfl (.cons (.lit _) rfl (.cons (.lit _) rfl .nil)))))⟩,⟨_,Try.underlying60,rfl⟩,(by intro h; cases h),(by intro h; cases h)⟩
def ti64:TI:=⟨.struct [(3,0),(3,1)],2,16,[.lit (Value.int .i64 0),.lit (Value.int .i64 0)],true⟩
theorem eq64:FlatEq Try.prog 64 2:=flat_ints (by kernel_rfl) (by kernel_rfl) (by kernel_rfl) (by kernel_rfl) (by kernel_rfl)
theorem tok64:TOK Try.prog 64 ti64:=⟨⟨Try.t64,.agg #[Value.int .i64 0,Value.int .i64 0],by kernel_rfl,rfl,rfl,rfl,rfl,fun _ _=>(.cons (.lit _) rfl (.cons (.lit _) rfl .nil))⟩,⟨_,Try.underlying64,rfl⟩,(by intro h; cases h),fun _=>eq64⟩
def ti65:TI:=⟨.struct [(3,0),(3,1)],2,16,[.lit (Value.int .i64 0),.lit (Value.int .i64 0)],true⟩
theorem eq65:FlatEq Try.prog 65 2:=flat_ints (by kernel_rfl) (by kernel_rfl) (by kernel_rfl) (by kernel_rfl) (by kernel_rfl)
theorem tok65:TOK Try.prog 65 ti65:=⟨⟨Try.t65,.agg #[Value.int .i64 0,Value.int .i64 0],by kernel_rfl,rfl,rfl,rfl,rfl,fun _ _=>(.cons (.lit _) rfl (.cons (.lit _) rfl .nil))⟩,⟨_,Try.underlying65,rfl⟩,(by intro h; cases h),fun _=>eq65⟩
def ti69:TI:=⟨.struct [(3,0),(36,1),(36,3)],5,40,[.lit (Value.int .i64 0),.lit (Value.int .i64 0),.lit (Value.int .i64 0),.lit (Value.int .i64 0),.lit (Value.int .i64 0)],false⟩
theorem tok69:TOK Try.prog 69 ti69:=⟨⟨Try.t69,.agg #[Value.int .i64 0,Value.int .i64 0,Value.int .i64 0,Value.int .i64 0,Value.int .i64 0],by kernel_rfl,rfl,rfl,rfl,rfl,fun _ _=>(.cons (.lit _) rfl (.cons (.lit _) rfl (.cons (.lit _) rfl (.cons (.lit _) rfl (.cons (.lit _) rfl .nil)))))⟩,⟨_,Try.underlying69,rfl⟩,(by intro h; cases h),(by intro h; cases h)⟩
def ti70:TI:=⟨.struct [(3,0),(36,1),(36,3)],5,40,[.lit (Value.int .i64 0),.lit (Value.int .i64 0),.lit (Value.int .i64 0),.lit (Value.int .i64 0),.lit (Value.int .i64 0)],false⟩
theorem tok70:TOK Try.prog 70 ti70:=⟨⟨Try.t70,.agg #[Value.int .i64 0,Value.int .i64 0,Value.int .i64 0,Value.int .i64 0,Value.int .i64 0],by kernel_rfl,rfl,rfl,rfl,rfl,fun _ _=>(.cons (.lit _) rfl (.cons (.lit _) rfl (.cons (.lit _) rfl (.cons (.lit _) rfl (.cons (.lit _) rfl .nil)))))⟩,⟨_,Try.underlying70,rfl⟩,(by intro h; cases h),(by intro h; cases h)⟩
def ti71:TI:=⟨.slice 82,1,24,[.lit (Value.slice none 0 0)],false⟩
theorem tok71:TOK Try.prog 71 ti71:=⟨⟨Try.t71,Value.slice none 0 0,by kernel_rfl,rfl,rfl,rfl,rfl,fun _ _=>(.cons (.lit _) rfl .nil)⟩,Try.underlying71,fun _=>rfl,(by intro h; cases h)⟩
def ti72:TI:=⟨.struct [(70,0),(3,5),(36,6),(36,8),(71,10)],11,104,[.lit (Value.int .i64 0),.lit (Value.int .i64 0),.lit (Value.int .i64 0),.lit (Value.int .i64 0),.lit (Value.int .i64 0),.lit (Value.int .i64 0),.lit (Value.int .i64 0),.lit (Value.int .i64 0),.lit (Value.int .i64 0),.lit (Value.int .i64 0),.lit (Value.slice none 0 0)],false⟩
theorem tok72:TOK Try.prog 72 ti72:=⟨⟨Try.t72,.agg #[Value.int .i64 0,Value.int .i64 0,Value.int .i64 0,Value.int .i64 0,Value.int .i64 0,Value.int .i64 0,Value.int .i64 0,Value.int .i64 0,Value.int .i64 0,Value.int .i64 0,Value.slice none 0 0],by kernel_rfl,rfl,rfl,rfl,rfl,fun _ _=>(.cons (.lit _) rfl (.cons (.lit _) rfl (.cons (.lit _) rfl (.cons (.lit _) rfl (.cons (.lit _) rfl (.cons (.lit _) rfl (.cons (.lit _) rfl (.cons (.lit _) rfl (.cons (.lit _) rfl (.cons (.lit _) rfl (.cons (.lit _) rfl .nil)))))))))))⟩,⟨_,Try.underlying72,rfl⟩,(by intro h; cases h),(by intro h; cases h)⟩
def ti73:TI:=⟨.struct [(70,0),(3,5),(36,6),(36,8),(71,10)],11,104,[.lit (Value.int .i64 0),.lit (Value.int .i64 0),.lit (Value.int .i64 0),.lit (Value.int .i64 0),.lit (Value.int .i64 0),.lit (Value.int .i64 0),.lit (Value.int .i64 0),.lit (Value.int .i64 0),.lit (Value.int .i64 0),.lit (Value.int .i64 0),.lit (Value.slice none 0 0)],false⟩
theorem tok73:TOK Try.prog 73 ti73:=⟨⟨Try.t73,.agg #[Value.int .i64 0,Value.int .i64 0,Value.int .i64 0,Value.int .i64 0,Value.int .i64 0,Value.int .i64 0,Value.int .i64 0,Value.int .i64 0,Value.int .i64 0,Value.int .i64 0,Value.slice none 0 0],by kernel_rfl,rfl,rfl,rfl,rfl,fun _ _=>(.cons (.lit _) rfl (.cons (.lit _) rfl (.cons (.lit _) rfl (.cons (.lit _) rfl (.cons (.lit _) rfl (.cons (.lit _) rfl (.cons (.lit _) rfl (.cons (.lit _) rfl (.cons (.lit _) rfl (.cons (.lit _) rfl (.cons (.lit _) rfl .nil)))))))))))⟩,⟨_,Try.underlying73,rfl⟩,(by intro h; cases h),(by intro h; cases h)⟩
def ti81:TI:=⟨.struct [(3,0),(3,1),(3,2),(3,3),(3,4)],5,40,[.lit (Value.int .i64 0),.lit (Value.int .i64 0),.lit (Value.int .i64 0),.lit (Value.int .i64 0),.lit (Value.int .i64 0)],true⟩
theorem eq81:FlatEq Try.prog 81 5:=flat_ints (by kernel_rfl) (by kernel_rfl) (by kernel_rfl) (by kernel_rfl) (by kernel_rfl)
theorem tok81:TOK Try.prog 81 ti81:=⟨⟨Try.t81,.agg #[Value.int .i64 0,Value.int .i64 0,Value.int .i64 0,Value.int .i64 0,Value.int .i64 0],by kernel_rfl,rfl,rfl,rfl,rfl,fun _ _=>(.cons (.lit _) rfl (.cons (.lit _) rfl (.cons (.lit _) rfl (.cons (.lit _) rfl (.cons (.lit _) rfl .nil)))))⟩,⟨_,Try.underlying81,rfl⟩,(by intro h; cases h),fun _=>eq81⟩
def ti82:TI:=⟨.struct [(3,0),(3,1),(3,2),(3,3),(3,4)],5,40,[.lit (Value.int .i64 0),.lit (Value.int .i64 0),.lit (Value.int .i64 0),.lit (Value.int .i64 0),.lit (Value.int .i64 0)],true⟩
theorem eq82:FlatEq Try.prog 82 5:=flat_ints (by kernel_rfl) (by kernel_rfl) (by kernel_rfl) (by kernel_rfl) (by kernel_rfl)
theorem tok82:TOK Try.prog 82 ti82:=⟨⟨Try.t82,.agg #[Value.int .i64 0,Value.int .i64 0,Value.int .i64 0,Value.int .i64 0,Value.int .i64 0],by kernel_rfl,rfl,rfl,rfl,rfl,fun _ _=>(.cons (.lit _) rfl (.cons (.lit _) rfl (.cons (.lit _) rfl (.cons (.lit _) rfl (.cons (.lit _) rfl .nil)))))⟩,⟨_,Try.underlying82,rfl⟩,(by intro h; cases h),fun _=>eq82⟩
def ti100:TI:=⟨.struct [(26,0)],5,88,[.lit (Value.int .i64 0),.lit (Value.int .i64 0),.lit (Value.slice none 0 0),.lit (Value.slice none 0 0),.lit (Value.slice none 0 0)],false⟩
theorem tok100:TOK Try.prog 100 ti100:=⟨⟨Try.t100,.agg #[Value.int .i64 0,Value.int .i64 0,Value.slice none 0 0,Value.slice none 0 0,Value.slice none 0 0],by kernel_rfl,rfl,rfl,rfl,rfl,fun _ _=>(.cons (.lit _) rfl (.cons (.lit _) rfl (.cons (.lit _) rfl (.cons (.lit _) rfl (.cons (.lit _) rfl .nil)))))⟩,⟨_,Try.underlying100,rfl⟩,(by intro h; cases h),(by intro h; cases h)⟩
def ti101:TI:=⟨.struct [(26,0)],5,88,[.lit (Value.int .i64 0),.lit (Value.int .i64 0),.lit (Value.slice none 0 0),.lit (Value.slice none 0 0),.lit (Value.slice none 0 0)],false⟩
theorem tok101:TOK Try.prog 101 ti101:=⟨⟨Try.t101,.agg #[Value.int .i64 0,Value.int .i64 0,Value.slice none 0 0,Value.slice none 0 0,Value.slice none 0 0],by kernel_rfl,rfl,rfl,rfl,rfl,fun _ _=>(.cons (.lit _) rfl (.cons (.lit _) rfl (.cons (.lit _) rfl (.cons (.lit _) rfl (.cons (.lit _) rfl .nil)))))⟩,⟨_,Try.underlying101,rfl⟩,(by intro h; cases h),(by intro h; cases h)⟩
def ti107:TI:=⟨.ptr 36,1,8,[.lit (Value.pointer none)],false⟩
theorem tok107:TOK Try.prog 107 ti107:=⟨⟨Try.t107,Value.pointer none,by kernel_rfl,rfl,rfl,rfl,rfl,fun _ _=>(.cons (.lit _) rfl .nil)⟩,Try.underlying107,fun _=>rfl,(by intro h; cases h)⟩
def ti108:TI:=⟨.ptr 134,1,8,[.lit (Value.pointer none)],false⟩
theorem tok108:TOK Try.prog 108 ti108:=⟨⟨Try.t108,Value.pointer none,by kernel_rfl,rfl,rfl,rfl,rfl,fun _ _=>(.cons (.lit _) rfl .nil)⟩,Try.underlying108,fun _=>rfl,(by intro h; cases h)⟩
def ti123:TI:=⟨.slice 24,1,24,[.lit (Value.slice none 0 0)],false⟩
theorem tok123:TOK Try.prog 123 ti123:=⟨⟨Try.t123,Value.slice none 0 0,by kernel_rfl,rfl,rfl,rfl,rfl,fun _ _=>(.cons (.lit _) rfl .nil)⟩,Try.underlying123,fun _=>rfl,(by intro h; cases h)⟩
def ti133:TI:=⟨.struct [(24,0),(3,1)],2,32,[.lit (Value.slice none 0 0),.lit (Value.int .i64 0)],false⟩
theorem tok133:TOK Try.prog 133 ti133:=⟨⟨Try.t133,.agg #[Value.slice none 0 0,Value.int .i64 0],by kernel_rfl,rfl,rfl,rfl,rfl,fun _ _=>(.cons (.lit _) rfl (.cons (.lit _) rfl .nil))⟩,⟨_,Try.underlying133,rfl⟩,(by intro h; cases h),(by intro h; cases h)⟩
def ti134:TI:=⟨.struct [(24,0),(3,1)],2,32,[.lit (Value.slice none 0 0),.lit (Value.int .i64 0)],false⟩
theorem tok134:TOK Try.prog 134 ti134:=⟨⟨Try.t134,.agg #[Value.slice none 0 0,Value.int .i64 0],by kernel_rfl,rfl,rfl,rfl,rfl,fun _ _=>(.cons (.lit _) rfl (.cons (.lit _) rfl .nil))⟩,⟨_,Try.underlying134,rfl⟩,(by intro h; cases h),(by intro h; cases h)⟩
def ti135:TI:=⟨.struct [(73,0)],11,104,[.lit (Value.int .i64 0),.lit (Value.int .i64 0),.lit (Value.int .i64 0),.lit (Value.int .i64 0),.lit (Value.int .i64 0),.lit (Value.int .i64 0),.lit (Value.int .i64 0),.lit (Value.int .i64 0),.lit (Value.int .i64 0),.lit (Value.int .i64 0),.lit (Value.slice none 0 0)],false⟩
theorem tok135:TOK Try.prog 135 ti135:=⟨⟨Try.t135,.agg #[Value.int .i64 0,Value.int .i64 0,Value.int .i64 0,Value.int .i64 0,Value.int .i64 0,Value.int .i64 0,Value.int .i64 0,Value.int .i64 0,Value.int .i64 0,Value.int .i64 0,Value.slice none 0 0],by kernel_rfl,rfl,rfl,rfl,rfl,fun _ _=>(.cons (.lit _) rfl (.cons (.lit _) rfl (.cons (.lit _) rfl (.cons (.lit _) rfl (.cons (.lit _) rfl (.cons (.lit _) rfl (.cons (.lit _) rfl (.cons (.lit _) rfl (.cons (.lit _) rfl (.cons (.lit _) rfl (.cons (.lit _) rfl .nil)))))))))))⟩,⟨_,Try.underlying135,rfl⟩,(by intro h; cases h),(by intro h; cases h)⟩
def ti136:TI:=⟨.struct [(73,0)],11,104,[.lit (Value.int .i64 0),.lit (Value.int .i64 0),.lit (Value.int .i64 0),.lit (Value.int .i64 0),.lit (Value.int .i64 0),.lit (Value.int .i64 0),.lit (Value.int .i64 0),.lit (Value.int .i64 0),.lit (Value.int .i64 0),.lit (Value.int .i64 0),.lit (Value.slice none 0 0)],false⟩
theorem tok136:TOK Try.prog 136 ti136:=⟨⟨Try.t136,.agg #[Value.int .i64 0,Value.int .i64 0,Value.int .i64 0,Value.int .i64 0,Value.int .i64 0,Value.int .i64 0,Value.int .i64 0,Value.int .i64 0,Value.int .i64 0,Value.int .i64 0,Value.slice none 0 0],by kernel_rfl,rfl,rfl,rfl,rfl,fun _ _=>(.cons (.lit _) rfl (.cons (.lit _) rfl (.cons (.lit _) rfl (.cons (.lit _) rfl (.cons (.lit _) rfl (.cons (.lit _) rfl (.cons (.lit _) rfl (.cons (.lit _) rfl (.cons (.lit _) rfl (.cons (.lit _) rfl (.cons (.lit _) rfl .nil)))))))))))⟩,⟨_,Try.underlying136,rfl⟩,(by intro h; cases h),(by intro h; cases h)⟩
def ti145:TI:=⟨.slice 36,1,24,[.lit (Value.slice none 0 0)],false⟩
theorem tok145:TOK Try.prog 145 ti145:=⟨⟨Try.t145,Value.slice none 0 0,by kernel_rfl,rfl,rfl,rfl,rfl,fun _ _=>(.cons (.lit _) rfl .nil)⟩,Try.underlying145,fun _=>rfl,(by intro h; cases h)⟩
def ti158:TI:=⟨.func,1,8,[.lit (Value.nilFunc)],false⟩
theorem tok158:TOK Try.prog 158 ti158:=⟨⟨Try.t158,Value.nilFunc,by kernel_rfl,rfl,rfl,rfl,rfl,fun _ _=>(.cons (.lit _) rfl .nil)⟩,⟨_,_,_,Try.underlying158⟩,fun _=>rfl,(by intro h; cases h)⟩
def ti168:TI:=⟨.int .u64,1,8,[.lit (Value.int .u64 0)],false⟩
theorem tok168:TOK Try.prog 168 ti168:=⟨⟨Try.t168,Value.int .u64 0,by kernel_rfl,rfl,rfl,rfl,rfl,fun _ _=>(.cons (.lit _) rfl .nil)⟩,Try.underlying168,fun _=>rfl,(by intro h; cases h)⟩
def ti171:TI:=⟨.int .i64,1,8,[.lit (Value.int .i64 0)],false⟩
theorem tok171:TOK Try.prog 171 ti171:=⟨⟨Try.t171,Value.int .i64 0,by kernel_rfl,rfl,rfl,rfl,rfl,fun _ _=>(.cons (.lit _) rfl .nil)⟩,Try.underlying171,fun _=>rfl,(by intro h; cases h)⟩
def ti178:TI:=⟨.int .u32,1,4,[.lit (Value.int .u32 0)],false⟩
theorem tok178:TOK Try.prog 178 ti178:=⟨⟨Try.t178,Value.int .u32 0,by kernel_rfl,rfl,rfl,rfl,rfl,fun _ _=>(.cons (.lit _) rfl .nil)⟩,Try.underlying178,fun _=>rfl,(by intro h; cases h)⟩
def ti180:TI:=⟨.int .u64,1,8,[.lit (Value.int .u64 0)],false⟩
theorem tok180:TOK Try.prog 180 ti180:=⟨⟨Try.t180,Value.int .u64 0,by kernel_rfl,rfl,rfl,rfl,rfl,fun _ _=>(.cons (.lit _) rfl .nil)⟩,Try.underlying180,fun _=>rfl,(by intro h; cases h)⟩
def ti181:TI:=⟨.int .u64,1,8,[.lit (Value.int .u64 0)],false⟩
theorem tok181:TOK Try.prog 181 ti181:=⟨⟨Try.t181,Value.int .u64 0,by kernel_rfl,rfl,rfl,rfl,rfl,fun _ _=>(.cons (.lit _) rfl .nil)⟩,Try.underlying181,fun _=>rfl,(by intro h; cases h)⟩
def ti185:TI:=⟨.ptr 3,1,8,[.lit (Value.pointer none)],false⟩
theorem tok185:TOK Try.prog 185 ti185:=⟨⟨Try.t185,Value.pointer none,by kernel_rfl,rfl,rfl,rfl,rfl,fun _ _=>(.cons (.lit _) rfl .nil)⟩,Try.underlying185,fun _=>rfl,(by intro h; cases h)⟩
def ti187:TI:=⟨.ptr 181,1,8,[.lit (Value.pointer none)],false⟩
theorem tok187:TOK Try.prog 187 ti187:=⟨⟨Try.t187,Value.pointer none,by kernel_rfl,rfl,rfl,rfl,rfl,fun _ _=>(.cons (.lit _) rfl .nil)⟩,Try.underlying187,fun _=>rfl,(by intro h; cases h)⟩
def ti193:TI:=⟨.array 0 16,0,0,[.arr 1 0 (fun _=>[.lit (Value.pointer none)])],false⟩
theorem tok193:TOK Try.prog 193 ti193:=⟨⟨Try.t193,.agg #[],by kernel_rfl,rfl,rfl,rfl,rfl,fun _ _=>(.arr (fun _=>[Value.pointer none]) (fun _ _=>rfl) (fun _ _=>(.cons (.lit _) rfl .nil)) .nil)⟩,Try.underlying193,(by intro h; cases h),(by intro h; cases h)⟩
def ti194:TI:=⟨.struct [(193,0)],0,0,[.arr 1 0 (fun _=>[.lit (Value.pointer none)])],false⟩
theorem tok194:TOK Try.prog 194 ti194:=⟨⟨Try.t194,.agg #[],by kernel_rfl,rfl,rfl,rfl,rfl,fun _ _=>(.arr (fun _=>[Value.pointer none]) (fun _ _=>rfl) (fun _ _=>(.cons (.lit _) rfl .nil)) .nil)⟩,⟨_,Try.underlying194,rfl⟩,(by intro h; cases h),(by intro h; cases h)⟩
def ti195:TI:=⟨.struct [(193,0)],0,0,[.arr 1 0 (fun _=>[.lit (Value.pointer none)])],false⟩
theorem tok195:TOK Try.prog 195 ti195:=⟨⟨Try.t195,.agg #[],by kernel_rfl,rfl,rfl,rfl,rfl,fun _ _=>(.arr (fun _=>[Value.pointer none]) (fun _ _=>rfl) (fun _ _=>(.cons (.lit _) rfl .nil)) .nil)⟩,⟨_,Try.underlying195,rfl⟩,(by intro h; cases h),(by intro h; cases h)⟩
def ti197:TI:=⟨.int .u8,1,1,[.lit (Value.int .u8 0)],false⟩
theorem tok197:TOK Try.prog 197 ti197:=⟨⟨Try.t197,Value.int .u8 0,by kernel_rfl,rfl,rfl,rfl,rfl,fun _ _=>(.cons (.lit _) rfl .nil)⟩,Try.underlying197,fun _=>rfl,(by intro h; cases h)⟩
def ti198:TI:=⟨.int .u8,1,1,[.lit (Value.int .u8 0)],false⟩
theorem tok198:TOK Try.prog 198 ti198:=⟨⟨Try.t198,Value.int .u8 0,by kernel_rfl,rfl,rfl,rfl,rfl,fun _ _=>(.cons (.lit _) rfl .nil)⟩,Try.underlying198,fun _=>rfl,(by intro h; cases h)⟩
def ti200:TI:=⟨.ptr 5,1,8,[.lit (Value.pointer none)],false⟩
theorem tok200:TOK Try.prog 200 ti200:=⟨⟨Try.t200,Value.pointer none,by kernel_rfl,rfl,rfl,rfl,rfl,fun _ _=>(.cons (.lit _) rfl .nil)⟩,Try.underlying200,fun _=>rfl,(by intro h; cases h)⟩
def ti201:TI:=⟨.int .i32,1,4,[.lit (Value.int .i32 0)],false⟩
theorem tok201:TOK Try.prog 201 ti201:=⟨⟨Try.t201,Value.int .i32 0,by kernel_rfl,rfl,rfl,rfl,rfl,fun _ _=>(.cons (.lit _) rfl .nil)⟩,Try.underlying201,fun _=>rfl,(by intro h; cases h)⟩
def ti202:TI:=⟨.int .i32,1,4,[.lit (Value.int .i32 0)],false⟩
theorem tok202:TOK Try.prog 202 ti202:=⟨⟨Try.t202,Value.int .i32 0,by kernel_rfl,rfl,rfl,rfl,rfl,fun _ _=>(.cons (.lit _) rfl .nil)⟩,Try.underlying202,fun _=>rfl,(by intro h; cases h)⟩
def T0 (t:TypeId):Option TI :=
 match t with
 | 2=>some ti2
 | 3=>some ti3
 | 4=>some ti4
 | 5=>some ti5
 | 6=>some ti6
 | 7=>some ti7
 | 8=>some ti8
 | 12=>some ti12
 | 15=>some ti15
 | 16=>some ti16
 | 17=>some ti17
 | 18=>some ti18
 | 19=>some ti19
 | 21=>some ti21
 | 22=>some ti22
 | 23=>some ti23
 | 24=>some ti24
 | 25=>some ti25
 | 26=>some ti26
 | 27=>some ti27
 | 28=>some ti28
 | 29=>some ti29
 | 35=>some ti35
 | 36=>some ti36
 | 37=>some ti37
 | 45=>some ti45
 | 46=>some ti46
 | 59=>some ti59
 | 60=>some ti60
 | 64=>some ti64
 | 65=>some ti65
 | 69=>some ti69
 | 70=>some ti70
 | 71=>some ti71
 | 72=>some ti72
 | 73=>some ti73
 | 81=>some ti81
 | 82=>some ti82
 | 100=>some ti100
 | 101=>some ti101
 | 107=>some ti107
 | 108=>some ti108
 | 123=>some ti123
 | 133=>some ti133
 | 134=>some ti134
 | 135=>some ti135
 | 136=>some ti136
 | 145=>some ti145
 | 158=>some ti158
 | 168=>some ti168
 | 171=>some ti171
 | 178=>some ti178
 | 180=>some ti180
 | 181=>some ti181
 | 185=>some ti185
 | 187=>some ti187
 | 193=>some ti193
 | 194=>some ti194
 | 195=>some ti195
 | 197=>some ti197
 | 198=>some ti198
 | 200=>some ti200
 | 201=>some ti201
 | 202=>some ti202
 | _=>none
theorem T0_ok:Tab.ok Try.prog T0:=by
 intro t ti h
 unfold T0 at h
 split at h
 ·cases h; exact tok2
 ·cases h; exact tok3
 ·cases h; exact tok4
 ·cases h; exact tok5
 ·cases h; exact tok6
 ·cases h; exact tok7
 ·cases h; exact tok8
 ·cases h; exact tok12
 ·cases h; exact tok15
 ·cases h; exact tok16
 ·cases h; exact tok17
 ·cases h; exact tok18
 ·cases h; exact tok19
 ·cases h; exact tok21
 ·cases h; exact tok22
 ·cases h; exact tok23
 ·cases h; exact tok24
 ·cases h; exact tok25
 ·cases h; exact tok26
 ·cases h; exact tok27
 ·cases h; exact tok28
 ·cases h; exact tok29
 ·cases h; exact tok35
 ·cases h; exact tok36
 ·cases h; exact tok37
 ·cases h; exact tok45
 ·cases h; exact tok46
 ·cases h; exact tok59
 ·cases h; exact tok60
 ·cases h; exact tok64
 ·cases h; exact tok65
 ·cases h; exact tok69
 ·cases h; exact tok70
 ·cases h; exact tok71
 ·cases h; exact tok72
 ·cases h; exact tok73
 ·cases h; exact tok81
 ·cases h; exact tok82
 ·cases h; exact tok100
 ·cases h; exact tok101
 ·cases h; exact tok107
 ·cases h; exact tok108
 ·cases h; exact tok123
 ·cases h; exact tok133
 ·cases h; exact tok134
 ·cases h; exact tok135
 ·cases h; exact tok136
 ·cases h; exact tok145
 ·cases h; exact tok158
 ·cases h; exact tok168
 ·cases h; exact tok171
 ·cases h; exact tok178
 ·cases h; exact tok180
 ·cases h; exact tok181
 ·cases h; exact tok185
 ·cases h; exact tok187
 ·cases h; exact tok193
 ·cases h; exact tok194
 ·cases h; exact tok195
 ·cases h; exact tok197
 ·cases h; exact tok198
 ·cases h; exact tok200
 ·cases h; exact tok201
 ·cases h; exact tok202
 ·cases h
theorem mixed:Try.prog.follows .mixedOrders=true:=by kernel_rfl
end Go.Ab
namespace Go.Ab
open Go Go.RowKit
def hoIn (L:List (Nat × OB)):List (Nat × OB)->Prop
 | []=>True
 | p :: r=>Heap.of L p.1=some p.2/\hoIn L r
theorem hoIn_mem {L:List (Nat × OB)}:∀ {l:List (Nat × OB)},hoIn L l -> ∀ p ∈ l,Heap.of L p.1=some p.2:=by
 intro l
 induction l with
 | nil=>intro _ p hp; cases hp
 | cons q r ih =>
  intro h p hp
  cases hp with
  | head=>exact h.1
  | tail _ hp=>exact ih h.2 p hp
def retO (T:Tab) (rs:List ResultVar) (st:ASt) (res:AV) (hout:List (Nat × OB)):Prop :=
 match resVals T st rs with
 | some (q,rvs)=>q/\retAV rvs=res/\hoIn st.hp hout
 | none=>False
def RetO (C:Ctx) (nt:Nat) (T:Tab) (rs:List ResultVar) (res:AV) (hout:List (Nat × OB)):AX->ASt->Prop
 | .exit _,_=>False
 | _,st => ∃ st2,Ent C nt st st2/\retO T rs st2 res hout
def renI:List (Nat × Nat)->Nat->Nat
 | [],j=>j
 | p :: r,j=>if p.1=j then p.2 else renI r j
def renC (l:List (Nat × Nat)):AV->AV
 | .vec b => .vec (renI l b)
 | v=>v
def renV1 (l:List (Nat × Nat)):AV->AV
 | .agg cs => .agg (cs.map (renC l))
 | v=>renC l v
def renV (l:List (Nat × Nat)):AV->AV
 | .tup vs => .tup (vs.map (renV1 l))
 | v=>renV1 l v
def renB (l:List (Nat × Nat)):OB->OB
 | .vecx t sz n f j fj => .vecx t sz n f j (fj.map (renC l))
 | ob=>ob
def okC (ks:List Nat):AV->Bool
 | .vec b=>ks.contains b
 | v=>(ids v).isEmpty
def okV1 (ks:List Nat):AV->Bool
 | .agg cs=>cs.all (okC ks)
 | v=>okC ks v
def okV (ks:List Nat):AV->Bool
 | .tup vs=>vs.all (okV1 ks)
 | v=>okV1 ks v
def okB (ks:List Nat):OB->Bool
 | .vec _ _ _ _=>true
 | .vecx _ _ _ _ _ fj=>fj.all (okC ks) && noFnL fj
 | _=>false
structure OutSpec where
 args:List AV
 pre:Prop:=True
 res:AV
 hout:List (Nat × OB)
def OutSpec.at (s:OutSpec) (l:List (Nat × Nat)):CallSpec:={ args:=s.args,pre:=s.pre,res:=renV l s.res,hout:=s.hout.map (fun p=>(renI l p.1,renB l p.2)) }
theorem noDup_nodup:∀ {l:List Nat},noDup l=true->l.Nodup:=by
 intro l
 induction l with
 | nil=>intro _; exact List.nodup_nil
 | cons c l ih =>
  intro h
  obtain ⟨h1,h2⟩:=noDup_cons h
  exact List.nodup_cons.2 ⟨h1,ih h2⟩
structure Ren (l:List (Nat × Nat)) (E F:Env):Prop where
 M:∀ b o,E.M b=some o->F.M b=some o
 fns:F.fns=E.fns
 same:∀ c,c ∈ l.map (·.1)->F.blk (renI l c)=E.blk c/\F.hdr (renI l c)=E.hdr c
theorem renC_rel {l:List (Nat × Nat)} {E F:Env} (hr:Ren l E F) {v:AV} {u:Value} (ho:okC (l.map (·.1)) v=true) (h:Rel E true v u):Rel F true (renC l v) u:=by
 cases v with
 | vec b =>
  have hm:b ∈ l.map (·.1):=by simpa [okC] using ho
  cases h with
  | vec _ hh h1=>exact .vec _ (by rw [(hr.same b hm).2]; exact hh) h1
 | _ =>
  simp only [renC]
  simp only [okC,List.isEmpty_iff] at ho
  exact Rel.trim hr.M hr.fns h (fun _=>ho)
theorem renL_rel {l:List (Nat × Nat)} {E F:Env} (hr:Ren l E F):∀ {cs:List AV} {us:List Value},cs.all (okC (l.map (·.1)))=true->RelL E true cs us->RelL F true (cs.map (renC l)) us:=by
 intro cs
 induction cs with
 | nil=>intro us _ h; cases h; exact .nil
 | cons c cs ih =>
  intro us ho h
  simp only [List.all_cons,Bool.and_eq_true] at ho
  cases h with
  | cons h h1 hs=>exact .cons (renC_rel hr ho.1 h) h1 (ih ho.2 hs)
  | arr g hg h hs=>exact .arr g hg (fun i hi=>(h i hi).trim hr.M hr.fns) (ih ho.2 hs)
theorem renV1_rel {l:List (Nat × Nat)} {E F:Env} (hr:Ren l E F) {v:AV} {u:Value} (ho:okV1 (l.map (·.1)) v=true) (h:Rel E true v u):Rel F true (renV1 l v) u:=by
 cases v with
 | agg cs =>
  cases h with
  | agg hl=>exact .agg (renL_rel hr ho hl)
 | _ =>
  simp only [renV1]
  simp only [okV1] at ho
  exact renC_rel hr ho h
theorem renV_rel {l:List (Nat × Nat)} {E F:Env} (hr:Ren l E F) {v:AV} {u:Value} (ho:okV (l.map (·.1)) v=true) (h:Rel E true v u):Rel F true (renV l v) u:=by
 cases v with
 | tup vs =>
  cases h with
  | tup hl hk =>
   rename_i us
   refine .tup (by rw [List.length_map]; exact hl) fun k => ?_
   have h0:=hk k
   simp only [okV,List.all_eq_true] at ho
   by_cases hlt:k < vs.length
   ·have e1:(vs.map (renV1 l)).getD k .any=renV1 l (vs.getD k .any):=by
     simp [List.getD,List.getElem?_eq_getElem hlt]
    rw [e1]
    refine renV1_rel hr (ho _ ?_) h0
    simp [List.getD,List.getElem?_eq_getElem hlt]
   ·rw [List.getD_eq_getElem?_getD,List.getElem?_eq_none (by simpa using hlt)]
    exact .any _
 | _ =>
  simp only [renV]
  simp only [okV] at ho
  exact renV1_rel hr ho h
theorem renI_mem:∀ {l:List (Nat × Nat)} {c:Nat},c ∈ l.map (·.1)->(c,renI l c) ∈ l:=by
 intro l
 induction l with
 | nil=>intro c h; cases h
 | cons p r ih =>
  intro c h
  unfold renI
  split
  ·rename_i e; rw [← e]; exact List.mem_cons_self
  ·rename_i e
   refine List.mem_cons_of_mem _ (ih ?_)
   simp only [List.map_cons,List.mem_cons] at h
   rcases h with h | h
   ·exact absurd h.symm e
   ·exact h
def unI:List (Nat × Nat)->Nat->Option Nat
 | [],_=>none
 | p :: r,j=>if p.2=j then some p.1 else unI r j
theorem unI_of:∀ {l:List (Nat × Nat)},(l.map (·.2)).Nodup -> ∀ {c b:Nat},(c,b) ∈ l->unI l b=some c:=by
 intro l
 induction l with
 | nil=>intro _ c b h; cases h
 | cons p r ih =>
  intro hn c b h
  rw [List.map_cons,List.nodup_cons] at hn
  unfold unI
  cases h with
  | head=>rw [if_pos rfl]
  | tail _ h =>
   have:¬ p.2=b:=fun e=>hn.1 (by rw [e]; exact List.mem_map_of_mem (f:=fun x:Nat × Nat=>x.2) h)
   rw [if_neg this]
   exact ih hn.2 h
theorem unI_mem:∀ {l:List (Nat × Nat)} {c b:Nat},unI l b=some c->(c,b) ∈ l:=by
 intro l
 induction l with
 | nil=>intro c b h; cases h
 | cons p r ih =>
  intro c b h
  unfold unI at h
  split at h
  ·rename_i e; cases h; rw [← e]; exact List.mem_cons_self
  ·exact List.mem_cons_of_mem _ (ih h)
theorem triple_out {P:Program} {f:FuncId} {fn:Func} {c:Code} {T:Tab} (hf:P.funcs[f]? = some fn) (hb:fn.body=some c) (hcall:Callable P f) (hT:Tab.ok P T) (args:List AV) (pre:Prop) (res:AV) (hout:List (Nat × OB)) (l:List (Nat × Nat))
  (hargs:idsL args = []) (hn:args.length<=fn.ntmps) (hl1:l.map (·.1)=hout.map (·.1)) (hnd:(l.map (·.2)).Nodup) (hres:okV (hout.map (·.1)) res=true) (hob:hout.all (fun p=>okB (hout.map (·.1)) p.2)=true) (hnd1:noDup (hout.map (·.1))=true)
  (body:pre -> ∀ C:Ctx,C.P=P/\C.ro=none/\C.df=true->(∀ j,C.E0.blk j=none/\C.E0.hdr j=none)->SWP C fn.ntmps c (RetO C fn.ntmps T fn.results.toList res hout) ⟨argsTm args 0,[],0⟩) :
  Triple P f ((⟨args,pre,res,hout⟩:OutSpec).at l):=by
 have hk:∀ p ∈ l,∃ ob,(p.1,ob) ∈ hout:=by
  intro p hp
  have:p.1 ∈ hout.map (·.1):=by rw [← hl1]; exact List.mem_map_of_mem (f:=fun x:Nat × Nat=>x.1) hp
  obtain ⟨q,hq,he⟩:=List.mem_map.1 this
  exact ⟨q.2,by rw [← he]; exact hq⟩
 replace hnd1:(l.map (·.1)).Nodup:=by rw [hl1]; exact noDup_nodup hnd1
 rw [← hl1] at hres
 replace hob:hout.all (fun p=>okB (l.map (·.1)) p.2 && (l.map (·.1)).contains p.1)=true:=by
  rw [List.all_eq_true] at hob ⊢
  intro p hp
  rw [hl1,hob p hp,Bool.true_and,List.contains_eq_mem]
  exact decide_eq_true (List.mem_map_of_mem (f:=fun x:Nat × OB=>x.1) hp)
 show Triple P f { args:=args,pre:=pre,res:=renV l res,hout:=hout.map (fun p=>(renI l p.1,renB l p.2)) }
 refine ⟨hcall,fun hpre E w vs _ hok hlen hrel hfresh => ?_⟩
 let E0:Env:={ E with blk:=fun _=>none,hdr:=fun _=>none }
 let C:Ctx:={ calleeCtx P E0 w [] with df:=true }
 have hok0:HeapOK C E0 (Heap.of []) w:=⟨rfl,rfl,rfl,Nat.le_refl _,fun _ _=>rfl,fun b o h=>hok.mem b o h,Env.le.refl _,fun b o h => .inl h,(fun i ob h=>by cases h),(fun i j k _ h=>absurd rfl h)⟩
 have htm:∀ t,Rel E0 true (look (argsTm args 0) t) ((vs.toArray ++ Array.replicate (fn.ntmps - vs.toArray.size) undef).getD t undef):=by
  intro t
  rw [look_args,if_pos (Nat.zero_le _),Nat.sub_zero]
  rcases Nat.lt_or_ge t vs.length with ht | ht
  ·have h1:(vs.toArray ++ Array.replicate (fn.ntmps - vs.toArray.size) undef).getD t undef=vs.getD t undef:=by
    simp only [Array.getD_eq_getD_getElem?,List.getD_eq_getElem?_getD]
    rw [Array.getElem?_append_left (by simpa using ht)]
    simp
   rw [h1]
   exact Rel.trim (E:=E) (F:=E0) (fun _ _ h=>h) rfl (hrel t) (fun _=>idsL_get hargs t)
  ·have hl':vs.length=args.length:=hlen
   rw [List.getD_eq_getElem?_getD,List.getElem?_eq_none (by omega)]
   exact .any _
 have hl':vs.length=args.length:=hlen
 have hsat:Sat C E0 fn.ntmps ⟨argsTm args 0,[],0⟩ w { tmps:=vs.toArray ++ Array.replicate (fn.ntmps - vs.toArray.size) undef,defers:=[] } :=
  ⟨⟨hok0,htm,⟨fun _=>rfl,trivial⟩,by simp; omega⟩,fun j _=>⟨rfl,rfl⟩⟩
 have hsw:=body hpre C ⟨rfl,rfl,rfl⟩ (fun j=>⟨rfl,rfl⟩) E0 w _ hsat
 refine callsIn_marks hf hb (wpIn_mono (F:=Fence.wide) hsw ?_)
 rintro e a0 w0' ⟨x,E0',st1,rfl,hs0,hk1⟩
 have fin:∀ (E1:Env) (w':World) (a':Act),Sat C E1 fn.ntmps st1 w' a'->(∃ st2,Ent C fn.ntmps st1 st2/\retO T fn.results.toList st2 res hout) -> ∃ v,(results fn a'.tmps).run P w' = .ok v w'/\CallPost P { args:=args,pre:=pre,res:=renV l res,hout:=hout.map (fun p=>(renI l p.1,renB l p.2)) } E w (.returned v) w':=by
  rintro E1 w' a' hs1 ⟨st2,hent,hq⟩
  obtain ⟨E',hs'⟩:=hent E1 w' a' hs1
  unfold retO at hq
  split at hq
  ·rename_i q rvs hrv
   obtain ⟨hq0,hres0,hho⟩:=hq
   obtain ⟨us,hus,hul,hur⟩:=resVals_run (C:=C) hT hs' _ q rvs hrv hq0
   have hrun:=results_run (P:=P) hus
   refine ⟨_,hrun,?_⟩
   have hrv':Rel E' true (retAV rvs) (if h:us.length=1 then us[0] else .tuple us.toArray):=by
    cases rvs with
    | nil =>
     have:us = []:=List.eq_nil_of_length_eq_zero hul
     subst this
     exact .tup rfl (fun k=>hur k)
    | cons v r =>
     cases r with
     | nil =>
      have hul1:us.length=1:=hul
      rw [dif_pos hul1]
      have:=hur 0
      simp only [List.getD_cons_zero] at this
      rw [List.getD_eq_getElem?_getD,List.getElem?_eq_getElem (by omega)] at this
      exact this
     | cons v2 r =>
      have hne:¬ us.length=1:=by rw [hul]; simp
      rw [dif_neg hne]
      exact .tup (cs:=v :: v2 :: r) hul hur
   rw [hres0] at hrv'
   have hle:=hs'.ok.heap.le
   let F:Env:={ E with M:=E'.M,blk:=fun j=>match unI l j with | some c=>E'.blk c | none=>E.blk j,hdr:=fun j=>match unI l j with | some c=>E'.hdr c | none=>E.hdr j }
   have hfns:F.fns=E'.fns:=by
    show E.fns=E'.fns
    exact (hle.fns.symm:E0.fns=E'.fns)
   have hren:Ren l E' F:=by
    refine ⟨fun b o h=>h,hfns,fun c hc => ?_⟩
    have:=unI_of hnd (renI_mem hc)
    constructor
    ·show (match unI l (renI l c) with | some c=>E'.blk c | none=>E.blk (renI l c))=_
     rw [this]
    ·show (match unI l (renI l c) with | some c=>E'.hdr c | none=>E.hdr (renI l c))=_
     rw [this]
   have hinfo:∀ p ∈ hout,okB (l.map (·.1)) p.2=true/\p.1 ∈ l.map (·.1):=by
    intro p hp
    rw [List.all_eq_true] at hob
    have:=hob p hp
    simp only [Bool.and_eq_true,List.contains_eq_mem,decide_eq_true_eq] at this
    exact this
   have hfr:∀ j c,unI l j=some c->E.blk j=none/\E.hdr j=none:=by
    intro j c hj
    obtain ⟨ob,hob'⟩:=hk _ (unI_mem hj)
    have hm:c ∈ l.map (·.1):=(hinfo _ hob').2
    have h1:=unI_of hnd (renI_mem hm)
    have h2:=renI_mem hm
    have hjr:renI l c=j:=by
     have h3:=unI_mem hj
     -- both pairs have the same first part
     have key:∀ {l:List (Nat × Nat)},(l.map (·.1)).Nodup -> ∀ {c a b:Nat},(c,a) ∈ l->(c,b) ∈ l->a=b:=by
      intro l
      induction l with
      | nil=>intro _ c a b h; cases h
      | cons p r ih =>
       intro hn c a b ha hb
       rw [List.map_cons,List.nodup_cons] at hn
       cases ha with
       | head =>
        cases hb with
        | head=>rfl
        | tail _ hb=>exact absurd (List.mem_map_of_mem (f:=fun x:Nat × Nat=>x.1) hb) hn.1
       | tail _ ha =>
        cases hb with
        | head=>exact absurd (List.mem_map_of_mem (f:=fun x:Nat × Nat=>x.1) ha) hn.1
        | tail _ hb=>exact ih hn.2 ha hb
     exact key hnd1 h2 h3
    have hmem:(renI l c,renB l ob) ∈ hout.map (fun p=>(renI l p.1,renB l p.2)):=List.mem_map_of_mem (f:=fun p:Nat × OB=>(renI l p.1,renB l p.2)) hob'
    have:=hfresh _ hmem (fun q hq=>by cases hq)
    rw [hjr] at this
    exact this
   have lF:E.le F:=by
    refine ⟨fun b o h=>hle.M b o h,fun b k h => ?_,fun b u h => ?_,rfl⟩
    ·show (match unI l b with | some c=>E'.blk c | none=>E.blk b)=some k
     cases e:unI l b with
     | none=>exact h
     | some c=>rw [(hfr b c e).1] at h; cases h
    ·show (match unI l b with | some c=>E'.hdr c | none=>E.hdr b)=some u
     cases e:unI l b with
     | none=>exact h
     | some c=>rw [(hfr b c e).2] at h; cases h
   have hget:∀ i ob,Heap.of (hout.map (fun p=>(renI l p.1,renB l p.2))) i=some ob -> ∃ c ob0,unI l i=some c/\ob=renB l ob0/\Heap.of st2.hp c=some ob0/\okB (l.map (·.1)) ob0=true/\renI l c=i:=by
    intro i ob hi
    have hm:=Heap.of_mem hi
    obtain ⟨p,hp,he⟩:=List.mem_map.1 hm
    cases he
    exact ⟨p.1,p.2,unI_of hnd (renI_mem (hinfo p hp).2),rfl,hoIn_mem hho p hp,(hinfo p hp).1,rfl⟩
   have h':=hs'.ok.heap
   have av1:∀ x,C.avail x->(calleeCtx P E w []).avail x:=by
    rintro x (h | ⟨q,hq,_⟩)
    ·exact .inl h
    ·cases hq
   refine ⟨_,F,rfl,?_,renV_rel hren hres hrv',fun j hj => ?_⟩
   ·refine ⟨h'.os,h'.tape,h'.output,h'.size,fun x hx=>h'.pres x (fun h=>hx (av1 x h)),fun x o h=>h'.mem x o h,lF,fun x o h => ?_,fun i ob hi => ?_,fun i j y hij hi hj hiy hjy => ?_⟩
    ·rcases h'.ext x o h with h | h
     ·exact .inl h
     ·exact .inr (av1 x h)
    ·obtain ⟨c,ob0,hc,rfl,hst,hok',hri⟩:=hget i ob hi
     have hown:=h'.own c ob0 hst
     have hcb:F.blk i=E'.blk c:=by
      show (match unI l i with | some c=>E'.blk c | none=>E.blk i)=_
      rw [hc]
     have hch:F.hdr i=E'.hdr c:=by
      show (match unI l i with | some c=>E'.hdr c | none=>E.hdr i)=_
      rw [hc]
     cases ob0 with
     | vec t sz n f =>
      obtain ⟨hd,g,hh,ho,hgl,hgr,hbk,hav⟩:=hown
      exact ⟨hd,g,by rw [hch]; exact hh,ho,hgl,fun i hi=>RelL.trim (E:=E') (F:=F) (fun _ _ h=>h) hfns (hgr i hi),by rw [hcb]; exact hbk,fun k hk=>⟨av1 k (hav k hk).1,(hav k hk).2⟩⟩
     | vecx t sz n f j fj =>
      obtain ⟨hd,g,hh,ho,hgl,hgr,hgj,hbk,hav⟩:=hown
      simp only [okB,Bool.and_eq_true] at hok'
      exact ⟨hd,g,by rw [hch]; exact hh,ho,hgl,fun i hi hij=>RelL.trim (E:=E') (F:=F) (fun _ _ h=>h) hfns (hgr i hi hij),fun h=>renL_rel hren hok'.1 (hgj h),by rw [hcb]; exact hbk,fun k hk=>⟨av1 k (hav k hk).1,(hav k hk).2⟩⟩
     | _=>cases hok'
    ·have get:∀ i,Heap.of (hout.map (fun p=>(renI l p.1,renB l p.2))) i ≠ none->F.blk i=some y -> ∃ c,unI l i=some c/\Heap.of st2.hp c ≠ none/\E'.blk c=some y/\renI l c=i:=by
      intro i hi hiy
      cases e:Heap.of (hout.map (fun p=>(renI l p.1,renB l p.2))) i with
      | none=>exact absurd e hi
      | some ob =>
       obtain ⟨c,ob0,hc,rfl,hst,hok',hri⟩:=hget i ob e
       refine ⟨c,hc,by rw [hst]; simp,?_,hri⟩
       have:F.blk i=E'.blk c:=by
        show (match unI l i with | some c=>E'.blk c | none=>E.blk i)=_
        rw [hc]
       rw [← this]; exact hiy
     obtain ⟨c1,_,n1,k1,r1⟩:=get i hi hiy
     obtain ⟨c2,_,n2,k2,r2⟩:=get j hj hjy
     exact h'.sep c1 c2 y (fun e=>hij (by rw [← r1,← r2,e])) n1 n2 k1 k2
   ·have:unI l j=none:=by
     cases e:unI l j with
     | none=>rfl
     | some c =>
      obtain ⟨ob,hob'⟩:=hk _ (unI_mem e)
      have hm:c ∈ l.map (·.1):=(hinfo _ hob').2
      exfalso
      have hmem:(renI l c,renB l ob) ∈ hout.map (fun p=>(renI l p.1,renB l p.2)):=List.mem_map_of_mem (f:=fun p:Nat × OB=>(renI l p.1,renB l p.2)) hob'
      refine hj _ hmem ?_
      show renI l c=j
      have h2:=renI_mem hm
      have h3:=unI_mem e
      have key:∀ {l:List (Nat × Nat)},(l.map (·.1)).Nodup -> ∀ {c a b:Nat},(c,a) ∈ l->(c,b) ∈ l->a=b:=by
       intro l
       induction l with
       | nil=>intro _ c a b h; cases h
       | cons p r ih =>
        intro hn c a b ha hb
        rw [List.map_cons,List.nodup_cons] at hn
        cases ha with
        | head =>
         cases hb with
         | head=>rfl
         | tail _ hb=>exact absurd (List.mem_map_of_mem (f:=fun x:Nat × Nat=>x.1) hb) hn.1
        | tail _ ha =>
         cases hb with
         | head=>exact absurd (List.mem_map_of_mem (f:=fun x:Nat × Nat=>x.1) ha) hn.1
         | tail _ hb=>exact ih hn.2 ha hb
      exact key hnd1 h2 h3
    constructor
    ·show (match unI l j with | some c=>E'.blk c | none=>E.blk j)=_
     rw [this]
    ·show (match unI l j with | some c=>E'.hdr c | none=>E.hdr j)=_
     rw [this]
  ·exact hq.elim
 have go:(∃ st2,Ent C fn.ntmps st1 st2/\retO T fn.results.toList st2 res hout)->LeavesInM Fence.wide 0 P fn a0.tmps (CallPost P { args:=args,pre:=pre,res:=renV l res,hout:=hout.map (fun p=>(renI l p.1,renB l p.2)) } E w) a0.defers .returning w0':=fun hq =>
  leaves_marks (C:=C) (fun E1 w1 h1=>fin E1 w1 { tmps:=a0.tmps,defers:=[] } h1 hq) a0.defers E0' w0' hs0
 cases x with
 | normal=>exact go hk1
 | ret=>exact go hk1
 | exit id=>exact hk1.elim
section
variable {C:Ctx} {nt:Nat} {K:AX->ASt->Prop} {st:ASt}
theorem ret_o {T:Tab} {rs:List ResultVar} {res:AV} {hout:List (Nat × OB)} (st2:ASt) (he:Ent C nt st st2) (q:Prop) (hq:retO T rs st2 res hout=q) (h:q):RetO C nt T rs res hout .ret st:=⟨st2,he,by rw [hq]; exact h⟩
end
end Go.Ab
namespace Go.Ab
open Go Go.RowKit
section
variable {C:Ctx} {nt:Nat} {K:AX->ASt->Prop} {st:ASt}
def joinK (C:Ctx) (nt:Nat) (s':ASt) (K:AX->ASt->Prop):AX->ASt->Prop
 | .normal,st=>Ent C nt st s'
 | x,st=>K x st
theorem swp_join2 {x y:Code} (s':ASt) (hy:SWP C nt y K s') (hx:SWP C nt x (joinK C nt s' K) st):SWP C nt x (seqK C nt y K) st :=
 swp_mono hx fun a s h=>by
  cases a with
  | normal=>exact swp_ent h hy
  | ret=>exact h
  | exit i=>exact h
theorem join_end {s s':ASt} (h:Ent C nt s s'):joinK C nt s' K .normal s:=h
end
structure JoinH where
 tm:List (Nat × AV):=[]
 hp:List (Nat × OB):=[]
end Go.Ab
namespace Go.Ab
open Go Go.RowKit
def rnC (l:List (Nat × Nat)):AV->AV
 | .vec b => .vec (renI l b)
 | .ptr b p => .ptr (renI l b) p
 | v=>v
def rnV (l:List (Nat × Nat)):AV->AV
 | .agg cs => .agg (cs.map (rnC l))
 | .clo f cs => .clo f (cs.map (rnC l))
 | v=>rnC l v
def rnR (l:List (Nat × Nat)):AV->AV
 | .tup vs => .tup (vs.map (rnV l))
 | v=>rnV l v
def rnB (l:List (Nat × Nat)):OB->OB
 | .cells t cs => .cells t (cs.map (rnC l))
 | .vecx t sz n f j fj => .vecx t sz n f j (fj.map (rnC l))
 | ob=>ob
def kC (ks:List Nat):AV->Bool
 | .vec b=>ks.contains b
 | .ptr b _=>ks.contains b
 | .agg _=>false
 | .clo _ _=>false
 | .tup _=>false
 | v=>(ids v).isEmpty
def kV (ks:List Nat):AV->Bool
 | .agg cs=>cs.all (kC ks)
 | .clo _ cs=>cs.all (kC ks)
 | v=>kC ks v
def kR (ks:List Nat):AV->Bool
 | .tup vs=>vs.all (kV ks)
 | v=>kV ks v
def kB (ks:List Nat):OB->Bool
 | .cells _ cs=>cs.all (kC ks)
 | .vec _ _ _ _=>true
 | .vecx _ _ _ _ _ fj=>fj.all (kC ks)
 | _=>false
structure Rn (l:List (Nat × Nat)) (ks:List Nat) (E F:Env):Prop where
 M:∀ b o,E.M b=some o->F.M b=some o
 fns:F.fns=E.fns
 same:∀ c,c ∈ ks->F.blk (renI l c)=E.blk c/\F.hdr (renI l c)=E.hdr c
section
variable {l:List (Nat × Nat)} {ks:List Nat} {E F:Env}
theorem rnC_rel (hr:Rn l ks E F) {v:AV} {u:Value} (ho:kC ks v=true) (h:Rel E true v u):Rel F true (rnC l v) u:=by
 cases v with
 | vec b =>
  have hm:b ∈ ks:=by simpa [kC] using ho
  cases h with
  | vec _ hh h1=>exact .vec _ (by rw [(hr.same b hm).2]; exact hh) h1
 | ptr b p =>
  have hm:b ∈ ks:=by simpa [kC] using ho
  cases h with
  | ptr _ _ hh=>exact .ptr _ p (by rw [(hr.same b hm).1]; exact hh)
 | agg cs=>cases ho
 | clo f cs=>cases ho
 | tup cs=>cases ho
 | _ =>
  simp only [rnC]
  simp only [kC,List.isEmpty_iff] at ho
  exact Rel.trim hr.M hr.fns h (fun _=>ho)
theorem rnC_inv (hM:F.M=E.M) (hf:F.fns=E.fns) (hs:∀ c,c ∈ ks->F.blk (renI l c)=E.blk c/\F.hdr (renI l c)=E.hdr c) {v:AV} {u:Value} (ho:kC ks v=true) (h:Rel F true (rnC l v) u):Rel E true v u:=by
 cases v with
 | vec b =>
  have hm:b ∈ ks:=by simpa [kC] using ho
  cases h with
  | vec _ hh h1=>exact .vec _ (by rw [← (hs b hm).2]; exact hh) h1
 | ptr b p =>
  have hm:b ∈ ks:=by simpa [kC] using ho
  cases h with
  | ptr _ _ hh=>exact .ptr _ p (by rw [← (hs b hm).1]; exact hh)
 | agg cs=>cases ho
 | clo f cs=>cases ho
 | tup cs=>cases ho
 | _ =>
  simp only [rnC] at h
  simp only [kC,List.isEmpty_iff] at ho
  exact Rel.trim (fun b o e=>by rw [← hM]; exact e) hf.symm h (fun _=>ho)
theorem rnL_rel (hr:Rn l ks E F):∀ {cs:List AV} {us:List Value},cs.all (kC ks)=true->RelL E true cs us->RelL F true (cs.map (rnC l)) us:=by
 intro cs
 induction cs with
 | nil=>intro us _ h; cases h; exact .nil
 | cons c cs ih =>
  intro us ho h
  simp only [List.all_cons,Bool.and_eq_true] at ho
  cases h with
  | cons h h1 hs=>exact .cons (rnC_rel hr ho.1 h) h1 (ih ho.2 hs)
  | arr g hg h hs=>exact .arr g hg (fun i hi=>(h i hi).trim hr.M hr.fns) (ih ho.2 hs)
theorem rnL_inv (hM:F.M=E.M) (hf:F.fns=E.fns) (hs:∀ c,c ∈ ks->F.blk (renI l c)=E.blk c/\F.hdr (renI l c)=E.hdr c):∀ {cs:List AV} {us:List Value},cs.all (kC ks)=true->RelL F true (cs.map (rnC l)) us->RelL E true cs us:=by
 intro cs
 induction cs with
 | nil=>intro us _ h; cases h; exact .nil
 | cons c cs ih =>
  intro us ho h
  simp only [List.all_cons,Bool.and_eq_true] at ho
  rw [List.map_cons] at h
  generalize hz:rnC l c=z at h
  cases h with
  | cons h h1 hs'=>subst hz; exact .cons (rnC_inv hM hf hs ho.1 h) h1 (ih ho.2 hs')
  | arr g hg h hs' =>
   rename_i sz n f us
   have:c = .arr sz n f:=by cases c <;> simp only [rnC] at hz <;> first | exact hz | cases hz
   subst this
   exact .arr g hg (fun i hi=>(h i hi).trim (fun b o e=>by rw [← hM]; exact e) hf.symm) (ih ho.2 hs')
theorem getD_map_any (g:AV->AV) (hg:g .any = .any) (vs:List AV) (k:Nat):(vs.map g).getD k .any=g (vs.getD k .any):=by
 by_cases hlt:k < vs.length
 ·simp [List.getD,List.getElem?_eq_getElem hlt]
 ·rw [List.getD_eq_getElem?_getD,List.getElem?_eq_none (by simpa using hlt),List.getD_eq_getElem?_getD,List.getElem?_eq_none (by omega)]
  exact hg.symm
theorem all_getD {p:AV->Bool} (hp:p .any=true) {vs:List AV} (h:vs.all p=true) (k:Nat):p (vs.getD k .any)=true:=by
 by_cases hlt:k < vs.length
 ·rw [List.all_eq_true] at h
  have:vs.getD k .any=vs[k]:=by simp [List.getD,List.getElem?_eq_getElem hlt]
  rw [this]; exact h _ (List.getElem_mem hlt)
 ·rw [List.getD_eq_getElem?_getD,List.getElem?_eq_none (by omega)]; exact hp
theorem rnV_rel (hr:Rn l ks E F) {v:AV} {u:Value} (ho:kV ks v=true) (h:Rel E true v u):Rel F true (rnV l v) u:=by
 cases v with
 | agg cs=>cases h with | agg hl=>exact .agg (rnL_rel hr ho hl)
 | clo f cs =>
  cases h with
  | clo _ hl hk=>exact .clo f (by rw [List.length_map]; exact hl) fun k=>by rw [getD_map_any _ rfl]; exact rnC_rel hr (all_getD (p:=kC ks) rfl ho k) (hk k)
 | _ =>
  simp only [rnV]
  simp only [kV] at ho
  exact rnC_rel hr ho h
theorem rnV_inv (hM:F.M=E.M) (hf:F.fns=E.fns) (hs:∀ c,c ∈ ks->F.blk (renI l c)=E.blk c/\F.hdr (renI l c)=E.hdr c) {v:AV} {u:Value} (ho:kV ks v=true) (h:Rel F true (rnV l v) u):Rel E true v u:=by
 cases v with
 | agg cs=>cases h with | agg hl=>exact .agg (rnL_inv hM hf hs ho hl)
 | clo f cs =>
  cases h with
  | clo _ hl hk=>exact .clo f (by rw [List.length_map] at hl; exact hl) fun k=>by have:=hk k; rw [getD_map_any _ rfl] at this; exact rnC_inv hM hf hs (all_getD (p:=kC ks) rfl ho k) this
 | _ =>
  simp only [rnV] at h
  simp only [kV] at ho
  exact rnC_inv hM hf hs ho h
theorem rnR_rel (hr:Rn l ks E F) {v:AV} {u:Value} (ho:kR ks v=true) (h:Rel E true v u):Rel F true (rnR l v) u:=by
 cases v with
 | tup cs =>
  cases h with
  | tup hl hk=>exact .tup (by rw [List.length_map]; exact hl) fun k=>by rw [getD_map_any _ rfl]; exact rnV_rel hr (all_getD (p:=kV ks) rfl ho k) (hk k)
 | _ =>
  simp only [rnR]
  simp only [kR] at ho
  exact rnV_rel hr ho h
theorem rnB_inv {C C':Ctx} {w:World} {c:Nat} {ob:OB} (hM:F.M=E.M) (hf:F.fns=E.fns) (hs:∀ c,c ∈ ks->F.blk (renI l c)=E.blk c/\F.hdr (renI l c)=E.hdr c) (hav:∀ k,C.avail k->C'.avail k) (hc:c ∈ ks) (ho:kB ks ob=true) (h:OwnOB C F w (renI l c) (rnB l ob)):OwnOB C' E w c ob:=by
 have hb:=(hs c hc).1
 have hh:=(hs c hc).2
 have tr:∀ {cs:List AV} {us:List Value},RelL F false cs us->RelL E false cs us:=fun h=>h.trim (fun b o e=>by rw [← hM]; exact e) hf.symm
 cases ob with
 | cells t cs =>
  obtain ⟨k,us,h1,h2,h3,h4,h5⟩:=h
  exact ⟨k,us,by rw [← hb]; exact h1,hav k h2,by rw [← hM]; exact h3,h4,rnL_inv hM hf hs ho h5⟩
 | vec t sz n f =>
  obtain ⟨hd,g,h1,h2,h3,h4,h5,h6⟩:=h
  exact ⟨hd,g,by rw [← hh]; exact h1,h2,h3,fun i hi=>tr (h4 i hi),by rw [← hb]; exact h5,fun k hk=>⟨hav k (h6 k hk).1,by rw [← hM]; exact (h6 k hk).2⟩⟩
 | vecx t sz n f j fj =>
  obtain ⟨hd,g,h1,h2,h3,h4,h7,h5,h6⟩:=h
  exact ⟨hd,g,by rw [← hh]; exact h1,h2,h3,fun i hi hij=>tr (h4 i hi hij),fun hj=>rnL_inv hM hf hs ho (h7 hj),by rw [← hb]; exact h5,fun k hk=>⟨hav k (h6 k hk).1,by rw [← hM]; exact (h6 k hk).2⟩⟩
 | _=>cases ho
theorem rnB_own {C C':Ctx} {w:World} {c:Nat} {ob:OB} (hr:Rn l ks E F) (hMM:∀ b,E.M b=none->F.M b=none) (hav:∀ k,C.avail k->C'.avail k) (hc:c ∈ ks) (ho:kB ks ob=true) (h:OwnOB C E w c ob):OwnOB C' F w (renI l c) (rnB l ob):=by
 have hb:=(hr.same c hc).1
 have hh:=(hr.same c hc).2
 cases ob with
 | cells t cs =>
  obtain ⟨k,us,h1,h2,h3,h4,h5⟩:=h
  exact ⟨k,us,by rw [hb]; exact h1,hav k h2,hMM k h3,h4,rnL_rel hr ho h5⟩
 | vec t sz n f =>
  obtain ⟨hd,g,h1,h2,h3,h4,h5,h6⟩:=h
  exact ⟨hd,g,by rw [hh]; exact h1,h2,h3,fun i hi=>(h4 i hi).trim hr.M hr.fns,by rw [hb]; exact h5,fun k hk=>⟨hav k (h6 k hk).1,hMM k (h6 k hk).2⟩⟩
 | vecx t sz n f j fj =>
  obtain ⟨hd,g,h1,h2,h3,h4,h7,h5,h6⟩:=h
  exact ⟨hd,g,by rw [hh]; exact h1,h2,h3,fun i hi hij=>(h4 i hi hij).trim hr.M hr.fns,fun hj=>rnL_rel hr ho (h7 hj),by rw [hb]; exact h5,fun k hk=>⟨hav k (h6 k hk).1,hMM k (h6 k hk).2⟩⟩
 | _=>cases ho
end
structure IoSpec where
 args:List AV
 pre:Prop:=True
 fnok:Env->Prop:=fun _=>True
 hin:List (Nat × OB):=[]
 res:AV
 hout:List (Nat × OB):=[]
def IoSpec.at (s:IoSpec) (l:List (Nat × Nat)):CallSpec:={ args:=s.args.map (rnV l),pre:=s.pre,fnok:=s.fnok,hin:=s.hin.map (fun p=>(renI l p.1,rnB l p.2)),res:=rnR l s.res,hout:=s.hout.map (fun p=>(renI l p.1,rnB l p.2)) }
def IoSpec.ok (s:IoSpec) (N:Nat) (ks:List Nat):Bool :=
 noDup ks && noDup (s.hin.map (·.1)) && noDup (s.hout.map (·.1)) && s.args.all (kV (s.hin.map (·.1))) && s.hin.all (fun p=>kB (s.hin.map (·.1)) p.2 && ks.contains p.1 && decide (p.1 < N)) && kR (s.hout.map (·.1)) s.res && s.hout.all (fun p=>kB (s.hout.map (·.1)) p.2 && ks.contains p.1)
theorem renI_inj {l:List (Nat × Nat)} (h1:(l.map (·.1)).Nodup) (h2:(l.map (·.2)).Nodup) {a b:Nat} (ha:a ∈ l.map (·.1)) (hb:b ∈ l.map (·.1)) (e:renI l a=renI l b):a=b:=by
 have ma:=renI_mem ha
 have mb:=renI_mem hb
 have ua:=unI_of h2 ma
 have ub:=unI_of h2 mb
 rw [e,ub] at ua
 cases ua; rfl
theorem heap_of_map {l:List (Nat × Nat)} {hs:List (Nat × OB)} (h:∀ a b,a ∈ hs.map (·.1)->b ∈ hs.map (·.1)->renI l a=renI l b->a=b) {c:Nat} {ob:OB} (hc:Heap.of hs c=some ob):Heap.of (hs.map fun p=>(renI l p.1,rnB l p.2)) (renI l c)=some (rnB l ob):=by
 induction hs with
 | nil=>cases hc
 | cons p r ih =>
  rw [Heap.of_cons] at hc
  rw [List.map_cons,Heap.of_cons]
  by_cases e:p.1=c
  ·rw [if_pos e] at hc
   cases hc
   rw [if_pos (by rw [e])]
  ·rw [if_neg e] at hc
   have hm:c ∈ r.map (·.1):=List.mem_map_of_mem (f:=fun x:Nat × OB=>x.1) (Heap.of_mem hc)
   rw [if_neg (fun e'=>e (h p.1 c (by simp) (by simp only [List.map_cons,List.mem_cons]; exact .inr hm) e'))]
   exact ih (fun a b ha hb=>h a b (List.mem_cons_of_mem _ ha) (List.mem_cons_of_mem _ hb)) hc
theorem heap_of_map_inv {l:List (Nat × Nat)} {hs:List (Nat × OB)} {i:Nat} {ob:OB} (hi:Heap.of (hs.map fun p=>(renI l p.1,rnB l p.2)) i=some ob):∃ c ob0,(c,ob0) ∈ hs/\i=renI l c/\ob=rnB l ob0:=by
 obtain ⟨p,hp,he⟩:=List.mem_map.1 (Heap.of_mem hi)
 cases he
 exact ⟨p.1,p.2,hp,rfl,rfl⟩
theorem triple_io {P:Program} {f:FuncId} {fn:Func} {c:Code} {T:Tab} (hf:P.funcs[f]? = some fn) (hb:fn.body=some c) (hcall:Callable P f) (hT:Tab.ok P T) (s:IoSpec) (N:Nat) (l:List (Nat × Nat))
  (hok:s.ok N (l.map (·.1))=true) (hnd:(l.map (·.2)).Nodup) (hn:s.args.length<=fn.ntmps) (hfn:∀ E E':Env,E'.M=E.M->E'.fns=E.fns->s.fnok E->s.fnok E')
  (body:s.pre -> ∀ C:Ctx,C.P=P/\C.ro=none/\C.df=true->s.fnok C.E0->(∀ j,N<=j->C.E0.blk j=none/\C.E0.hdr j=none)->SWP C fn.ntmps c (RetO C fn.ntmps T fn.results.toList s.res s.hout) ⟨argsTm s.args 0,s.hin,N⟩) :
  Triple P f (s.at l):=by
 simp only [IoSpec.ok,Bool.and_eq_true,List.all_eq_true,List.contains_eq_mem,decide_eq_true_eq] at hok
 obtain ⟨⟨⟨⟨⟨⟨o1,o2⟩,o3⟩,o4⟩,o5⟩,o6⟩,o7⟩:=hok
 have hkd:(l.map (·.1)).Nodup:=noDup_nodup o1
 have hargs:s.args.all (kV (s.hin.map (·.1)))=true:=by rw [List.all_eq_true]; exact o4
 have hik:∀ a,a ∈ s.hin.map (·.1)->a ∈ l.map (·.1)/\a < N:=by
  intro a ha
  obtain ⟨p,hp,rfl⟩:=List.mem_map.1 ha
  exact ⟨(o5 p hp).1.2,(o5 p hp).2⟩
 have hok':∀ a,a ∈ s.hout.map (·.1)->a ∈ l.map (·.1):=by
  intro a ha
  obtain ⟨p,hp,rfl⟩:=List.mem_map.1 ha
  exact (o7 p hp).2
 have inj:∀ a b,a ∈ l.map (·.1)->b ∈ l.map (·.1)->renI l a=renI l b->a=b:=fun a b ha hb e=>renI_inj hkd hnd ha hb e
 refine ⟨hcall,fun hpre E w vs hfnok hh hlen hrel hfresh => ?_⟩
 let hinR:=s.hin.map (fun p=>(renI l p.1,rnB l p.2))
 let E0:Env:={ E with blk:=fun j=>if j ∈ s.hin.map (·.1) then E.blk (renI l j) else none,hdr:=fun j=>if j ∈ s.hin.map (·.1) then E.hdr (renI l j) else none }
 have hs0:∀ c,c ∈ s.hin.map (·.1)->E.blk (renI l c)=E0.blk c/\E.hdr (renI l c)=E0.hdr c:=by
  intro c hc
  exact ⟨(if_pos hc).symm,(if_pos hc).symm⟩
 let C:Ctx:=⟨P,w,E0,(calleeCtx P E w hinR).avail,fun _ h => .inl h,none,true⟩
 have hok0:HeapOK C E0 (Heap.of s.hin) w:=by
  refine ⟨rfl,rfl,rfl,Nat.le_refl _,fun _ _=>rfl,fun b o h=>hh.mem b o h,Env.le.refl _,fun b o h => .inl h,fun i ob h => ?_,fun i j x hij hi hj hix hjx => ?_⟩
  ·have hm:i ∈ s.hin.map (·.1):=List.mem_map_of_mem (f:=fun x:Nat × OB=>x.1) (Heap.of_mem h)
   have ho:=hh.own (renI l i) (rnB l ob) (heap_of_map (fun a b ha hb=>inj a b (hik a ha).1 (hik b hb).1) h)
   exact rnB_inv (C:=calleeCtx P E w hinR) (C':=C) (E:=E0) (F:=E) rfl rfl hs0 (fun _ h=>h) hm (o5 _ (Heap.of_mem h)).1.1 ho
  ·have get:∀ i,Heap.of s.hin i ≠ none -> ∃ ob,Heap.of s.hin i=some ob:=fun i h=>by
    cases e:Heap.of s.hin i with
    | none=>exact absurd e h
    | some ob=>exact ⟨ob,rfl⟩
   obtain ⟨oi,ei⟩:=get i hi
   obtain ⟨oj,ej⟩:=get j hj
   have mi:i ∈ s.hin.map (·.1):=List.mem_map_of_mem (f:=fun x:Nat × OB=>x.1) (Heap.of_mem ei)
   have mj:j ∈ s.hin.map (·.1):=List.mem_map_of_mem (f:=fun x:Nat × OB=>x.1) (Heap.of_mem ej)
   have hR:=fun a b (ha:a ∈ s.hin.map (·.1)) (hb:b ∈ s.hin.map (·.1))=>inj a b (hik a ha).1 (hik b hb).1
   refine hh.sep (renI l i) (renI l j) x (fun e=>hij (hR i j mi mj e)) ?_ ?_ (by rw [(hs0 i mi).1]; exact hix) (by rw [(hs0 j mj).1]; exact hjx)
   ·show Heap.of hinR _ ≠ none
    rw [heap_of_map hR ei]; simp
   ·show Heap.of hinR _ ≠ none
    rw [heap_of_map hR ej]; simp
 have hl':vs.length=s.args.length:=by rw [hlen]; exact List.length_map _
 have htm:∀ t,Rel E0 true (look (argsTm s.args 0) t) ((vs.toArray ++ Array.replicate (fn.ntmps - vs.toArray.size) undef).getD t undef):=by
  intro t
  rw [look_args,if_pos (Nat.zero_le _),Nat.sub_zero]
  rcases Nat.lt_or_ge t vs.length with ht | ht
  ·have h1:(vs.toArray ++ Array.replicate (fn.ntmps - vs.toArray.size) undef).getD t undef=vs.getD t undef:=by
    simp only [Array.getD_eq_getD_getElem?,List.getD_eq_getElem?_getD]
    rw [Array.getElem?_append_left (by simpa using ht)]
    simp
   rw [h1]
   have h2:=hrel t
   rw [show (s.at l).args=s.args.map (rnV l) from rfl,getD_map_any _ rfl] at h2
   exact rnV_inv (E:=E0) (F:=E) rfl rfl hs0 (all_getD (p:=kV (s.hin.map (·.1))) rfl hargs t) h2
  ·rw [List.getD_eq_getElem?_getD,List.getElem?_eq_none (by omega)]
   exact .any _
 have hnone:∀ j,N<=j->E0.blk j=none/\E0.hdr j=none:=by
  intro j hj
  have:¬ j ∈ s.hin.map (·.1):=fun h=>by have:=(hik j h).2; omega
  exact ⟨if_neg this,if_neg this⟩
 have hsat:Sat C E0 fn.ntmps ⟨argsTm s.args 0,s.hin,N⟩ w { tmps:=vs.toArray ++ Array.replicate (fn.ntmps - vs.toArray.size) undef,defers:=[] } :=
  ⟨⟨hok0,htm,⟨fun _=>rfl,trivial⟩,by simp; omega⟩,fun j hj=>hnone j hj⟩
 have hsw:=body hpre C ⟨rfl,rfl,rfl⟩ (hfn E E0 rfl rfl hfnok) hnone E0 w _ hsat
 refine callsIn_marks hf hb (wpIn_mono (F:=Fence.wide) hsw ?_)
 rintro e a0 w0' ⟨x,E0',st1,rfl,hsX,hk1⟩
 have fin:∀ (E1:Env) (w':World) (a':Act),Sat C E1 fn.ntmps st1 w' a'->(∃ st2,Ent C fn.ntmps st1 st2/\retO T fn.results.toList st2 s.res s.hout) -> ∃ v,(results fn a'.tmps).run P w' = .ok v w'/\CallPost P (s.at l) E w (.returned v) w':=by
  rintro E1 w' a' hs1 ⟨st2,hent,hq⟩
  obtain ⟨E',hs'⟩:=hent E1 w' a' hs1
  unfold retO at hq
  split at hq
  ·rename_i q rvs hrv
   obtain ⟨hq0,hres0,hho⟩:=hq
   obtain ⟨us,hus,hul,hur⟩:=resVals_run (C:=C) hT hs' _ q rvs hrv hq0
   refine ⟨_,results_run (P:=P) hus,?_⟩
   have hrv':Rel E' true (retAV rvs) (if h:us.length=1 then us[0] else .tuple us.toArray):=by
    cases rvs with
    | nil =>
     have:us = []:=List.eq_nil_of_length_eq_zero hul
     subst this
     exact .tup rfl (fun k=>hur k)
    | cons v r =>
     cases r with
     | nil =>
      have hul1:us.length=1:=hul
      rw [dif_pos hul1]
      have:=hur 0
      simp only [List.getD_cons_zero] at this
      rw [List.getD_eq_getElem?_getD,List.getElem?_eq_getElem (by omega)] at this
      exact this
     | cons v2 r =>
      have hne:¬ us.length=1:=by rw [hul]; simp
      rw [dif_neg hne]
      exact .tup (cs:=v :: v2 :: r) hul hur
   rw [hres0] at hrv'
   have hle:=hs'.ok.heap.le
   let lo:=l.filter fun p=>(s.hout.map (·.1)).contains p.1
   have hlod:(lo.map (·.2)).Nodup:=(List.Sublist.map _ List.filter_sublist).nodup hnd
   have hlo:∀ c,c ∈ s.hout.map (·.1)->unI lo (renI l c)=some c:=by
    intro c hc
    refine unI_of hlod ?_
    exact List.mem_filter.2 ⟨renI_mem (hok' c hc),by simpa using hc⟩
   have hloi:∀ j c,unI lo j=some c->c ∈ s.hout.map (·.1)/\renI l c=j:=by
    intro j c h
    have hm:=unI_mem h
    obtain ⟨h1,h2⟩:=List.mem_filter.1 hm
    have hc:c ∈ s.hout.map (·.1):=by simpa using h2
    refine ⟨hc,?_⟩
    have ma:=renI_mem (hok' c hc)
    have key:∀ {l:List (Nat × Nat)},(l.map (·.1)).Nodup -> ∀ {c a b:Nat},(c,a) ∈ l->(c,b) ∈ l->a=b:=by
     intro l
     induction l with
     | nil=>intro _ c a b h; cases h
     | cons p r ih =>
      intro hn c a b ha hb
      rw [List.map_cons,List.nodup_cons] at hn
      cases ha with
      | head =>
       cases hb with
       | head=>rfl
       | tail _ hb=>exact absurd (List.mem_map_of_mem (f:=fun x:Nat × Nat=>x.1) hb) hn.1
      | tail _ ha =>
       cases hb with
       | head=>exact absurd (List.mem_map_of_mem (f:=fun x:Nat × Nat=>x.1) ha) hn.1
       | tail _ hb=>exact ih hn.2 ha hb
    exact key hkd ma h1
   let F:Env:={ E with M:=E'.M,blk:=fun j=>match unI lo j with | some c=>E'.blk c | none=>E.blk j,hdr:=fun j=>match unI lo j with | some c=>E'.hdr c | none=>E.hdr j }
   have Fb:∀ j c,unI lo j=some c->F.blk j=E'.blk c/\F.hdr j=E'.hdr c:=by
    intro j c h
    constructor
    ·show (match unI lo j with | some c=>E'.blk c | none=>E.blk j)=_
     rw [h]
    ·show (match unI lo j with | some c=>E'.hdr c | none=>E.hdr j)=_
     rw [h]
   have Fn:∀ j,unI lo j=none->F.blk j=E.blk j/\F.hdr j=E.hdr j:=by
    intro j h
    constructor
    ·show (match unI lo j with | some c=>E'.blk c | none=>E.blk j)=_
     rw [h]
    ·show (match unI lo j with | some c=>E'.hdr c | none=>E.hdr j)=_
     rw [h]
   have hfns:F.fns=E'.fns:=by
    show E.fns=E'.fns
    exact (hle.fns.symm:E0.fns=E'.fns)
   have hren:Rn l (s.hout.map (·.1)) E' F:=⟨fun b o h=>h,hfns,fun c hc=>Fb _ _ (hlo c hc)⟩
   have lF:E.le F:=by
    refine ⟨fun b o h=>hle.M b o h,fun j k h => ?_,fun j u h => ?_,rfl⟩
    ·cases e:unI lo j with
     | none=>rw [(Fn j e).1]; exact h
     | some c =>
      rw [(Fb j c e).1]
      obtain ⟨hc,rfl⟩:=hloi j c e
      by_cases hi:c ∈ s.hin.map (·.1)
      ·exact hle.blk c k (by rw [← (hs0 c hi).1]; exact h)
      ·exfalso
       obtain ⟨p,hp,rfl⟩:=List.mem_map.1 hc
       have:=hfresh (renI l p.1,rnB l p.2) (List.mem_map_of_mem (f:=fun p:Nat × OB=>(renI l p.1,rnB l p.2)) hp) (fun q hq e=>by
        obtain ⟨p2,hp2,rfl⟩:=List.mem_map.1 hq
        have hm2:p2.1 ∈ s.hin.map (·.1):=List.mem_map_of_mem (f:=fun x:Nat × OB=>x.1) hp2
        exact hi (by rw [← inj _ _ (hik _ hm2).1 (hok' _ hc) e]; exact hm2))
       rw [this.1] at h; cases h
    ·cases e:unI lo j with
     | none=>rw [(Fn j e).2]; exact h
     | some c =>
      rw [(Fb j c e).2]
      obtain ⟨hc,rfl⟩:=hloi j c e
      by_cases hi:c ∈ s.hin.map (·.1)
      ·exact hle.hdr c u (by rw [← (hs0 c hi).2]; exact h)
      ·exfalso
       obtain ⟨p,hp,rfl⟩:=List.mem_map.1 hc
       have:=hfresh (renI l p.1,rnB l p.2) (List.mem_map_of_mem (f:=fun p:Nat × OB=>(renI l p.1,rnB l p.2)) hp) (fun q hq e=>by
        obtain ⟨p2,hp2,rfl⟩:=List.mem_map.1 hq
        have hm2:p2.1 ∈ s.hin.map (·.1):=List.mem_map_of_mem (f:=fun x:Nat × OB=>x.1) hp2
        exact hi (by rw [← inj _ _ (hik _ hm2).1 (hok' _ hc) e]; exact hm2))
       rw [this.2] at h; cases h
   have h':=hs'.ok.heap
   refine ⟨_,F,rfl,?_,rnR_rel hren o6 hrv',fun j hj => ?_⟩
   ·refine ⟨h'.os,h'.tape,h'.output,h'.size,fun x hx=>h'.pres x hx,fun x o h=>h'.mem x o h,lF,fun x o h=>h'.ext x o h,fun i ob hi => ?_,fun i j y hij hi hj hiy hjy => ?_⟩
    ·obtain ⟨c,ob0,hm,rfl,rfl⟩:=heap_of_map_inv hi
     have hc:c ∈ s.hout.map (·.1):=List.mem_map_of_mem (f:=fun x:Nat × OB=>x.1) hm
     exact rnB_own (C:=C) (C':=calleeCtx P E w hinR) hren (fun _ h=>h) (fun _ h=>h) hc (o7 _ hm).1 (h'.own c ob0 (hoIn_mem hho _ hm))
    ·have get:∀ i,Heap.of (s.at l).hout i ≠ none->F.blk i=some y -> ∃ c,i=renI l c/\Heap.of st2.hp c ≠ none/\E'.blk c=some y:=by
      intro i hi hiy
      cases e:Heap.of (s.at l).hout i with
      | none=>exact absurd e hi
      | some ob =>
       obtain ⟨c,ob0,hm,rfl,rfl⟩:=heap_of_map_inv e
       have hc:c ∈ s.hout.map (·.1):=List.mem_map_of_mem (f:=fun x:Nat × OB=>x.1) hm
       refine ⟨c,rfl,by rw [hoIn_mem hho _ hm]; simp,?_⟩
       rw [← (Fb _ _ (hlo c hc)).1]; exact hiy
     obtain ⟨c1,rfl,n1,k1⟩:=get i hi hiy
     obtain ⟨c2,rfl,n2,k2⟩:=get j hj hjy
     exact h'.sep c1 c2 y (fun e=>hij (by rw [e])) n1 n2 k1 k2
   ·refine Fn j ?_
    cases e:unI lo j with
    | none=>rfl
    | some c =>
     obtain ⟨hc,rfl⟩:=hloi j c e
     obtain ⟨p,hp,rfl⟩:=List.mem_map.1 hc
     exact absurd rfl (hj (renI l p.1,rnB l p.2) (List.mem_map_of_mem (f:=fun p:Nat × OB=>(renI l p.1,rnB l p.2)) hp))
  ·exact hq.elim
 have go:(∃ st2,Ent C fn.ntmps st1 st2/\retO T fn.results.toList st2 s.res s.hout)->LeavesInM Fence.wide 0 P fn a0.tmps (CallPost P (s.at l) E w) a0.defers .returning w0':=fun hq =>
  leaves_marks (C:=C) (fun E1 w1 h1=>fin E1 w1 { tmps:=a0.tmps,defers:=[] } h1 hq) a0.defers E0' w0' hsX
 cases x with
 | normal=>exact go hk1
 | ret=>exact go hk1
 | exit id=>exact hk1.elim
section
variable {C:Ctx} {nt:Nat} {st:ASt}
theorem ent_n {st2:ASt} (N:Nat) (hE0:∀ j,N<=j->C.E0.blk j=none/\C.E0.hdr j=none) (bs:List Nat) (mp:List (Nat × Src)) (kt kh:List Nat) (q:Prop) (hb:entB N st2 bs mp=true) (he:entK st st2 bs mp kt kh=q) (hq:q):Ent C nt st st2 :=
 ent_of hE0 bs mp hb (entK_Q (by rw [he]; exact hq))
end
end Go.Ab
namespace Go.Ab
open Go Go.RowKit
def flatC:AV->Bool
 | .lit _=>true
 | .vec _=>true
 | .ptr _ _=>true
 | .sl _ 0 _=>true
 | .slc _ 0 _=>true
 | .rp []=>true
 | .opt _ []=>true
 | _=>false
def flatV1:AV->Bool
 | .agg cs=>cs.all flatC
 | v=>flatC v
def flatV:AV->Bool
 | .tup vs=>vs.all flatV1
 | v=>flatV1 v
def flatOB:OB->Prop
 | .vec _ _ n f => ∀ i,i < n->(f i).all flatC=true
 | .cells _ cs=>cs.all flatC=true
 | _=>False
structure SameB (E F:Env):Prop where
 blk:F.blk=E.blk
 hdr:F.hdr=E.hdr
theorem flatC_rel {E F:Env} (h:SameB E F) {o:Bool} {v:AV} {u:Value} (hf:flatC v=true) (hr:Rel E o v u):Rel F o v u:=by
 cases v <;> simp only [flatC] at hf <;> try (cases hf; done)
 ·cases hr; exact .lit _
 ·rename_i sz n f
  cases n with
  | succ n=>simp [flatC] at hf
  | zero =>
   cases hr with
   | slN=>exact .slN _ _
   | slZ=>exact .slZ _ _ _
   | slA _ _ _ b off cap g hn hc hg hm h=>exact .slA _ _ _ b off cap g hn hc (fun i hi=>absurd hi (Nat.not_lt_zero _)) (fun i k hi=>absurd hi (Nat.not_lt_zero _)) (fun i hi=>absurd hi (Nat.not_lt_zero _))
 ·rename_i sz n f
  cases n with
  | succ n=>simp [flatC] at hf
  | zero =>
   cases hr with
   | slcN=>exact .slcN _ _
   | slcZ=>exact .slcZ _ _ _
   | slcA _ _ _ b off g hc hg hm h=>exact .slcA _ _ _ b off g hc (fun i hi=>absurd hi (Nat.not_lt_zero _)) (fun i k hi=>absurd hi (Nat.not_lt_zero _)) (fun i hi=>absurd hi (Nat.not_lt_zero _))
 ·rename_i cs
  cases cs with
  | cons c cs=>simp [flatC] at hf
  | nil =>
   cases hr with
   | rp b off hm h=>cases h; exact .rp b off (fun k hk=>absurd hk (Nat.not_lt_zero _)) .nil
 ·rename_i g cs
  cases cs with
  | cons c cs=>simp [flatC] at hf
  | nil =>
   cases hr with
   | optN _ h1=>exact .optN _ h1
   | optS b off hg hm hl=>cases hl; exact .optS b off hg (fun k hk=>absurd hk (Nat.not_lt_zero _)) .nil
 ·cases hr with | ptr _ _ hb=>exact .ptr _ _ (by rw [h.blk]; exact hb)
 ·cases hr with | vec _ hb h1=>exact .vec _ (by rw [h.hdr]; exact hb) h1
theorem flatL_rel {E F:Env} (h:SameB E F) {o:Bool}:∀ {cs:List AV} {us:List Value},cs.all flatC=true->RelL E o cs us->RelL F o cs us:=by
 intro cs
 induction cs with
 | nil=>intro us _ hr; cases hr; exact .nil
 | cons c cs ih =>
  intro us hf hr
  simp only [List.all_cons,Bool.and_eq_true] at hf
  cases hr with
  | cons hr h1 hs=>exact .cons (flatC_rel h hf.1 hr) h1 (ih hf.2 hs)
  | arr g hg hr hs=>simp [flatC] at hf
theorem flatV1_rel {E F:Env} (h:SameB E F) {o:Bool} {v:AV} {u:Value} (hf:flatV1 v=true) (hr:Rel E o v u):Rel F o v u:=by
 cases v with
 | agg cs=>cases hr with | agg hr=>exact .agg (flatL_rel h hf hr)
 | _=>exact flatC_rel h hf hr
theorem flatV_rel {E F:Env} (h:SameB E F) {o:Bool} {v:AV} {u:Value} (hf:flatV v=true) (hr:Rel E o v u):Rel F o v u:=by
 cases v with
 | tup cs =>
  cases hr with
  | tup hl hk =>
   refine .tup hl fun k => ?_
   rcases Nat.lt_or_ge k cs.length with hlt | hge
   ·refine flatV1_rel h ?_ (hk k)
    have:cs.getD k .any=cs[k]:=by simp [List.getD,List.getElem?_eq_getElem hlt]
    rw [this]
    exact List.all_eq_true.1 hf _ (List.getElem_mem hlt)
   ·rw [List.getD_eq_getElem?_getD,List.getElem?_eq_none hge]; exact .any _
 | _=>exact flatV1_rel h hf hr
def cellAt (args:List AV) (j:Nat):Option Nat->AV
 | none=>args.getD j .any
 | some k=>match args.getD j .any with
  | .agg cs=>cs.getD k .any
  | _ => .any
def setAt (args:List AV) (j:Nat) (k:Option Nat) (v:AV):List AV :=
 match k with
 | none=>args.set j v
 | some k=>match args.getD j .any with
  | .agg cs=>args.set j (.agg (cs.set k v))
  | _=>args
def lendS (t:TypeId) (b j:Nat) (k:Option Nat) (s:CallSpec):CallSpec :=
 match cellAt s.args j k with
 | .sl sz n f=>{ s with args:=setAt s.args j k (.vec b),hin:=[(b,.vec t sz n f)],hout:=(b,.vec t sz n f) :: s.hout,eqv:=[] }
 | _=>s.raw
theorem set_rel {E F:Env} (le:E.le F) {b:Nat} {v:AV} (hv:∀ hd,E.hdr b=some hd->Rel F true v hd):∀ {cs:List AV} {k:Nat} {us:List Value},cs.getD k .any=v->v ≠ .any->RelL E true (cs.set k (.vec b)) us->RelL F true cs us:=by
 intro cs
 induction cs with
 | nil=>intro k us hk hn _; exact absurd hk.symm (by simpa using hn)
 | cons c cs ih =>
  intro k us hk hn hr
  cases k with
  | zero =>
   have hc:c=v:=by simpa using hk
   cases hr with
   | cons hr h1 hs =>
    cases hr with
    | vec _ hh _=>rw [hc]; exact .cons (hv _ hh) h1 (hs.mono le)
  | succ k =>
   have hk':cs.getD k .any=v:=by simpa using hk
   cases hr with
   | cons hr h1 hs=>exact .cons (hr.mono le) h1 (ih hk' hn hs)
   | arr g hg hr hs=>exact .arr g hg (fun i hi=>(hr i hi).mono le) (ih hk' hn hs)
theorem setAt_rel {E F:Env} (le:E.le F) {args:List AV} {j b:Nat} {k:Option Nat} {v:AV} (hv:∀ hd,E.hdr b=some hd->Rel F true v hd) (hc:cellAt args j k=v) (hn:v ≠ .any)
  {i:Nat} {u:Value} (hr:Rel E true ((setAt args j k (.vec b)).getD i .any) u):Rel F true (args.getD i .any) u:=by
 have hset:∀ x:AV,i ≠ j->(args.set j x).getD i .any=args.getD i .any:=fun x hi=>by
  rw [List.getD_eq_getElem?_getD,List.getD_eq_getElem?_getD,List.getElem?_set_ne (Ne.symm hi)]
 have hin:∀ x:AV,args.getD j .any ≠ .any->(args.set j x).getD j .any=x:=fun x hx=>by
  rcases Nat.lt_or_ge j args.length with h | h
  ·rw [List.getD_eq_getElem?_getD,List.getElem?_set_self h]; rfl
  ·exact absurd (by rw [List.getD_eq_getElem?_getD,List.getElem?_eq_none h]; rfl) hx
 cases k with
 | none =>
  have hc':args.getD j .any=v:=hc
  have hs:setAt args j none (.vec b)=args.set j (.vec b):=rfl
  rw [hs] at hr
  by_cases hi:i=j
  ·subst hi
   rw [hin _ (by rw [hc']; exact hn)] at hr
   rw [hc']
   cases hr with | vec _ hh _=>exact hv _ hh
  ·rw [hset _ hi] at hr; exact hr.mono le
 | some k =>
  generalize hz:args.getD j .any=z at *
  cases z with
  | agg cs =>
   have hs:setAt args j (some k) (.vec b)=args.set j (.agg (cs.set k (.vec b))):=by simp only [setAt,hz]
   have hc':cs.getD k .any=v:=by simp only [cellAt,hz] at hc; exact hc
   rw [hs] at hr
   by_cases hi:i=j
   ·subst hi
    rw [hin _ (by simp)] at hr
    rw [hz]
    cases hr with | agg hr=>exact .agg (set_rel le hv hc' hn hr)
   ·rw [hset _ hi] at hr; exact hr.mono le
  | _=>exact absurd (by simp only [cellAt,hz] at hc; exact hc.symm) hn
theorem lendT {P:Program} {f:FuncId} {s:CallSpec} (t:TypeId) (b j:Nat) (k:Option Nat) (h:Triple P f s) (hin:s.hin = []:=by rfl) (hres:flatV s.res=true:=by rfl) (hout:∀ p ∈ s.hout,p.1 ≠ b/\flatOB p.2:=by first | (intro p hp; cases hp; done) | (intro p hp; rcases List.mem_cons.1 hp with rfl | hp; (exact ⟨Nat.ne_of_beq_eq_false rfl,fun _ _=>rfl⟩); cases hp)) (hfn:∀ E,s.fnok E:=by (intro _; trivial)) :
  Triple P f (lendS t b j k s):=by
 unfold lendS
 split
 case h_2=>exact h
 rename_i sz n fr hcell
 refine ⟨h.1,fun hpre E w vs _ hok hlen hrel hfresh => ?_⟩
 obtain ⟨E1,le1,hb1,hh1,hok1,hr1⟩:=hok.freezeVec (b:=b) (t:=t) (sz:=sz) (n:=n) (f:=fr) (by rw [Heap.of_cons]; exact if_pos rfl)
 have hown:OwnOB (calleeCtx P E w [(b,OB.vec t sz n fr)]) E w b (.vec t sz n fr):=hok.own b (.vec t sz n fr) (by rw [Heap.of_cons]; exact if_pos rfl)
 have hlen':vs.length=s.args.length:=by
  rw [hlen]
  show (setAt s.args j k (.vec b)).length=_
  unfold setAt
  split
  ·simp
  ·split
   ·simp
   ·rfl
 have hrel':∀ i,Rel E1 true (s.args.getD i .any) (vs.getD i undef):=fun i=>setAt_rel le1 (fun hd hh=>hr1 hd hh true) hcell (by simp) (hrel i)
 have hokc:HeapOK (calleeCtx P E1 w s.hin) E1 (Heap.of s.hin) w:=by
  rw [hin]
  exact ⟨rfl,rfl,rfl,Nat.le_refl _,fun _ _=>rfl,fun b o hb=>hok1.mem b o hb,Env.le.refl _,fun b o hb => .inl hb,(fun i ob hi=>by cases hi),(fun i j k _ hi=>absurd rfl hi)⟩
 have hfr:∀ p ∈ s.hout,(∀ q ∈ s.hin,q.1 ≠ p.1)->E1.blk p.1=none/\E1.hdr p.1=none:=by
  intro p hp _
  rw [hb1,hh1]
  refine hfresh p (List.mem_cons_of_mem _ hp) fun q hq => ?_
  simp only [List.mem_singleton] at hq
  rw [hq]
  exact (hout p hp).1.symm
 refine (h.2 hpre E1 w vs (hfn E1) hokc hlen' hrel' hfr).mono ?_
 rintro e w' ⟨v,E3,rfl,h3,hv,hsame⟩
 rw [hin] at h3
 -- the row comes back
 let E4:Env:={ E3 with M:=fun x=>if E.blk b=some x then none else E3.M x }
 have hsb:SameB E3 E4:=⟨rfl,rfl⟩
 have hEM:∀ x,E.blk b=some x->E.M x=none/\x < w.heap.size:=by
  intro x hx
  have hlt:=OwnOB.blk_lt hok.mem hown hx
  obtain ⟨hd,g,hh,_,_,_,hbk,hav⟩:=hown
  exact ⟨(hav x (hbk.symm.trans hx)).2,hlt⟩
 have hfns:E4.fns=E.fns:=by show E3.fns=_; rw [h3.le.fns]; exact le1.fns
 have leE:E.le E4:=⟨fun x o hx=>by
   show (if E.blk b=some x then none else E3.M x)=some o
   rw [if_neg (fun e=>by rw [(hEM x e).1] at hx; cases hx)]
   exact h3.le.M _ _ (le1.M _ _ hx),
  fun c x hx=>h3.le.blk _ _ (by show E1.blk c=some x; rw [hb1]; exact hx),fun c u hu=>h3.le.hdr _ _ (by show E1.hdr c=some u; rw [hh1]; exact hu),hfns⟩
 have hnb:∀ p ∈ s.hout,p.1 ≠ b:=fun p hp=>(hout p hp).1
 have hblk:E3.blk b=E.blk b:=by rw [(hsame b hnb).1,hb1]
 have hhdr:E3.hdr b=E.hdr b:=by rw [(hsame b hnb).2,hh1]
 have hna:∀ x,x < w.heap.size -> ¬ (calleeCtx P E1 w []).avail x:=by
  intro x hx ha
  rcases ha with ha | ⟨q,hq,_⟩
  ·omega
  ·cases hq
 refine ⟨v,E4,rfl,?_,flatV_rel hsb hres hv,?_⟩
 ·refine ⟨h3.os,h3.tape,h3.output,h3.size,?_,?_,leE,?_,?_,?_⟩
  ·intro x hx
   exact h3.pres x fun ha=>by
    rcases ha with ha | ⟨q,hq,_⟩
    ·exact hx (.inl ha)
    ·cases hq
  ·intro x o hx
   replace hx:(if E.blk b=some x then none else E3.M x)=some o:=hx
   split at hx
   ·cases hx
   ·exact h3.mem x o hx
  ·intro x o hx
   replace hx:(if E.blk b=some x then none else E3.M x)=some o:=hx
   split at hx
   ·cases hx
   ·rename_i hne
    rcases h3.ext x o hx with h | h
    ·rcases hok1.ext x o h with h | h
     ·exact .inl h
     ·exact .inr h
    ·rcases h with h | ⟨q,hq,_⟩
     ·exact .inr (.inl h)
     ·cases hq
  ·intro i ob hi
   rw [Heap.of_cons] at hi
   split at hi
   ·rename_i e
    have e1:i=b:=Eq.symm e
    have e2:ob=OB.vec t sz n fr:=by cases hi; rfl
    rw [e1,e2]
    refine hown.move (E':=E4) (.inl rfl) (fun _ _ h=>h) (fun x o hx=>leE.M x o hx) hblk (fun u hu=>hhdr.trans hu) (fun x hx=>h3.pres x (hna x (hEM x hx).2)) (fun x hx _=>if_pos hx) (fun o cs us hr=>⟨⟨fun _ _=>hr.mono leE,fun _ _ _ _ _ _=>hr.mono leE⟩,fun _=>hr.mono leE⟩)
   ·rename_i hne
    have hm:=Heap.of_mem hi
    have hfl:=(hout _ hm).2
    have ho:=h3.own i ob hi
    have hN:∀ x,E3.M x=none->E4.M x=none:=fun x hx=>by
     show (if E.blk b=some x then none else E3.M x)=none
     rw [hx]; split <;> rfl
    have hav:∀ x,(calleeCtx P E1 w []).avail x->(calleeCtx P E w [(b,OB.vec t sz n fr)]).avail x:=fun x ha=>by
     rcases ha with ha | ⟨q,hq,_⟩
     ·exact .inl ha
     ·cases hq
    cases ob with
    | cells t cs =>
     obtain ⟨k,us,hk,ha,hm,hw,hr⟩:=ho
     exact ⟨k,us,hk,hav k ha,hN k hm,hw,flatL_rel hsb hfl hr⟩
    | vec t sz n f =>
     obtain ⟨hd,g,hh,ho,hl,hr,hb,hc⟩:=ho
     exact ⟨hd,g,hh,ho,hl,fun i hi=>flatL_rel hsb (hfl i hi) (hr i hi),hb,fun k hk=>⟨hav k (hc k hk).1,hN k (hc k hk).2⟩⟩
    | _=>exact hfl.elim
  ·intro i j k hij hi hj hik hjk
   have key:∀ i,i ≠ b->Heap.of ((b,OB.vec t sz n fr) :: s.hout) i ≠ none->Heap.of s.hout i ≠ none:=by
    intro i hib h e
    rw [Heap.of_cons] at h
    split at h
    ·rename_i e'; exact hib e'.symm
    ·exact h e
   have hopen:∀ i,Heap.of s.hout i ≠ none->E3.blk i=some k->w.heap.size<=k:=by
    intro i hi hik
    cases e:Heap.of s.hout i with
    | none=>exact absurd e hi
    | some ob =>
     have ho:=h3.own i ob e
     have hfl:=(hout _ (Heap.of_mem e)).2
     have hav:(calleeCtx P E1 w []).avail k:=by
      cases ob with
      | cells t cs=>obtain ⟨k',us,hk',ha,_⟩:=ho; rw [hk'] at hik; cases hik; exact ha
      | vec t sz n f=>obtain ⟨hd,g,hh,_,_,_,hbk,hav⟩:=ho; exact (hav k (hbk.symm.trans hik)).1
      | _=>exact hfl.elim
     rcases hav with h | ⟨q,hq,_⟩
     ·exact h
     ·cases hq
   by_cases hib:i=b
   ·subst hib
    have hjb:j ≠ i:=fun e=>hij e.symm
    have h1:=hopen j (key j hjb hj) hjk
    have h2:=(hEM k (by rw [← hblk]; exact hik)).2
    omega
   ·by_cases hjb:j=b
    ·subst hjb
     have h1:=hopen i (key i hib hi) hik
     have h2:=(hEM k (by rw [← hblk]; exact hjk)).2
     omega
    ·exact h3.sep i j k hij (key i hib hi) (key j hjb hj) hik hjk
 ·intro c hc
  have h1:=hsame c (fun p hp=>hc p (List.mem_cons_of_mem _ hp))
  exact ⟨by show E3.blk c=_; rw [h1.1,hb1],by show E3.hdr c=_; rw [h1.2,hh1]⟩
theorem Rel.optW {E:Env} {o:Bool} {g:Bool} {cs:List AV} {u:Value} (h:Rel E o (.opt g cs) u):Rel E o (.opt g []) u:=by
 cases h with
 | optN _ h=>exact .optN _ h
 | optS b off hg hm hl=>exact .optS (us:=[]) b off hg (fun k hk=>absurd hk (Nat.not_lt_zero _)) .nil
theorem triple_optW {P:Program} {f:FuncId} {s:CallSpec} {g:Bool} {cs:List AV} (h:Triple P f s) (hs:s.res = .opt g cs):Triple P f { s with res := .opt g [] }:=by
 refine ⟨h.1,fun hp E w vs hf hh hl hr hq => ?_⟩
 refine (h.2 hp E w vs hf hh hl hr hq).mono ?_
 rintro e w2 ⟨v,E2,rfl,hok,hrel,hb⟩
 exact ⟨v,E2,rfl,hok,by rw [hs] at hrel; exact hrel.optW,hb⟩
end Go.Ab
namespace Go.Ab
open Go Go.RowKit
theorem rnC_nil (v:AV):rnC [] v=v:=by cases v <;> rfl
theorem rnCs_nil (cs:List AV):cs.map (rnC [])=cs:=by rw [List.map_congr_left (fun v _=>rnC_nil v),List.map_id']
theorem rnV_nil (v:AV):rnV [] v=v:=by
 cases v with
 | agg cs=>simp only [rnV,rnCs_nil]
 | clo f cs=>simp only [rnV,rnCs_nil]
 | _=>first | rfl | (simp only [rnV,rnC_nil])
theorem rnB_nil (ob:OB):rnB [] ob=ob:=by
 cases ob with
 | cells t cs=>simp only [rnB,rnCs_nil]
 | vecx t sz n f j fj=>simp only [rnB,rnCs_nil]
 | _=>rfl
def RndK (C:Ctx) (nt:Nat) (hout:List (Nat × OB)):AX->ASt->Prop
 | .normal,st => ∃ st2,Ent C nt st st2/\hoIn st2.hp hout
 | _,_=>False
def AsgK (P:Program) (N nt:Nat) (body:Code) (hout:List (Nat × OB)):AX->ASt->Prop
 | .normal,st => ∀ C:Ctx,C.P=P->(∀ j,N<=j->C.E0.blk j=none/\C.E0.hdr j=none)->SWP C nt body (RndK C nt hout) st
 | _,_=>False
def rndOK (s:CallSpec) (tm:List (Nat × AV)) (N:Nat):Bool :=
 noDup (s.hin.map (·.1)) && tm.all (fun p=>kV (s.hin.map (·.1)) p.2) && s.hin.all (fun p=>kB (s.hin.map (·.1)) p.2 && decide (p.1 < N)) && s.hout.all (fun p=>kB (s.hout.map (·.1)) p.2) &&
 (match s.args with | [A]=>kV (s.hin.map (·.1)) A | _=>false) && (match s.res with | .lit (.bool true)=>true | _=>false)
theorem look_all {p:AV->Bool} (hp:p .any=true):∀ {tm:List (Nat × AV)},tm.all (fun q=>p q.2)=true -> ∀ t,p (look tm t)=true:=by
 intro tm
 induction tm with
 | nil=>intro _ t; exact hp
 | cons q r ih =>
  intro h t
  simp only [List.all_cons,Bool.and_eq_true] at h
  simp only [look]
  split
  ·exact h.1
  ·exact ih h.2 t
theorem round_io {P:Program} {E1:Env} {nt l p:Nat} {rec:Loop} {assign body:Code} {a:Act} {tm:List (Nat × AV)} {s:CallSpec} (N:Nat) (hl:E1.M l=some (.loop rec)) (hrs:rec.state = .ready) (hrp:rec.pending=none) (hrt:rec.tmps=a.tmps) (hrps:rec.params = #[p])
  (hra:rec.assign=assign) (hrb:rec.body=body) (hsz:a.tmps.size=nt) (hp:p < nt) (htm:∀ t,Rel E1 true (look tm t) (a.tmps.getD t undef)) (hok:rndOK s tm N=true)
  (hbody:s.pre -> ∀ C:Ctx,C.P=P->(∀ j,N<=j->C.E0.blk j=none/\C.E0.hdr j=none)->SWP C nt assign (AsgK P N nt body s.hout) ⟨(p,s.args.headD .any) :: tm,s.hin,N⟩) :
  FnIO P E1 (.func (.yield l) #[] #[]) s:=by
 intro hpre E2 w vs le hh hlen hrel hfresh
 simp only [rndOK,Bool.and_eq_true,List.all_eq_true,decide_eq_true_eq] at hok
 obtain ⟨⟨⟨⟨⟨o1,o2⟩,o3⟩,o4⟩,o5⟩,o6⟩:=hok
 obtain ⟨A,hA,hkA⟩:∃ A,s.args = [A]/\kV (s.hin.map (·.1)) A=true:=by
  split at o5
  ·rename_i A e; exact ⟨A,e,o5⟩
  ·cases o5
 have hres:s.res = .lit (.bool true):=by
  split at o6
  ·assumption
  ·cases o6
 rw [hA] at hlen hrel hbody
 obtain ⟨v,rfl⟩:∃ v,vs = [v]:=by
  match vs,hlen with
  | [v],_=>exact ⟨v,rfl⟩
 have hl2:E2.M l=some (.loop rec):=le.M _ _ hl
 have hlw:w.heap[l]? = some (.loop rec):=hh.mem _ _ hl2
 have hlt:l < w.heap.size:=(Array.getElem?_eq_some_iff.1 hlw).1
 have hy:=run_yield (P:=P) (args := #[v]) hlw (by rw [hrps]; rfl)
 rw [hrps,hrt,hra,hrb] at hy
 have hy':(Instr.yield l #[v]).run P w = .ok (.round l rec.fn (a.tmps.setIfInBounds p v) assign body) w:=by simpa using hy
 refine ⟨l,rfl,rec.fn,a.tmps.setIfInBounds p v,assign,body,hy',roundIn_of_wpIn trivial ?_⟩
 -- names: of what is handed in alone
 let ks:=s.hin.map (·.1)
 let E0:Env:={ E2 with blk:=fun j=>if j ∈ ks then E2.blk j else none,hdr:=fun j=>if j ∈ ks then E2.hdr j else none }
 have hs0:∀ c,c ∈ ks->E2.blk (renI [] c)=E0.blk c/\E2.hdr (renI [] c)=E0.hdr c:=fun c hc=>⟨(if_pos hc).symm,(if_pos hc).symm⟩
 have hmem:∀ {i:Nat} {ob:OB},Heap.of s.hin i=some ob->i ∈ ks:=fun h=>List.mem_map_of_mem (f:=fun x:Nat × OB=>x.1) (Heap.of_mem h)
 let av:=(calleeCtx P E2 w s.hin).avail
 let CA:Ctx:=⟨P,w,E0,av,fun _ h => .inl h,some l,false⟩
 have hokA:HeapOK CA E0 (Heap.of s.hin) w:=by
  refine ⟨rfl,rfl,rfl,Nat.le_refl _,fun _ _=>rfl,fun b o h=>hh.mem b o h,Env.le.refl _,fun b o h => .inl h,fun i ob h => ?_,fun i j x hij hi hj hix hjx => ?_⟩
  ·have ho:=hh.own i ob h
   refine rnB_inv (C:=calleeCtx P E2 w s.hin) (C':=CA) (E:=E0) (F:=E2) (l:=[]) rfl rfl hs0 (fun _ h=>h) (hmem h) (o3 _ (Heap.of_mem h)).1 ?_
   rw [rnB_nil]; exact ho
  ·have get:∀ i,Heap.of s.hin i ≠ none->i ∈ ks:=fun i h=>by
    cases e:Heap.of s.hin i with
    | none=>exact absurd e h
    | some ob=>exact hmem e
   exact hh.sep i j x hij hi hj (by rw [← hix]; exact (hs0 i (get i hi)).1) (by rw [← hjx]; exact (hs0 j (get j hj)).1)
 have hnone:∀ j,N<=j->E0.blk j=none/\E0.hdr j=none:=by
  intro j hj
  have:¬ j ∈ ks:=fun h=>by
   obtain ⟨q,hq,rfl⟩:=List.mem_map.1 h
   have:=(o3 q hq).2; omega
  exact ⟨if_neg this,if_neg this⟩
 have htmA:∀ t,Rel E0 true (look ((p,A) :: tm) t) ((a.tmps.setIfInBounds p v).getD t undef):=by
  intro t
  simp only [look]
  by_cases e:p=t
  ·subst e
   rw [if_pos rfl]
   have:(a.tmps.setIfInBounds p v).getD p undef=v:=by simp [Array.getD_eq_getD_getElem?,hsz,hp]
   rw [this]
   refine rnV_inv (E:=E0) (F:=E2) (l:=[]) rfl rfl hs0 hkA ?_
   rw [rnV_nil]; exact hrel 0
  ·rw [if_neg e]
   have:(a.tmps.setIfInBounds p v).getD t undef=a.tmps.getD t undef:=by simp [Array.getD_eq_getD_getElem?,Array.getElem?_setIfInBounds_ne e]
   rw [this]
   refine rnV_inv (E:=E0) (F:=E2) (l:=[]) rfl rfl hs0 (look_all (p:=kV ks) rfl (by rw [List.all_eq_true]; exact o2) t) ?_
   rw [rnV_nil]; exact (htm t).mono le
 have hsat:Sat CA E0 nt ⟨(p,A) :: tm,s.hin,N⟩ w { tmps:=a.tmps.setIfInBounds p v,defers:=[] }:=⟨⟨hokA,htmA,⟨fun _=>rfl,trivial⟩,by simp [hsz]⟩,fun j hj=>hnone j hj⟩
 have hsw:=hbody hpre CA rfl hnone E0 w _ hsat
 refine wpIn_mono (F:=Fence.wide.inRound l) hsw ?_
 rintro e a1 w1 ⟨x,E3,st3,rfl,hs3,hk3⟩
 cases x with
 | ret=>exact hk3.elim
 | exit id=>exact hk3.elim
 | normal =>
  have hE03:=hs3.ok.heap.le
  have hl3:E3.M l=some (.loop rec):=hE03.M _ _ hl2
  have hlw1:w1.heap[l]? = some (.loop rec):=hs3.ok.heap.mem _ _ hl3
  refine ⟨_,run_beginRound hlw1 hrs,?_⟩
  -- the body's context: the record is busy
  let busy:Obj := .loop { rec with state := .busy }
  let EB0:Env:={ E0 with M:=fun b=>if b=l then some busy else E0.M b }
  let EB:Env:={ E3 with M:=fun b=>if b=l then some busy else E3.M b }
  let CB:Ctx:=⟨P,w,EB0,fun b=>av b ∨ b=l,fun _ h => .inl (.inl h),some l,false⟩
  have hleB:EB0.le EB:=⟨fun b o hb=>by
    replace hb:(if b=l then some busy else E0.M b)=some o:=hb
    show (if b=l then some busy else E3.M b)=some o
    split at hb
    ·rw [if_pos ‹_›]; exact hb
    ·rw [if_neg ‹_›]; exact hE03.M _ _ hb,hE03.blk,hE03.hdr,hE03.fns⟩
  have hokB:HeapOK CB EB (Heap.of st3.hp) (w1.putObj l busy):=by
   refine hs3.ok.heap.putL (C2:=CB) (m:=some busy) hl3 rfl (.inr rfl) rfl rfl rfl rfl rfl rfl (fun _ h => .inl h) (fun b hb => ?_) hleB (fun b o hb => ?_)
   ·have hne:b ≠ l:=fun e=>hb (.inr e)
    rw [World.putObj_heap_other hne]
    exact hs3.ok.heap.pres b (fun h=>hb (.inl h))
   ·replace hb:(if b=l then some busy else E3.M b)=some o:=hb
    split at hb
    ·rename_i e; exact .inr (.inr e)
    ·rename_i e
     rcases hs3.ok.heap.ext b o hb with h | h
     ·exact .inl (by show (if b=l then some busy else E0.M b)=some o; rw [if_neg e]; exact h)
     ·exact .inr (.inl h)
  have hleC:E3.leC EB:=⟨fun b o hb hc=>by
    show (if b=l then some busy else E3.M b)=some o
    rw [if_neg (fun e=>by rw [e,hl3] at hb; cases hb; cases hc)]; exact hb,fun _ _ h=>h,fun _ _ h=>h,rfl⟩
  have hsatB:Sat CB EB nt st3 (w1.putObj l busy) a1:=⟨⟨hokB,fun t=>(hs3.ok.tm t).monoC hleC,⟨fun _=>hs3.ok.defers.1 rfl,by rw [hs3.ok.defers.1 rfl]; trivial⟩,hs3.ok.size⟩,hs3.fresh⟩
  have hswB:=hk3 CB rfl hnone EB _ a1 hsatB
  refine wpIn_mono (F:=Fence.wide.inRound l) hswB ?_
  rintro e a4 w4 ⟨x,E4,st4,rfl,hs4,hk4⟩
  cases x with
  | ret=>exact hk4.elim
  | exit id=>exact hk4.elim
  | normal =>
   obtain ⟨st5,hent,hho⟩:=hk4
   obtain ⟨E5,hs5⟩:=hent E4 w4 a4 hs4
   have hle5:=hs5.ok.heap.le
   have hl5:E5.M l=some busy:=hle5.M l busy (if_pos rfl)
   have hlw4:w4.heap[l]? = some busy:=hs5.ok.heap.mem _ _ hl5
   have hend:=run_endRound (P:=P) none hlw4
   have hback:({ { rec with state:=LoopState.busy } with state:=(if (none:Option Code).isNone=true then LoopState.ready else LoopState.done),pending:=none }:Loop)=rec:=by
    cases rec; simp only at hrs hrp; subst hrs; subst hrp; rfl
   rw [hback] at hend
   refine ⟨_,_,hend,?_⟩
   -- back to the names of the call
   let F0:Env:={ E5 with M:=fun b=>if b=l then some (.loop rec) else E5.M b }
   let C3:Ctx:=⟨P,w,E0,av,fun _ h => .inl h,some l,false⟩
   have hle0:E0.le F0:=⟨fun b o hb=>by
     show (if b=l then some (.loop rec) else E5.M b)=some o
     by_cases e:b=l
     ·rw [if_pos e]
      have:E0.M b=some (.loop rec):=by rw [e]; exact hl2
      rw [← this]; exact hb
     ·rw [if_neg e]
      exact hle5.M b o (by show (if b=l then some busy else E0.M b)=some o; rw [if_neg e]; exact hb),hle5.blk,hle5.hdr,hle5.fns⟩
   have hok6:HeapOK C3 F0 (Heap.of st5.hp) (w4.putObj l (.loop rec)):=by
    have hswap:=hs5.ok.heap.putL (C2:={ CB with E0:={ EB0 with M:=fun b=>if b=l then some (.loop rec) else E0.M b } }) (E2:=F0) (o' := .loop rec) (m:=some (.loop rec)) hl5 rfl (.inr rfl) rfl rfl rfl rfl rfl rfl (fun _ h=>h) (fun b hb => ?_) ⟨fun b o hb => ?_,hle0.blk,hle0.hdr,hle0.fns⟩ (fun b o hb => ?_)
    ·refine ⟨hswap.os,hswap.tape,hswap.output,hswap.size,fun b hb => ?_,hswap.mem,hle0,fun b o hb => ?_,fun i ob hi => ?_,hswap.sep⟩
     ·by_cases e:b=l
      ·rw [e,World.putObj_heap_same (Array.getElem?_eq_some_iff.1 hlw4).1]; exact hlw.symm
      ·exact hswap.pres b (fun h=>h.elim hb e)
     ·replace hb:(if b=l then some (.loop rec) else E5.M b)=some o:=hb
      split at hb
      ·rename_i e; exact .inl (by rw [e]; show E2.M l=some o; rw [hl2]; exact hb)
      ·rename_i e
       rcases hs5.ok.heap.ext b o hb with h | h
       ·replace h:(if b=l then some busy else E0.M b)=some o:=h
        rw [if_neg e] at h; exact .inl h
       ·exact .inr (h.resolve_right e)
     ·have ho:=hswap.own i ob hi
      -- no block of the call's own is the record
      refine ho.moveAv (fun k hk => ?_)
      rcases hk with ⟨hav,hM⟩
      refine hav.resolve_right (fun e => ?_)
      rw [e] at hM
      replace hM:(if l=l then some (.loop rec) else E5.M l)=(none:Option Obj):=hM
      rw [if_pos rfl] at hM; cases hM
    ·have hne:b ≠ l:=fun e=>hb (.inr e)
     rw [World.putObj_heap_other hne]
     exact hs5.ok.heap.pres b hb
    ·replace hb:(if b=l then some (.loop rec) else E0.M b)=some o:=hb
     by_cases e:b=l
     ·rw [if_pos e] at hb; show (if b=l then some (.loop rec) else E5.M b)=some o; rw [if_pos e]; exact hb
     ·rw [if_neg e] at hb; exact hle0.M b o hb
    ·replace hb:(if b=l then some (.loop rec) else E5.M b)=some o:=hb
     split at hb
     ·rename_i e; exact .inr (.inr e)
     ·rename_i e
      rcases hs5.ok.heap.ext b o hb with h | h
      ·replace h:(if b=l then some busy else E0.M b)=some o:=h
       rw [if_neg e] at h
       exact .inl (by show (if b=l then some (.loop rec) else E0.M b)=some o; rw [if_neg e]; exact h)
      ·exact .inr h
   let ko:=s.hout.map (·.1)
   let F:Env:={ F0 with blk:=fun j=>if j ∈ ko then F0.blk j else E2.blk j,hdr:=fun j=>if j ∈ ko then F0.hdr j else E2.hdr j }
   have hren:Rn [] ko F0 F:=⟨fun b o h=>h,rfl,fun c hc=>⟨if_pos hc,if_pos hc⟩⟩
   have hin0:∀ j k,E2.blk j=some k->j ∈ ko->F0.blk j=some k:=by
    intro j k hj hjo
    by_cases hi:j ∈ ks
    ·exact hle0.blk j k (by show (if j ∈ ks then E2.blk j else none)=some k; rw [if_pos hi]; exact hj)
    ·obtain ⟨q,hq,rfl⟩:=List.mem_map.1 hjo
     have:=(hfresh q hq (fun r hr e=>hi (by rw [← e]; exact List.mem_map_of_mem (f:=fun x:Nat × OB=>x.1) hr))).1
     rw [this] at hj; cases hj
   have hin1:∀ j u,E2.hdr j=some u->j ∈ ko->F0.hdr j=some u:=by
    intro j u hj hjo
    by_cases hi:j ∈ ks
    ·exact hle0.hdr j u (by show (if j ∈ ks then E2.hdr j else none)=some u; rw [if_pos hi]; exact hj)
    ·obtain ⟨q,hq,rfl⟩:=List.mem_map.1 hjo
     have:=(hfresh q hq (fun r hr e=>hi (by rw [← e]; exact List.mem_map_of_mem (f:=fun x:Nat × OB=>x.1) hr))).2
     rw [this] at hj; cases hj
   have lF:E2.le F:=by
    refine ⟨fun b o hb=>hle0.M b o hb,fun j k hj => ?_,fun j u hj => ?_,hle0.fns⟩
    ·show (if j ∈ ko then F0.blk j else E2.blk j)=some k
     split
     ·exact hin0 j k hj ‹_›
     ·exact hj
    ·show (if j ∈ ko then F0.hdr j else E2.hdr j)=some u
     split
     ·exact hin1 j u hj ‹_›
     ·exact hj
   refine ⟨.bool true,F,rfl,?_,by rw [hres]; exact .lit _,fun j hj => ?_⟩
   ·refine ⟨hok6.os,hok6.tape,hok6.output,hok6.size,fun x hx=>hok6.pres x hx,fun x o h=>hok6.mem x o h,lF,fun x o h=>hok6.ext x o h,fun i ob hi => ?_,fun i j y hij hi hj hiy hjy => ?_⟩
    ·have hm:=Heap.of_mem hi
     have hc:i ∈ ko:=List.mem_map_of_mem (f:=fun x:Nat × OB=>x.1) hm
     have:=rnB_own (C:=C3) (C':=calleeCtx P E2 w s.hin) hren (fun _ h=>h) (fun _ h=>h) hc (o4 _ hm) (hok6.own i ob (hoIn_mem hho _ hm))
     rw [rnB_nil] at this
     exact this
    ·have get:∀ i,Heap.of s.hout i ≠ none->F.blk i=some y->Heap.of st5.hp i ≠ none/\F0.blk i=some y:=by
      intro i hi hiy
      cases e:Heap.of s.hout i with
      | none=>exact absurd e hi
      | some ob =>
       have hm:=Heap.of_mem e
       have hc:i ∈ ko:=List.mem_map_of_mem (f:=fun x:Nat × OB=>x.1) hm
       refine ⟨by rw [hoIn_mem hho _ hm]; simp,?_⟩
       replace hiy:(if i ∈ ko then F0.blk i else E2.blk i)=some y:=hiy
       rw [if_pos hc] at hiy; exact hiy
     obtain ⟨n1,k1⟩:=get i hi hiy
     obtain ⟨n2,k2⟩:=get j hj hjy
     exact hok6.sep i j y hij n1 n2 k1 k2
   ·have hno:j ∉ ko:=fun h=>by
     obtain ⟨q,hq,e⟩:=List.mem_map.1 h
     exact hj q hq e
    exact ⟨if_neg hno,if_neg hno⟩
def RngK (C:Ctx) (nt:Nat) (hp:List (Nat × OB)) (nx:Nat):AX->ASt->Prop
 | .exit _,_=>False
 | _,st => ∃ st2,Ent C nt st st2/\hoIn st2.hp hp/\st2.nx<=nx
theorem old_cell {w:World} {o1 o2:Obj} {k:Nat} (h:k < w.heap.size):((w.alloc o1).alloc o2).heap[k]? = w.heap[k]? := by
 rw [(World.grownBy_alloc (w.alloc o1) o2 none).block k (by simp; omega) (by simp)]
 exact (World.grownBy_alloc w o1 none).block k h (by simp)
theorem swp_range {C:Ctx} {nt:Nat} {K:AX->ASt->Prop} {st:ASt} {g:Operand} {p:Tmp} {assign body:Code} {gf:FuncId} {caps:List AV} {fn:Func} {c:Code}
  (hp2:List (Nat × OB)) (nx2 kf N:Nat) (kt:List Nat) (R:CallSpec->Prop) (hro:C.ro=none) (hdf:C.df=true) (hg:opAV (look st.tm) g = .clo gf caps) (hf:C.P.funcs[gf]? = some fn) (hb:fn.body=some c) (hrs:fn.results = #[]) (hcall:Callable C.P gf)
  (hn:caps.length + 1<=fn.ntmps) (hp:p < nt) (hno:(noFnL caps && (kt.all fun t=>noFn (look st.tm t)) && (st.hp.all fun q=>obNoFn q.2) && hp2.all fun q=>obNoFn q.2)=true)
  (hR:∀ s,R s->rndOK s (kt.map fun t=>(t,look st.tm t)) N=true)
  (hit:∀ C':Ctx,C'.P=C.P->(∀ s,R s -> ∀ u,C'.E0.fns kf u->FnIO C.P C'.E0 u s)->(∀ j,st.nx<=j->C'.E0.blk j=none/\C'.E0.hdr j=none)->SWP C' fn.ntmps c (RngK C' fn.ntmps hp2 nx2) ⟨argsTm (.fn kf :: caps) 0,st.hp,st.nx⟩)
  (hbody:∀ s,R s->s.pre -> ∀ C':Ctx,C'.P=C.P->(∀ j,N<=j->C'.E0.blk j=none/\C'.E0.hdr j=none)->SWP C' nt assign (AsgK C.P N nt body s.hout) ⟨(p,s.args.headD .any) :: (kt.map fun t=>(t,look st.tm t)),s.hin,N⟩)
  (hk:K .normal ⟨st.tm,hp2,nx2⟩):SWP C nt (.rangeFunc g #[p] assign body) K st:=by
 intro E w a hs
 simp only [Bool.and_eq_true] at hno
 obtain ⟨⟨⟨hnoc,hnot⟩,hnoh⟩,hnoh2⟩:=hno
 rw [List.all_eq_true] at hnot hnoh hnoh2
 have hgr:=opAV_rel hs.ok.tm g
 simp only at hgr
 rw [hg] at hgr
 generalize hge:a.eval g=uf at hgr
 cases hgr with
 | clo _ hcl hcr =>
 rename_i us
 refine wpIn_rangeFunc ?_
 intro fnid _
 have hh:=hs.ok.heap
 let D:=w.heap.size
 let rec':Loop:={ state := .ready,pending:=none,fn:=fnid,tmps:=a.tmps,params := #[p],assign,body,defers:=D }
 let W1:World:=(w.alloc (.deferred (some []))).alloc (.loop rec')
 let yv:Value := .func (.yield (D + 1)) #[] #[]
 let E':Env:={ E with M:=fun b=>if b=D then some (.deferred (some [])) else if b=D + 1 then some (.loop rec') else E.M b }
 let E1:Env:=E'.setFns (fun k u=>k=kf/\u=yv)
 let C1:Ctx:=⟨C.P,C.w0,E1,C.avail,C.hA,none,false⟩
 have hMlt:∀ b o,E.M b=some o->b < D:=fun b o h=>(Array.getElem?_eq_some_iff.1 (hh.mem b o h)).1
 have hE'M:∀ b,b < D->E'.M b=E.M b:=fun b hb=>by
  show (if b=D then some (.deferred (some [])) else if b=D + 1 then some (.loop rec') else E.M b)=E.M b
  rw [if_neg (by omega),if_neg (by omega)]
 have hMD:E'.M D=some (.deferred (some [])):=if_pos rfl
 have hML:E'.M (D + 1)=some (.loop rec'):=by
  show (if D + 1=D then some (.deferred (some [])) else if D + 1=D + 1 then some (.loop rec') else E.M (D + 1))=_
  rw [if_neg (by omega),if_pos rfl]
 have leE:E.le E':=⟨fun b o h=>by rw [hE'M b (hMlt b o h)]; exact h,fun _ _ h=>h,fun _ _ h=>h,rfl⟩
 have hWD:W1.heap[D]? = some (.deferred (some [])):=(World.grownBy_alloc (w.alloc _) _ none).block D (by simp [D]) (by simp) |>.trans (World.alloc_heap_new w _)
 have hWL:W1.heap[D + 1]? = some (.loop rec'):=by
  have:=World.alloc_heap_new (w.alloc (.deferred (some []))) (.loop rec')
  rwa [World.size_alloc] at this
 have hok1:HeapOK C1 E1 (Heap.of st.hp) W1:=by
  refine ⟨hh.os,hh.tape,hh.output,?_,fun b hb => ?_,fun b o hb => ?_,Env.le.refl _,fun b o hb => .inl hb,fun i ob hi => ?_,hh.sep⟩
  ·show C.w0.heap.size<=((w.alloc _).alloc _).heap.size
   simp only [World.size_alloc]
   exact Nat.le_trans hh.size (by omega)
  ·have hlt:b < w.heap.size:=Nat.lt_of_not_le fun hle=>hb (C.hA b (Nat.le_trans hh.size hle))
   rw [old_cell hlt]; exact hh.pres b hb
  ·replace hb:(if b=D then some (.deferred (some [])) else if b=D + 1 then some (.loop rec') else E.M b)=some o:=hb
   split at hb
   ·rename_i e; rw [e,hWD]; exact hb
   ·split at hb
    ·rename_i e; rw [e,hWL]; exact hb
    ·rw [old_cell (hMlt b o hb)]; exact hh.mem b o hb
  ·have hnf:=hnoh _ (Heap.of_mem hi)
   have ho:=hh.own i ob hi
   refine ho.move (C':=C1) (E':=E1) (.inr hnf) (fun _ _ h=>h) (fun b o h=>leE.M b o h) rfl (fun _ h=>h) (fun k hk=>old_cell (OwnOB.blk_lt hh.mem ho hk)) (fun k hk hm => ?_) (fun o cs us hr=>⟨⟨fun t e => ?_,fun t sz n f j e => ?_⟩,fun e => ?_⟩)
   ·show E'.M k=none
    rw [hE'M k (OwnOB.blk_lt hh.mem ho hk)]; exact hm
   ·have e':ob = .cells t cs:=e
    rw [e'] at hnf
    exact (hr.mono leE).setFns _ (fun _=>hnf)
   ·have e':ob = .vecx t sz n f j cs:=e
    rw [e'] at hnf
    exact (hr.mono leE).setFns _ (fun _=>hnf)
   ·exact (hr.mono leE).setFns _ (fun e'=>by rw [e] at e'; cases e')
 let all:List Value:=yv :: us
 have htm1:∀ t,Rel E1 true (look (argsTm (.fn kf :: caps) 0) t) ((all.toArray ++ Array.replicate (fn.ntmps - all.toArray.size) undef).getD t undef):=by
  intro t
  rw [look_args,if_pos (Nat.zero_le _),Nat.sub_zero]
  rcases Nat.lt_or_ge t all.length with ht | ht
  ·have h1:(all.toArray ++ Array.replicate (fn.ntmps - all.toArray.size) undef).getD t undef=all.getD t undef:=by
    simp only [Array.getD_eq_getD_getElem?,List.getD_eq_getElem?_getD]
    rw [Array.getElem?_append_left (by simpa using ht)]
    simp
   rw [h1]
   cases t with
   | zero=>exact .fn kf ⟨rfl,rfl⟩
   | succ t=>exact ((hcr t).mono leE).setFns _ (fun _=>noFnL_get hnoc t)
  ·rw [List.getD_eq_getElem?_getD,List.getElem?_eq_none (by simp only [List.length_cons]; simp only [all,List.length_cons] at ht; omega)]
   exact .any _
 have hsat1:Sat C1 E1 fn.ntmps ⟨argsTm (.fn kf :: caps) 0,st.hp,st.nx⟩ W1 { tmps:=all.toArray ++ Array.replicate (fn.ntmps - all.toArray.size) undef,defers:=[] } :=
  ⟨⟨hok1,htm1,⟨fun _=>rfl,trivial⟩,by simp [all,hcl]; omega⟩,hs.fresh⟩
 have hfn:∀ s,R s -> ∀ u,C1.E0.fns kf u->FnIO C.P C1.E0 u s:=by
  rintro s hRs u ⟨_,rfl⟩
  refine round_io (E1:=E1) (l:=D + 1) (rec:=rec') (a:=a) (tm:=kt.map fun t=>(t,look st.tm t)) N hML rfl rfl rfl rfl rfl rfl hs.ok.size hp (fun t => ?_) (hR s hRs) (hbody s hRs)
  have hkeep:noFn (look (kt.map fun t=>(t,look st.tm t)) t)=true:=look_all (p:=noFn) rfl (by rw [List.all_eq_true]; intro q hq; obtain ⟨t,ht,rfl⟩:=List.mem_map.1 hq; exact hnot t ht) t
  exact ((look_map hs.ok.tm kt t).mono leE).setFns _ (fun _=>hkeep)
 have hsw:=hit C1 rfl hfn (fun j hj=>hs.fresh j hj) E1 W1 _ hsat1
 have hcalls:Calls C.P gf all.toArray W1 (rangePost C.F 0 C.P (D + 1) (fun e a' w' => ∃ x E' st',e=x.toExit/\Sat C E' nt st' w' a'/\K x st') { a with defers:={ target := .collected D,args := #[] } :: a.defers }):=by
  refine calls_of_wp hf hb (wp_mono (wpIn_wide.1 hsw) ?_)
  rintro e a2 w2 ⟨x,E2,st2,rfl,hs2,hk2⟩
  have fin:(∃ st3,Ent C1 fn.ntmps st2 st3/\hoIn st3.hp hp2/\st3.nx<=nx2)->a2.defers = [] /\ ∃ v,(results fn a2.tmps).run C.P w2 = .ok v w2/\rangePost C.F 0 C.P (D + 1) (fun e a' w' => ∃ x E' st',e=x.toExit/\Sat C E' nt st' w' a'/\K x st') { a with defers:={ target := .collected D,args := #[] } :: a.defers } (.returned v) w2:=by
   rintro ⟨st3,hent,hho,hnx⟩
   obtain ⟨E3,hs3⟩:=hent E2 w2 a2 hs2
   refine ⟨hs2.ok.defers.1 rfl,_,results_run (us:=[]) (by rw [hrs]; rfl),?_⟩
   have h3:=hs3.ok.heap
   have hL3:E3.M (D + 1)=some (.loop rec'):=h3.le.M _ _ hML
   have hD3:E3.M D=some (.deferred (some [])):=h3.le.M _ _ hMD
   have hend:=run_endLoop (P:=C.P) (h3.mem _ _ hL3) (by simp [rec'])
   refine ⟨none,_,hend,.normal,?_⟩
   let E4:Env:={ E3 with M:=fun b=>if b=D + 1 then none else E3.M b,fns:=E.fns }
   have hlE:E.leC E4:=⟨fun b o hb _=>by
     have hlt:=hMlt b o hb
     show (if b=D + 1 then none else E3.M b)=some o
     rw [if_neg (by omega)]
     exact h3.le.M b o (by show E'.M b=some o; rw [hE'M b hlt]; exact hb),fun b k hb=>h3.le.blk b k hb,fun b u hb=>h3.le.hdr b u hb,rfl⟩
   have hleC0:C.E0.le E4:=⟨fun b o hb=>by
     have hb':=hh.le.M b o hb
     have hlt:=hMlt b o hb'
     show (if b=D + 1 then none else E3.M b)=some o
     rw [if_neg (by omega)]
     exact h3.le.M b o (by show E'.M b=some o; rw [hE'M b hlt]; exact hb'),fun b k hb=>hlE.blk b k (hh.le.blk b k hb),fun b u hb=>hlE.hdr b u (hh.le.hdr b u hb),hh.le.fns⟩
   let E3':Env:={ E3 with M:=fun b=>if b=D + 1 then none else E3.M b }
   let C2:Ctx:=⟨C.P,C.w0,{ E1 with M:=fun b=>if b=D + 1 then none else E1.M b },C.avail,C.hA,none,false⟩
   have h4:HeapOK C2 E3' (Heap.of st3.hp) (w2.putObj (D + 1) (.loop { rec' with state := .exhausted })):=by
    refine h3.putL (C2:=C2) (m:=none) hL3 rfl (.inl rfl) rfl rfl rfl rfl rfl rfl (fun _ h=>h) (fun b hb => ?_) ⟨fun b o hb => ?_,h3.le.blk,h3.le.hdr,h3.le.fns⟩ (fun b o hb => ?_)
    ·have hlt:b < C.w0.heap.size:=Nat.lt_of_not_le fun hle=>hb (C.hA b hle)
     have hsz:=hh.size
     rw [World.putObj_heap_other (by omega)]
     exact h3.pres b hb
    ·replace hb:(if b=D + 1 then none else E1.M b)=some o:=hb
     show (if b=D + 1 then none else E3.M b)=some o
     split at hb
     ·cases hb
     ·rename_i e; rw [if_neg e]; exact h3.le.M b o hb
    ·replace hb:(if b=D + 1 then none else E3.M b)=some o:=hb
     split at hb
     ·cases hb
     ·rename_i e
      rcases h3.ext b o hb with h | h
      ·exact .inl (by show (if b=D + 1 then none else E1.M b)=some o; rw [if_neg e]; exact h)
      ·exact .inr h
   have h5:HeapOK C E4 (Heap.of hp2) (w2.putObj (D + 1) (.loop { rec' with state := .exhausted })):=by
    refine ⟨h4.os,h4.tape,h4.output,h4.size,h4.pres,h4.mem,hleC0,fun b o hb => ?_,fun i ob hi => ?_,fun i j k hij hi hj h1 h2 => ?_⟩
    ·rcases h4.ext b o hb with h | h
     ·replace h:(if b=D + 1 then none else E'.M b)=some o:=h
      split at h
      ·cases h
      ·rename_i e
       by_cases e2:b=D
       ·exact .inr (C.hA b (by rw [e2]; exact hh.size))
       ·replace h:(if b=D then some (.deferred (some [])) else if b=D + 1 then some (.loop rec') else E.M b)=some o:=h
        rw [if_neg e2,if_neg e] at h
        exact hh.ext b o h
     ·exact .inr h
    ·have hm:=Heap.of_mem hi
     have hnf:=hnoh2 _ hm
     refine (h4.own i ob (hoIn_mem hho _ hm)).move (C':=C) (E':=E4) (.inr hnf) (fun _ _ h=>h) (fun _ _ h=>h) rfl (fun _ h=>h) (fun _ _=>rfl) (fun _ _ h=>h) (fun o cs us hr=>⟨⟨fun t e => ?_,fun t sz n f j e => ?_⟩,fun e => ?_⟩)
     ·have e':ob = .cells t cs:=e
      rw [e'] at hnf
      exact hr.setFns E.fns (fun _=>hnf)
     ·have e':ob = .vecx t sz n f j cs:=e
      rw [e'] at hnf
      exact hr.setFns E.fns (fun _=>hnf)
     ·exact hr.setFns E.fns (fun e'=>by rw [e] at e'; cases e')
    ·have get:∀ i,Heap.of hp2 i ≠ none->Heap.of st3.hp i ≠ none:=fun i h=>by
      cases e:Heap.of hp2 i with
      | none=>exact absurd e h
      | some ob=>rw [hoIn_mem hho _ (Heap.of_mem e)]; simp
     exact h4.sep i j k hij (get i hi) (get j hj) h1 h2
   have hC0D:C.E0.M D=none:=by
    cases e:C.E0.M D with
    | none=>rfl
    | some o=>have:=hMlt D o (hh.le.M D o e); omega
   have hD4:E4.M D=some (.deferred (some [])):=by
    show (if D=D + 1 then none else E3.M D)=_
    rw [if_neg (by omega)]; exact hD3
   refine ⟨E4,⟨st.tm,hp2,nx2⟩,rfl,⟨⟨h5,fun t=>(hs.ok.tm t).monoC hlE,⟨(fun h=>by rw [hdf] at h; cases h),⟨D,rfl,hD4,hC0D,(fun d' hd' e => ?_)⟩,hs.ok.defers.2.monoM (fun b o hb => ?_)⟩,hs.ok.size⟩,fun j hj=>hs3.fresh j (Nat.le_trans hnx hj)⟩,hk⟩
   ·obtain ⟨D',h1,h2⟩:=hs.ok.defers.2.mem d' hd'
    rw [h1] at e
    have h3:D'=D:=by injection e with e1 _; injection e1
    have:=hMlt D' _ h2
    omega
   ·have hlt:=hMlt b o hb
    show (if b=D + 1 then none else E3.M b)=some o
    rw [if_neg (by omega)]
    exact h3.le.M b o (by show E'.M b=some o; rw [hE'M b hlt]; exact hb)
  cases x with
  | normal=>exact fin hk2
  | ret=>exact fin hk2
  | exit id=>exact hk2.elim
 refine ⟨D + 1,[{ target := .collected D,args := #[] }],W1,{ target := .fn (.func gf) us.toArray,args := #[yv] },W1,gf,#[yv] ++ us.toArray,W1,?_,?_,?_,?_,(fun h=>by cases h),?_⟩
 ·show (Instr.enterLoop fnid a.tmps #[p] assign body C.ro).run C.P w=_
  rw [hro]; exact run_enterLoop_outer _ _ _ _ _
 ·simp only [resolve,hge]
  simp [go_sem]
  rfl
 ·intro f' hf'; trivial
 ·have eg:=hcall
  simp [invoke,go_sem,eg _ _]
 ·have : #[yv] ++ us.toArray=all.toArray:=by simp [all]
  rw [this]
  exact callsIn_F hcalls
structure RangeH where
 J:Type
 ok:J->Prop
 Y:J->CallSpec
 hp:List (Nat × OB)
 N:Nat:=6000
theorem hoIn_self:∀ {l m:List (Nat × OB)},noDup ((m ++ l).map (·.1))=true->hoIn (m ++ l) l:=by
 intro l
 induction l with
 | nil=>intro _ _; trivial
 | cons p r ih =>
  intro m h
  refine ⟨?_,by have:=ih (m:=m ++ [p]) (by simpa using h); simpa using this⟩
  have hn:=noDup_nodup h
  clear ih
  induction m with
  | nil=>rw [List.nil_append,Heap.of_cons,if_pos rfl]
  | cons q m ihm =>
   simp only [List.cons_append,List.map_cons,List.nodup_cons] at hn
   rw [List.cons_append,Heap.of_cons,if_neg]
   ·exact ihm (by simp only [List.cons_append,List.map_cons,noDup,Bool.and_eq_true] at h; exact h.2) hn.2
   ·intro e
    exact hn.1 (by rw [e,List.map_append]; exact List.mem_append_right _ (by simp))
section
variable {C:Ctx} {nt:Nat} {st:ASt}
theorem rnd_end {hout:List (Nat × OB)} (nx:Nat) (h:Ent C nt st ⟨[],hout,nx⟩) (hd:noDup (hout.map (·.1))=true):RndK C nt hout .normal st:=⟨_,h,hoIn_self (m:=[]) hd⟩
theorem rng_ret {hp:List (Nat × OB)} {nx:Nat} (h:Ent C nt st ⟨[],hp,nx⟩) (hd:noDup (hp.map (·.1))=true):RngK C nt hp nx .ret st:=⟨_,h,hoIn_self (m:=[]) hd,Nat.le_refl _⟩
theorem rng_norm {hp:List (Nat × OB)} {nx:Nat} (h:Ent C nt st ⟨[],hp,nx⟩) (hd:noDup (hp.map (·.1))=true):RngK C nt hp nx .normal st:=⟨_,h,hoIn_self (m:=[]) hd,Nat.le_refl _⟩
end
end Go.Ab
namespace Go.Ab
open Go Go.RowKit Go.Proofs
universe u
theorem tv:True:=trivial
theorem An {a b:Prop} (x:a) (y:b):a/\b:=⟨x,y⟩
def tk:Nat->Prop->Prop
 | 0,q=>q
 | n + 1,q=>True/\tk n q
theorem Ak:∀ (n:Nat) {q:Prop},q->tk n q
 | 0,_,h=>h
 | n + 1,_,h=>⟨trivial,Ak n h⟩
theorem zr {α:Sort u} (a:α):a=a:=rfl
theorem ci {a b:Int} (h:a=b):iv a=iv b:=congrArg iv h
theorem cb {a b:Bool} (h:a=b):bv a=bv b:=congrArg bv h
def qOf:Option (Prop × ASt)->Prop
 | some r=>r.1
 | none=>False
def sOf (st:ASt):Option (Prop × ASt)->ASt
 | some r=>r.2
 | none=>st
section
variable {w0:World} {E0:Env} {av:Nat->Prop} {hA:∀ b,w0.heap.size<=b->av b} {nt:Nat} {K:AX->ASt->Prop} {st:ASt} {id:Nat} {l:List Oper} {draw:Bool} {ro:Option Nat} {df:Bool}
theorem zC (cs:List (Nat × CallSpec)) (kt kh:List Nat) {q:Prop} (hq:q) (hk:K .normal (sOf st (regRun Try.prog E0 T0 nt l draw cs kt kh st))) (h:qOf (regRun Try.prog E0 T0 nt l draw cs kt kh st)=q:=by kernel_rfl) :
  SWP ⟨Try.prog,w0,E0,av,hA,ro,df⟩ nt (.region id l.toArray draw) K st:=by
 rw [← h] at hq
 cases he:regRun Try.prog E0 T0 nt l draw cs kt kh st with
 | none=>rw [he] at hq; exact hq.elim
 | some x=>rw [he] at hk hq; exact swp_region T0_ok mixed he hq hk
theorem zR (kt kh:List Nat) {q:Prop} (hq:q) (hk:K .normal (sOf st (regRun Try.prog E0 T0 nt l draw [] kt kh st))) (h:qOf (regRun Try.prog E0 T0 nt l draw [] kt kh st)=q:=by kernel_rfl) :
  SWP ⟨Try.prog,w0,E0,av,hA,ro,df⟩ nt (.region id l.toArray draw) K st:=zC [] kt kh hq hk h
end
section
variable {C:Ctx} {nt:Nat} {K:AX->ASt->Prop} {st st2:ASt}
theorem zE (hE0:∀ j,C.E0.blk j=none/\C.E0.hdr j=none) (bs:List Nat) (mp:List (Nat × Src)) (kt kh:List Nat) {q:Prop} (hq:q) (hb:entB 0 st2 bs mp=true:=by kernel_rfl) (he:entK st st2 bs mp kt kh=q:=by kernel_rfl):Ent C nt st st2:=ent_q hE0 bs mp kt kh q hb he hq
theorem zEn (N:Nat) (hE0:∀ j,N<=j->C.E0.blk j=none/\C.E0.hdr j=none) (bs:List Nat) (mp:List (Nat × Src)) (kt kh:List Nat) {q:Prop} (hq:q) (hb:entB N st2 bs mp=true:=by kernel_rfl) (he:entK st st2 bs mp kt kh=q:=by kernel_rfl):Ent C nt st st2:=ent_n N hE0 bs mp kt kh q hb he hq
def loopZ (C:Ctx) (nt:Nat) (A:LoopAnn) (x:A.X) (K:AX->ASt->Prop):AX->ASt->Prop
 | .normal,st => ∃ x',Ent C nt st (A.S x')/\A.I x'/\A.mu x' < A.mu x
 | e,st=>K e st
theorem zL {c:Code} (A:LoopAnn) (h0:Ent C nt st (A.S A.x0)) (hI:A.I A.x0) (hb:∀ x,A.I x->SWP C nt c (loopZ C nt A x K) (A.S x)):SWP C nt (.loop c) K st :=
 swp_loop A.S A.I A.mu A.x0 h0 hI fun x hx=>swp_mono (hb x hx) fun e s h=>by cases e <;> exact h
theorem zn {A:LoopAnn} {x:A.X} (h:Ent C nt st (A.S (A.nx x))) (hI:A.I (A.nx x)) (hm:A.mu (A.nx x) < A.mu x):∃ x',Ent C nt st (A.S x')/\A.I x'/\A.mu x' < A.mu x:=⟨A.nx x,h,hI,hm⟩
theorem zI {c:Operand} {x y:Code} (b:Bool) (h1:b=true->SWP C nt x K st) (h2:b=false->SWP C nt y K st) (hc:opAV (look st.tm) c = .lit (.bool b):=by kernel_rfl):SWP C nt (.cond c x y) K st:=swp_cond b hc h1 h2
theorem zt {c:Operand} {x y:Code} (h1:SWP C nt x K st) (hc:opAV (look st.tm) c = .lit (.bool true):=by kernel_rfl):SWP C nt (.cond c x y) K st:=swp_cond true hc (fun _=>h1) (fun h=>by cases h)
theorem zf {c:Operand} {x y:Code} (h1:SWP C nt y K st) (hc:opAV (look st.tm) c = .lit (.bool false):=by kernel_rfl):SWP C nt (.cond c x y) K st:=swp_cond false hc (fun h=>by cases h) (fun _=>h1)
theorem zT {T:Tab} {rs:List ResultVar} {res:AV} (bs:List Nat) {q:Prop} (hq:q) (he:retQ T rs st res bs=q:=by kernel_rfl):RetK T rs res .ret st:=ret_q bs q he hq
theorem zO {T:Tab} {rs:List ResultVar} {res:AV} {hout:List (Nat × OB)} (st2:ASt) (he:Ent C nt st st2) {q:Prop} (h:q) (hq:retO T rs st2 res hout=q:=by kernel_rfl):RetO C nt T rs res hout .ret st:=ret_o st2 he q hq h
def fzS (b:Nat) (st:ASt):ASt :=
 match Heap.of st.hp b with
 | some (.cells _ cs)=>⟨st.tm.map (fun p=>(p.1,subP b cs p.2)),st.hp.filter (fun p=>p.1 != b),st.nx⟩
 | _=>st
def fzOK (b:Nat) (st:ASt):Bool :=
 match Heap.of st.hp b with
 | some (.cells _ cs)=>cs.all capOK
 | _=>false
theorem zF (b:Nat) (h:fzOK b st=true:=by kernel_rfl):Ent C nt st (fzS b st):=by
 unfold fzOK at h
 split at h
 ·rename_i t cs e
  refine ent_fz b t cs _ e h ?_
  unfold fzS
  rw [e]
 ·cases h
end
section
variable {C:Ctx} {nt:Nat} {st:ASt}
theorem zN {hout:List (Nat × OB)} (nx:Nat) (h:Ent C nt st ⟨[],hout,nx⟩) (hd:noDup (hout.map (·.1))=true:=by kernel_rfl):RndK C nt hout .normal st:=rnd_end nx h hd
theorem zM {hp:List (Nat × OB)} {nx:Nat} (h:Ent C nt st ⟨[],hp,nx⟩) (hd:noDup (hp.map (·.1))=true:=by kernel_rfl):RngK C nt hp nx .ret st:=rng_ret h hd
theorem zm {hp:List (Nat × OB)} {nx:Nat} (h:Ent C nt st ⟨[],hp,nx⟩) (hd:noDup (hp.map (·.1))=true:=by kernel_rfl):RngK C nt hp nx .normal st:=rng_norm h hd
end
theorem zG {w0:World} {E0:Env} {av:Nat->Prop} {hA:∀ b,w0.heap.size<=b->av b} {nt:Nat} {K:AX->ASt->Prop} {st:ASt} {g:Operand} {p:Tmp} {assign body:Code} {gf:FuncId} {fn:Func} {c:Code}
  (h:RangeH) (n1 nx2 kf:Nat) (kt:List Nat) (caps:List AV) (hf:Try.prog.funcs[gf]? = some fn) (hcall:Callable Try.prog gf) (hb:fn.body=some c)
  (hit:∀ C':Ctx,C'.P=Try.prog->(∀ j,h.ok j -> ∀ u,C'.E0.fns kf u->FnIO Try.prog C'.E0 u (h.Y j))->(∀ j,n1<=j->C'.E0.blk j=none/\C'.E0.hdr j=none)->SWP C' fn.ntmps c (RngK C' fn.ntmps h.hp nx2) ⟨argsTm (.fn kf :: caps) 0,st.hp,st.nx⟩)
  (hbody:∀ j,h.ok j->(h.Y j).pre -> ∀ C':Ctx,C'.P=Try.prog->(∀ j,h.N<=j->C'.E0.blk j=none/\C'.E0.hdr j=none)->SWP C' nt assign (AsgK Try.prog h.N nt body (h.Y j).hout) ⟨(p,(h.Y j).args.headD .any) :: (kt.map fun t=>(t,look st.tm t)),(h.Y j).hin,h.N⟩)
  (hk:K .normal ⟨st.tm,h.hp,nx2⟩) (hnx:st.nx=n1:=by kernel_rfl) (hrs:fn.results = #[]:=by rfl) (hg:opAV (look st.tm) g = .clo gf caps:=by kernel_rfl) (hn:Nat.ble (caps.length + 1) fn.ntmps=true:=by kernel_rfl) (hp:Nat.ble (p + 1) nt=true:=by kernel_rfl)
  (hno:(noFnL caps && (kt.all fun t=>noFn (look st.tm t)) && (st.hp.all fun q=>obNoFn q.2) && h.hp.all fun q=>obNoFn q.2)=true:=by kernel_rfl) (hR:∀ j,rndOK (h.Y j) (kt.map fun t=>(t,look st.tm t)) h.N=true:=by (intro _; kernel_rfl)) :
  SWP ⟨Try.prog,w0,E0,av,hA,none,true⟩ nt (.rangeFunc g #[p] assign body) K st :=
 swp_range h.hp nx2 kf h.N kt (fun s => ∃ j,h.ok j/\s=h.Y j) rfl rfl hg hf hb hrs hcall (Nat.le_of_ble_eq_true hn) (Nat.le_of_ble_eq_true hp) hno (by rintro s ⟨j,_,rfl⟩; exact hR j)
  (fun C' hC hY hE=>hit C' hC (fun j hj=>hY _ ⟨j,hj,rfl⟩) (by rw [hnx] at hE; exact hE)) (by rintro s ⟨j,hj,rfl⟩; exact hbody j hj) hk
end Go.Ab
namespace Go.Ab
theorem getD_lt {α:Type} (l:List α) (d:α) {i:Nat} (h:i < l.length):l.getD i d=l[i]:=by
 rw [List.getD_eq_getElem?_getD,List.getElem?_eq_getElem h]; rfl
theorem getD_ge {α:Type} (l:List α) (d:α) {i:Nat} (h:l.length<=i):l.getD i d=d:=by
 rw [List.getD_eq_getElem?_getD,List.getElem?_eq_none h]; rfl
theorem getD_mem {α:Type} (l:List α) (d:α) {i:Nat} (h:i < l.length):l.getD i d ∈ l:=by
 rw [getD_lt l d h]; exact List.getElem_mem h
theorem take_succ {α:Type} (l:List α) (d:α) {i:Nat} (h:i < l.length):l.take (i + 1)=l.take i ++ [l.getD i d]:=by
 rw [getD_lt l d h,List.take_add_one,List.getElem?_eq_getElem h]; rfl
theorem all_idx {α:Type} (l:List α) (d:α) (p:α->Bool) (h:∀ j,j < l.length->p (l.getD j d)=true):l.all p=true:=by
 rw [List.all_eq_true]
 intro x hx
 obtain ⟨j,hj,rfl⟩:=List.getElem_of_mem hx
 rw [← getD_lt l d hj]; exact h j hj
theorem idx_all {α:Type} {l:List α} (d:α) {p:α->Bool} (h:l.all p=true) {j:Nat} (hj:j < l.length):p (l.getD j d)=true:=by
 rw [List.all_eq_true] at h
 exact h _ (getD_mem l d hj)
theorem not_all {α:Type} (l:List α) (d:α) (p:α->Bool) {j:Nat} (hj:j < l.length) (h:p (l.getD j d)=false):l.all p=false:=by
 cases e:l.all p with
 | false=>rfl
 | true=>rw [idx_all d e hj] at h; cases h
theorem any_idx {α:Type} (l:List α) (d:α) (p:α->Bool) (h:∀ j,j < l.length->p (l.getD j d)=false):l.any p=false:=by
 rw [List.any_eq_false]
 intro x hx
 obtain ⟨j,hj,rfl⟩:=List.getElem_of_mem hx
 rw [← getD_lt l d hj,h j hj]; simp
theorem some_any {α:Type} (l:List α) (d:α) (p:α->Bool) {j:Nat} (hj:j < l.length) (h:p (l.getD j d)=true):l.any p=true:=by
 rw [List.any_eq_true]
 exact ⟨_,getD_mem l d hj,h⟩
theorem ext_getD {α:Type} {a b:List α} (d:α) (hl:a.length=b.length) (h:∀ j,j < a.length->a.getD j d=b.getD j d):a=b:=by
 refine List.ext_getElem hl fun j h1 h2 => ?_
 rw [← getD_lt a d h1,← getD_lt b d h2]; exact h j h1
theorem lt_succ_cases {P:Nat->Prop} {i:Nat} (h:∀ j,j < i->P j) (hi:P i):∀ j,j < i + 1->P j:=by
 intro j hj
 by_cases e:j=i
 ·subst e; exact hi
 ·exact h j (by omega)
theorem foldl_range_succ {α:Type} (f:α->Nat->α) (a:α) (n:Nat):(List.range (n + 1)).foldl f a=f ((List.range n).foldl f a) n:=by
 rw [List.range_succ,List.foldl_append]; rfl
theorem getD_append {α:Type} (l m:List α) (d:α) (i:Nat):(l ++ m).getD i d=if i < l.length then l.getD i d else m.getD (i - l.length) d:=by
 simp only [List.getD_eq_getElem?_getD,List.getElem?_append]
 split <;> rfl
theorem catF_eq {α:Type} (l m:List α) (d:α) (F:α->List AV) {n:Nat} {f g:Nat->List AV} (hn:n=l.length) (hf:∀ k,k < l.length->f k=F (l.getD k d)) (hg:∀ k,k < m.length->g k=F (m.getD k d)) {i:Nat} (hi:i < l.length + m.length):catF n f g i=F ((l ++ m).getD i d):=by
 unfold catF
 rw [getD_append,hn]
 split
 ·exact hf i ‹_›
 ·exact hg _ (by omega)
theorem catF_one {α:Type} (l:List α) (x:α) (d:α) (F:α->List AV) {n:Nat} {f:Nat->List AV} {cells dd:List AV} (hn:n=l.length) (hf:∀ k,k < l.length->f k=F (l.getD k d)) (hc:cells=F x) {i:Nat} (hi:i < l.length + 1):catF n f (fun j=>[cells].getD j dd) i=F ((l ++ [x]).getD i d):=by
 refine catF_eq l [x] d F hn hf (fun k hk => ?_) (by simpa using hi)
 have:k=0:=by simp at hk; omega
 subst this
 exact hc
theorem catF_idx (F:Nat->List AV) {n:Nat} {cells dd:List AV} (hc:cells=F n) {i:Nat} (hi:i < n + 1):catF n F (fun j=>[cells].getD j dd) i=F i:=by
 unfold catF
 split
 ·rfl
 ·have:i=n:=by omega
  subst this
  rw [Nat.sub_self]; exact hc
theorem flatMap_len {α β:Type} (f:α->List β) (b:Nat):∀ (l:List α),(∀ x ∈ l,(f x).length<=b)->(l.flatMap f).length<=l.length * b:=by
 intro l
 induction l with
 | nil=>intro _; simp
 | cons x l ih =>
  intro h
  have h1:=h x (by simp)
  have h2:=ih (fun y hy=>h y (by simp [hy]))
  simp only [List.flatMap_cons,List.length_append,List.length_cons,Nat.succ_mul]
  omega
theorem nbor2 (a b:Bool):(bif !a then true else !b) = !(a && b):=by cases a <;> rfl
theorem nbor3 (a b c:Bool):(bif bif !a then true else !b then true else !c) = !(a && b && c):=by cases a <;> cases b <;> rfl
end Go.Ab
namespace Go.Sh
structure Span where
 lo:Int
 hi:Int
 deriving DecidableEq,Inhabited
def within (n lo hi:Int):Bool:=decide (lo<=n) && decide (n<=hi)
def isIn (l:List Int) (n:Int):Bool:=l.any (fun x=>decide (x=n))
def sameInts (a b:List Int):Bool:=decide (a=b)
def isSpan (s:Span) (most:Int):Bool:=within s.hi 0 most && within s.lo 0 s.hi
def earlier:List Int->List Int->Bool
 | x :: xs,y :: ys=>if x=y then earlier xs ys else decide (x < y)
 | _,_=>false
theorem within_iff {n lo hi:Int}:within n lo hi=true ↔ lo<=n/\n<=hi:=by simp [within]
theorem drop_cons {α:Type} (d:α) {l:List α} {k:Nat} (h:k < l.length):l.drop k=l.getD k d :: l.drop (k + 1):=by
 rw [List.drop_eq_getElem_cons h,List.getD_eq_getElem?_getD,List.getElem?_eq_getElem h]; rfl
end Go.Sh
namespace Go.En
open Go Go.Ab Go.Sh
def aInts (l:List Int):AV := .sl 1 l.length (fun i=>[iv (l.getD i 0)])
def aIntss (l:List (List Int)):AV := .sl 1 l.length (fun i=>[aInts (l.getD i [])])
def cSpan (s:Span):List AV:=[iv s.lo,iv s.hi]
abbrev vSpan (s:Span):AV := .agg (cSpan s)
end Go.En
namespace Go.Ab
open Go Go.RowKit Go.Sh Go.En
abbrev big:Nat:=1125899906842624
def s28 (n lo hi:Int):CallSpec:={ args:=[iv n,iv lo,iv hi],res:=bv (within n lo hi) }
def s135 (l:List Int) (n:Int):CallSpec:={ args:=[aInts l,iv n],res:=bv (isIn l n),pre:=l.length<=big }
def h135 (l:List Int) (n:Int):Hint:={ X:=Nat,M:=fun i=>[(5,iv i)],I:=fun i=>i<=l.length/\isIn (l.take i) n=false,mu:=fun i=>l.length - i,x0:=(0:Nat),nx:=fun i=>i + 1 }
def s40 (a b:List Int):CallSpec:={ args:=[aInts a,aInts b],res:=bv (sameInts a b),pre:=a.length<=big }
def h40 (a b:List Int):Hint:={ X:=Nat,M:=fun i=>[(5,iv i)],I:=fun i=>i<=a.length/\a.take i=b.take i,mu:=fun i=>a.length - i,x0:=(0:Nat),nx:=fun i=>i + 1 }
def s96 (s:Span) (most:Int):CallSpec:={ args:=[vSpan s,iv most],res:=bv (isSpan s most) }
end Go.Ab
namespace Go.Ab
open Go Go.RowKit Go.Proofs Go.Sh Go.En
theorem w28 (n:Int) (lo:Int) (hi:Int)
  (o0:(bif decide (lo<=n) then decide (n<=hi) else false)=within n lo hi) :
  Triple Try.prog 28 (s28 n lo hi):=by
 refine triple_of Try.func28 rfl Try.call28 T0_ok _ rfl rfl rfl rfl (Nat.le_of_ble_eq_true (by kernel_rfl)) (fun _ _ _ _ h=>h) ?_
 intro _ C hC _ hE
 obtain ⟨P,w0,E0,av,hA,ro,df⟩:=C
 obtain ⟨rfl,rfl,rfl⟩:=hC
 refine swp_seq ?_
 refine zR [0,1,2] [] (Ak 1 tv) ?_
 refine swp_seq ?_
 refine zR [6] [] (Ak 4 (An (fun (y0:decide (lo<=n)=true)=>(An (Ak 1 tv) tv)) (An (fun (y1:decide (lo<=n)=true)=>(An (Ak 1 tv) tv)) (An (fun (y2:decide (lo<=n)=true)=>(An (An (fun (y3:decide (lo<=n)=true)=>y2) (An (fun (y4:decide (lo<=n)=true)=>y2) tv)) tv)) (An (An (fun (y5:decide (lo<=n)=true)=>y5) (fun (y6:decide (lo<=n)=false)=>tv)) (Ak 1 tv)))))) ?_
 refine swp_ret ?_
 exact zT [] (An (Ak 1 tv) (An (An (cb (o0)) (zr nilN)) (An (zr true) (An (zr true) (zr true)))))
theorem t28 (n lo hi:Int):Triple Try.prog 28 (s28 n lo hi):=by
 refine w28 n lo hi ?_
 unfold within; cases decide (lo<=n) <;> rfl
theorem w135 (l:List Int) (n:Int)
  (o0:List.length l<=big->0=(↑0:Int))
  (o1:l.length<=big->0<=l.length/\isIn (List.take 0 l) n=false)
  (o2:l.length<=big -> ∀ (x0:Nat),x0<=l.length/\isIn (List.take x0 l) n=false->decide ((x0:Int) < (↑(l.length):Int))=true->0<=(x0:Int))
  (o3:l.length<=big -> ∀ (x0:Nat),x0<=l.length/\isIn (List.take x0 l) n=false->decide ((x0:Int) < (↑(l.length):Int))=true->(x0:Int) < (↑(l.length):Int))
  (o4:l.length<=big -> ∀ (x0:Nat),x0<=l.length/\isIn (List.take x0 l) n=false->decide ((x0:Int) < (↑(l.length):Int))=true->decide (l.getD x0 0=n)=true->true=isIn l n)
  (o5:l.length<=big -> ∀ (x0:Nat),x0<=l.length/\isIn (List.take x0 l) n=false->decide ((x0:Int) < (↑(l.length):Int))=true->decide (l.getD x0 0=n)=false->inI ((x0:Int) + 1))
  (o6:l.length<=big -> ∀ (x0:Nat),x0<=l.length/\isIn (List.take x0 l) n=false->decide ((x0:Int) < (↑(l.length):Int))=true->decide (l.getD x0 0=n)=false->(x0:Int) + 1=(↑(x0 + 1):Int))
  (o7:l.length<=big -> ∀ (x0:Nat),x0<=l.length/\isIn (List.take x0 l) n=false->decide ((x0:Int) < (↑(l.length):Int))=true->decide (l.getD x0 0=n)=false->x0 + 1<=l.length/\isIn (List.take (x0 + 1) l) n=false)
  (o8:l.length<=big -> ∀ (x0:Nat),x0<=l.length/\isIn (List.take x0 l) n=false->decide ((x0:Int) < (↑(l.length):Int))=true->decide (l.getD x0 0=n)=false->l.length - (x0 + 1) < l.length - x0)
  (o9:l.length<=big -> ∀ (x0:Nat),x0<=l.length/\isIn (List.take x0 l) n=false->decide ((x0:Int) < (↑(l.length):Int))=false->false=isIn l n) :
  Triple Try.prog 135 (s135 l n):=by
 refine triple_of Try.func135 rfl Try.call135 T0_ok _ rfl rfl rfl rfl (Nat.le_of_ble_eq_true (by kernel_rfl)) (fun _ _ _ _ h=>h) ?_
 intro hpre C hC _ hE
 obtain ⟨P,w0,E0,av,hA,ro,df⟩:=C
 obtain ⟨rfl,rfl,rfl⟩:=hC
 refine swp_seq ?_
 refine zR [0,1] [] (Ak 1 tv) ?_
 refine swp_seq ?_
 refine swp_seq ?_
 refine zR [0,1,5] [] (Ak 1 tv) ?_
 refine swp_block ?_
 refine zL (Hint.ann (h135 l n) [(0,aInts l),(1,iv n)] [] 10016) (zE hE [] [] [0,1] [] (An (An (An (zr (aInts l)) (zr true)) (An (An (zr (iv n)) (zr true)) (An (An (ci (o0 hpre)) (zr nilN)) tv))) (Ak 1 (An (zr true) (zr true))))) (o1 hpre) (fun (x0:Nat) hx0 => ?_)
 refine swp_seq ?_
 refine swp_seq ?_
 refine zR [0,1,5,9] [] (Ak 4 tv) ?_
 refine zI (decide ((x0:Int) < (↑(l.length):Int))) (fun y1 => ?_) (fun y1 => ?_)
 ·refine swp_skip ?_
  refine swp_seq ?_
  refine swp_block ?_
  refine swp_seq ?_
  refine zR [0,1,5,17] [] (Ak 2 (An (An (o2 hpre x0 hx0 y1) (o3 hpre x0 hx0 y1)) (Ak 3 tv))) ?_
  refine zI (decide (l.getD x0 0=n)) (fun y2 => ?_) (fun y2 => ?_)
  ·refine swp_seq ?_
   refine zR [4] [] (Ak 1 tv) ?_
   refine swp_ret ?_
   exact zT [] (An (Ak 1 tv) (An (An (cb (o4 hpre x0 hx0 y1 y2)) (zr nilN)) (An (zr true) (An (zr true) (zr true)))))
  ·refine swp_skip ?_
   refine zR [0,1,5] [] (Ak 1 (An (o5 hpre x0 hx0 y1 y2) (Ak 1 tv))) ?_
   exact zn (zE hE [] [] [0,1] [] (An (An (An (zr (aInts l)) (zr true)) (An (An (zr (iv n)) (zr true)) (An (An (ci (o6 hpre x0 hx0 y1 y2)) (zr nilN)) tv))) (Ak 1 (An (zr true) (zr true))))) (o7 hpre x0 hx0 y1 y2) (o8 hpre x0 hx0 y1 y2)
 ·refine swp_exit ?_
  refine swp_seq ?_
  refine zR [4] [] (Ak 1 tv) ?_
  refine swp_ret ?_
  exact zT [] (An (Ak 1 tv) (An (An (cb (o9 hpre x0 hx0 y1)) (zr nilN)) (An (zr true) (An (zr true) (zr true)))))
theorem t135 (l:List Int) (n:Int):Triple Try.prog 135 (s135 l n):=by
 apply w135
 case o1=>intro _; exact ⟨Nat.zero_le _,rfl⟩
 case o4 =>
  intro hp x hx h h2
  simp only [decide_eq_true_eq] at h
  exact (some_any l 0 _ (by omega) h2).symm
 case o7 =>
  intro hp x hx h h2
  simp only [decide_eq_true_eq] at h
  refine ⟨by omega,?_⟩
  rw [take_succ l 0 (by omega)]
  have h3:=hx.2
  unfold isIn at h3 ⊢
  rw [List.any_append,h3]; simpa using h2
 case o9 =>
  intro hp x hx h
  simp only [decide_eq_false_iff_not] at h
  have h3:=hx.2
  rw [List.take_of_length_le (by omega)] at h3
  exact h3.symm
 all_goals (try ((repeat intro _) <;> (try simp only [Bool.cond_true_left,Bool.cond_false_right,Bool.not_not,Bool.not_eq_true',Bool.not_eq_false',Bool.or_eq_true,Bool.or_eq_false_iff,Bool.and_eq_true,decide_eq_true_eq,decide_eq_false_iff_not,inI,big] at *) <;> first | (exact rfl) | omega | (exact ⟨Nat.zero_le _,fun j hj=>absurd hj (Nat.not_lt_zero j)⟩) | (simp_all; done) | (simp_all; omega)))
theorem w40 (a:List Int) (b:List Int)
  (o0:a.length<=big->(!decide ((↑(a.length):Int)=(↑(b.length):Int)))=true->false=sameInts a b)
  (o1:a.length<=big->(!decide ((↑(a.length):Int)=(↑(b.length):Int)))=false->0=(↑0:Int))
  (o2:a.length<=big->(!decide ((↑(a.length):Int)=(↑(b.length):Int)))=false->0<=a.length/\List.take 0 a=List.take 0 b)
  (o3:a.length<=big->(!decide ((↑(a.length):Int)=(↑(b.length):Int)))=false -> ∀ (x1:Nat),x1<=a.length/\List.take x1 a=List.take x1 b->decide ((x1:Int) < (↑(a.length):Int))=true->0<=(x1:Int))
  (o4:a.length<=big->(!decide ((↑(a.length):Int)=(↑(b.length):Int)))=false -> ∀ (x1:Nat),x1<=a.length/\List.take x1 a=List.take x1 b->decide ((x1:Int) < (↑(a.length):Int))=true->(x1:Int) < (↑(a.length):Int))
  (o5:a.length<=big->(!decide ((↑(a.length):Int)=(↑(b.length):Int)))=false -> ∀ (x1:Nat),x1<=a.length/\List.take x1 a=List.take x1 b->decide ((x1:Int) < (↑(a.length):Int))=true->0<=(x1:Int))
  (o6:a.length<=big->(!decide ((↑(a.length):Int)=(↑(b.length):Int)))=false -> ∀ (x1:Nat),x1<=a.length/\List.take x1 a=List.take x1 b->decide ((x1:Int) < (↑(a.length):Int))=true->(x1:Int) < (↑(b.length):Int))
  (o7:a.length<=big->(!decide ((↑(a.length):Int)=(↑(b.length):Int)))=false -> ∀ (x1:Nat),x1<=a.length/\List.take x1 a=List.take x1 b->decide ((x1:Int) < (↑(a.length):Int))=true->(!decide (a.getD x1 0=b.getD x1 0))=true->false=sameInts a b)
  (o8:a.length<=big->(!decide ((↑(a.length):Int)=(↑(b.length):Int)))=false -> ∀ (x1:Nat),x1<=a.length/\List.take x1 a=List.take x1 b->decide ((x1:Int) < (↑(a.length):Int))=true->(!decide (a.getD x1 0=b.getD x1 0))=false->inI ((x1:Int) + 1))
  (o9:a.length<=big->(!decide ((↑(a.length):Int)=(↑(b.length):Int)))=false -> ∀ (x1:Nat),x1<=a.length/\List.take x1 a=List.take x1 b->decide ((x1:Int) < (↑(a.length):Int))=true->(!decide (a.getD x1 0=b.getD x1 0))=false->(x1:Int) + 1=(↑(x1 + 1):Int))
  (o10:a.length<=big->(!decide ((↑(a.length):Int)=(↑(b.length):Int)))=false -> ∀ (x1:Nat),x1<=a.length/\List.take x1 a=List.take x1 b->decide ((x1:Int) < (↑(a.length):Int))=true->(!decide (a.getD x1 0=b.getD x1 0))=false->x1 + 1<=a.length/\List.take (x1 + 1) a=List.take (x1 + 1) b)
  (o11:a.length<=big->(!decide ((↑(a.length):Int)=(↑(b.length):Int)))=false -> ∀ (x1:Nat),x1<=a.length/\List.take x1 a=List.take x1 b->decide ((x1:Int) < (↑(a.length):Int))=true->(!decide (a.getD x1 0=b.getD x1 0))=false->a.length - (x1 + 1) < a.length - x1)
  (o12:a.length<=big->(!decide ((↑(a.length):Int)=(↑(b.length):Int)))=false -> ∀ (x1:Nat),x1<=a.length/\List.take x1 a=List.take x1 b->decide ((x1:Int) < (↑(a.length):Int))=false->true=sameInts a b) :
  Triple Try.prog 40 (s40 a b):=by
 refine triple_of Try.func40 rfl Try.call40 T0_ok _ rfl rfl rfl rfl (Nat.le_of_ble_eq_true (by kernel_rfl)) (fun _ _ _ _ h=>h) ?_
 intro hpre C hC _ hE
 obtain ⟨P,w0,E0,av,hA,ro,df⟩:=C
 obtain ⟨rfl,rfl,rfl⟩:=hC
 refine swp_seq ?_
 refine zR [0,1] [] (Ak 1 tv) ?_
 refine swp_seq ?_
 refine swp_seq ?_
 refine zR [0,1,10] [] (Ak 5 tv) ?_
 refine zI (!decide ((↑(a.length):Int)=(↑(b.length):Int))) (fun y0 => ?_) (fun y0 => ?_)
 ·refine swp_seq ?_
  refine zR [4] [] (Ak 1 tv) ?_
  refine swp_ret ?_
  exact zT [] (An (Ak 1 tv) (An (An (cb (o0 hpre y0)) (zr nilN)) (An (zr true) (An (zr true) (zr true)))))
 ·refine swp_skip ?_
  refine swp_seq ?_
  refine swp_seq ?_
  refine zR [0,1,5] [] (Ak 1 tv) ?_
  refine swp_block ?_
  refine zL (Hint.ann (h40 a b) [(0,aInts a),(1,aInts b)] [] 10056) (zE hE [] [] [0,1] [] (An (An (An (zr (aInts a)) (zr true)) (An (An (zr (aInts b)) (zr true)) (An (An (ci (o1 hpre y0)) (zr nilN)) tv))) (Ak 1 (An (zr true) (zr true))))) (o2 hpre y0) (fun (x1:Nat) hx1 => ?_)
  refine swp_seq ?_
  refine swp_seq ?_
  refine zR [0,1,5,14] [] (Ak 4 tv) ?_
  refine zI (decide ((x1:Int) < (↑(a.length):Int))) (fun y2 => ?_) (fun y2 => ?_)
  ·refine swp_skip ?_
   refine swp_seq ?_
   refine swp_block ?_
   refine swp_seq ?_
   refine zR [0,1,5,25] [] (Ak 2 (An (An (o3 hpre y0 x1 hx1 y2) (o4 hpre y0 x1 hx1 y2)) (Ak 3 (An (An (o5 hpre y0 x1 hx1 y2) (o6 hpre y0 x1 hx1 y2)) (Ak 2 tv))))) ?_
   refine zI (!decide (a.getD x1 0=b.getD x1 0)) (fun y3 => ?_) (fun y3 => ?_)
   ·refine swp_seq ?_
    refine zR [4] [] (Ak 1 tv) ?_
    refine swp_ret ?_
    exact zT [] (An (Ak 1 tv) (An (An (cb (o7 hpre y0 x1 hx1 y2 y3)) (zr nilN)) (An (zr true) (An (zr true) (zr true)))))
   ·refine swp_skip ?_
    refine zR [0,1,5] [] (Ak 1 (An (o8 hpre y0 x1 hx1 y2 y3) (Ak 1 tv))) ?_
    exact zn (zE hE [] [] [0,1] [] (An (An (An (zr (aInts a)) (zr true)) (An (An (zr (aInts b)) (zr true)) (An (An (ci (o9 hpre y0 x1 hx1 y2 y3)) (zr nilN)) tv))) (Ak 1 (An (zr true) (zr true))))) (o10 hpre y0 x1 hx1 y2 y3) (o11 hpre y0 x1 hx1 y2 y3)
  ·refine swp_exit ?_
   refine swp_seq ?_
   refine zR [4] [] (Ak 1 tv) ?_
   refine swp_ret ?_
   exact zT [] (An (Ak 1 tv) (An (An (cb (o12 hpre y0 x1 hx1 y2)) (zr nilN)) (An (zr true) (An (zr true) (zr true)))))
theorem t40 (a b:List Int):Triple Try.prog 40 (s40 a b):=by
 apply w40
 case o0 =>
  intro hp h
  simp only [Bool.not_eq_true',decide_eq_false_iff_not] at h
  symm
  simp only [sameInts,decide_eq_false_iff_not]
  intro e; rw [e] at h; exact h rfl
 case o6=>intro hp h x hx hl; simp only [Bool.not_eq_false',decide_eq_true_eq] at *; omega
 case o7 =>
  intro hp h x hx hl h2
  simp only [Bool.not_eq_true',decide_eq_false_iff_not] at h2
  symm
  simp only [sameInts,decide_eq_false_iff_not]
  intro e; rw [e] at h2; exact h2 rfl
 case o10 =>
  intro hp h x hx hl h2
  simp only [Bool.not_eq_false',decide_eq_true_eq] at *
  refine ⟨by omega,?_⟩
  rw [take_succ a 0 (by omega),take_succ b 0 (by omega),hx.2,h2]
 case o12 =>
  intro hp h x hx hl
  simp only [Bool.not_eq_false',decide_eq_true_eq,decide_eq_false_iff_not] at *
  symm
  simp only [sameInts,decide_eq_true_eq]
  have h1:=hx.2
  rwa [List.take_of_length_le (by omega),List.take_of_length_le (by omega)] at h1
 all_goals (try ((repeat intro _) <;> (try simp only [Bool.cond_true_left,Bool.cond_false_right,Bool.not_not,Bool.not_eq_true',Bool.not_eq_false',Bool.or_eq_true,Bool.or_eq_false_iff,Bool.and_eq_true,decide_eq_true_eq,decide_eq_false_iff_not,inI,big] at *) <;> first | (exact rfl) | omega | (exact ⟨Nat.zero_le _,fun j hj=>absurd hj (Nat.not_lt_zero j)⟩) | (simp_all; done) | (simp_all; omega)))
theorem w96 (s:Span) (most:Int)
  (o0:(bif within s.hi 0 most then within s.lo 0 s.hi else false)=isSpan s most) :
  Triple Try.prog 96 (s96 s most):=by
 refine triple_of Try.func96 rfl Try.call96 T0_ok _ rfl rfl rfl rfl (Nat.le_of_ble_eq_true (by kernel_rfl)) (fun _ _ _ _ h=>h) ?_
 intro _ C hC _ hE
 obtain ⟨P,w0,E0,av,hA,ro,df⟩:=C
 obtain ⟨rfl,rfl,rfl⟩:=hC
 refine swp_seq ?_
 refine zR [1,2] [0] (Ak 2 tv) ?_
 refine swp_seq ?_
 refine zC ([(3,CallSpec.eq (s28 s.hi 0 most) [true,true,true]),(9,CallSpec.eq (s28 s.lo 0 s.hi) [true,true,true])]) [4] [] (Ak 3 (An (An (An (zr (iv s.hi)) (An (zr (iv 0)) (An (zr (iv most)) tv))) (An (t28 s.hi (0) (most)) (Ak 2 (fun (i0:Env)=>tv)))) (Ak 1 (An (fun (y1:within s.hi 0 most=true)=>(An (Ak 1 tv) tv)) (An (fun (y2:within s.hi 0 most=true)=>(An (An (fun (y3:within s.hi 0 most=true)=>y2) tv) tv)) (An (fun (y4:within s.hi 0 most=true)=>(An (Ak 1 tv) tv)) (An (fun (y5:within s.hi 0 most=true)=>(An (An (fun (y6:within s.hi 0 most=true)=>y5) tv) tv)) (An (fun (y7:within s.hi 0 most=true)=>(An (Ak 1 (An (fun (y8:within s.hi 0 most=true)=>y7) (Ak 1 (An (fun (y9:within s.hi 0 most=true)=>y7) tv)))) (An (An (zr (iv s.lo)) (An (zr (iv 0)) (An (zr (iv s.hi)) tv))) (An (t28 s.lo (0) s.hi) (Ak 2 (fun (i10:Env)=>tv)))))) (An (An (fun (y11:within s.hi 0 most=true)=>y11) (fun (y12:within s.hi 0 most=false)=>tv)) (Ak 1 tv)))))))))) ?_
 refine swp_ret ?_
 exact zT [] (An (Ak 1 tv) (An (An (cb (o0)) (zr nilN)) (An (zr true) (An (zr true) (zr true)))))
theorem t96 (s:Span) (most:Int):Triple Try.prog 96 (s96 s most):=by
 apply w96
 unfold isSpan; cases within s.hi 0 most <;> rfl
end Go.Ab
namespace Go.Proofs
open Go.Shelf
def Try.lays189_ren:Go.Shelf.Ren:=⟨fun | 189=>130 | 125=>152 | 257=>151 | 128=>169 | 129=>170 | 294=>160 | 295=>161 | 296=>162 | 297=>163 | 298=>164 | 299=>165 | 216=>166 | 300=>167 | 301=>168 | 328=>172 | 329=>173 | 330=>174 | 331=>175 | 332=>176 | 215=>171 | 343=>177 | n=>n,fun | 28=>27 | 3=>3 | 46=>168 | 0=>0 | 51=>178 | 53=>180 | 4=>4 | 183=>172 | 182=>171 | 131=>33 | 5=>5 | 9=>9 | 218=>181 | 222=>185 | 228=>187 | 229=>188 | n=>n,fun | n=>n⟩
theorem Try.lays189:Go.Proofs.Lays.n189 Try.prog Try.lays189_ren:={
 mixed:=by kernel_rfl
 f125:=Try.func152.trans (congrArg some (by kernel_rfl))
 f128:=Try.func169.trans (congrArg some (by kernel_rfl))
 f129:=Try.func170.trans (congrArg some (by kernel_rfl))
 f189:=Try.func130.trans (congrArg some (by kernel_rfl))
 f215:=Try.func171.trans (congrArg some (by kernel_rfl))
 f216:=Try.func166.trans (congrArg some (by kernel_rfl))
 f257:=Try.func151.trans (congrArg some (by kernel_rfl))
 f294:=Try.func160.trans (congrArg some (by kernel_rfl))
 f295:=Try.func161.trans (congrArg some (by kernel_rfl))
 f296:=Try.func162.trans (congrArg some (by kernel_rfl))
 f297:=Try.func163.trans (congrArg some (by kernel_rfl))
 f298:=Try.func164.trans (congrArg some (by kernel_rfl))
 f299:=Try.func165.trans (congrArg some (by kernel_rfl))
 f300:=Try.func167.trans (congrArg some (by kernel_rfl))
 f301:=Try.func168.trans (congrArg some (by kernel_rfl))
 f328:=Try.func172.trans (congrArg some (by kernel_rfl))
 f329:=Try.func173.trans (congrArg some (by kernel_rfl))
 f330:=Try.func174.trans (congrArg some (by kernel_rfl))
 f331:=Try.func175.trans (congrArg some (by kernel_rfl))
 f332:=Try.func176.trans (congrArg some (by kernel_rfl))
 f343:=Try.func177.trans (congrArg some (by kernel_rfl))
 t0:=Try.underlying0
 a0:=Try.isAgg0
 z0:=Try.sizeOf0
 v0:=Try.zeroValue0
 t3:=Try.underlying3
 a3:=Try.isAgg3
 z3:=Try.sizeOf3
 v3:=Try.zeroValue3
 t4:=Try.underlying4
 a4:=Try.isAgg4
 z4:=Try.sizeOf4
 v4:=Try.zeroValue4
 t5:=Try.underlying5
 a5:=Try.isAgg5
 z5:=Try.sizeOf5
 v5:=Try.zeroValue5
 t9:=Try.underlying9
 a9:=Try.isAgg9
 z9:=Try.sizeOf9
 v9:=Try.zeroValue9
 t28:=Try.underlying27
 a28:=Try.isAgg27
 z28:=Try.sizeOf27
 v28:=Try.zeroValue27
 t46:=Try.underlying168
 a46:=Try.isAgg168
 z46:=Try.sizeOf168
 v46:=Try.zeroValue168
 t51:=Try.underlying178
 a51:=Try.isAgg178
 z51:=Try.sizeOf178
 v51:=Try.zeroValue178
 t53:=Try.underlying180
 a53:=Try.isAgg180
 z53:=Try.sizeOf180
 v53:=Try.zeroValue180
 t131:=Try.underlying33
 a131:=Try.isAgg33
 z131:=Try.sizeOf33
 v131:=Try.zeroValue33
 t182:=Try.underlying171
 a182:=Try.isAgg171
 z182:=Try.sizeOf171
 v182:=Try.zeroValue171
 t183:=Try.underlying172
 a183:=Try.isAgg172
 z183:=Try.sizeOf172
 v183:=Try.zeroValue172
 t218:=Try.underlying181
 a218:=Try.isAgg181
 z218:=Try.sizeOf181
 v218:=Try.zeroValue181
 t222:=Try.underlying185
 a222:=Try.isAgg185
 z222:=Try.sizeOf185
 v222:=Try.zeroValue185
 t228:=Try.underlying187
 a228:=Try.isAgg187
 z228:=Try.sizeOf187
 v228:=Try.zeroValue187
 t229:=Try.underlying188
 a229:=Try.isAgg188
 z229:=Try.sizeOf188
 v229:=Try.zeroValue188 }
open Go.Sort Go.RowKit in
theorem Try.slices_Sort_int (blk off cap:Nat) (zs:List Int) (w:World) (hH:Holds (Value.int .i64) w blk off zs.toArray) (hblk:blk < w.heap.size) (hsz:zs.length < 4611686018427387904) :
  Calls Try.prog 130 #[.slice (some ⟨blk,off,none⟩) zs.length cap] w fun e w' =>
   e = .returned (.tuple #[]) /\ ∃ n os,w'=grow (putRow (Value.int .i64) (Sort.ahead w n) blk off (zs.mergeSort fun x y=>decide (x<=y)).toArray) os:=Any.slices_Sort_int Try.lays189 blk off cap zs w hH hblk hsz
theorem Try.slices_Sort_int_none (p:Option Addr) (cap:Nat) (w:World):Calls Try.prog 130 #[.slice p 0 cap] w fun e w'=>e = .returned (.tuple #[])/\w'=w:=Any.slices_Sort_int_none Try.lays189 p cap w
end Go.Proofs
namespace Go.Sh
def sortI (l:List Int):List Int:=l.mergeSort (fun x y=>decide (x<=y))
theorem sortI_len (l:List Int):(sortI l).length=l.length:=List.length_mergeSort _
end Go.Sh
namespace Go.Ab
open Go Go.RowKit Go.Sort Go.Sh
theorem putRow_heap {α:Type} [Inhabited α] (enc:α->Value) (w:World) (q k:Nat) (ys:List α) (os:Array Obj) (us:List Value) (e:TypeId) (hw:w.heap[k]? = some (.cells us.toArray e (0,0))) (hl:ys.length<=us.length) :
  (grow (putRow enc (Sort.ahead w q) k 0 ys.toArray) os).heap[k]? = some (.cells (ys.map enc ++ us.drop ys.length).toArray e (0,0))/\w.grownBy (grow (putRow enc (Sort.ahead w q) k 0 ys.toArray) os) (some k):=by
 have hlt:k < w.heap.size:=(Array.getElem?_eq_some_iff.1 hw).1
 have hsz:(putRow enc (Sort.ahead w q) k 0 ys.toArray).heap.size=w.heap.size:=by simp [putRow,mapBlock,Sort.ahead]
 refine ⟨?_,⟨rfl,rfl,rfl,by rw [size_grow,hsz]; omega,fun j hj hne => ?_⟩⟩
 ·rw [heap_grow_old _ _ (by rw [hsz]; exact hlt)]
  show ((Sort.ahead w q).heap.modify k _)[k]? = _
  have hw':(Sort.ahead w q).heap[k]? = some (.cells us.toArray e (0,0)):=hw
  rw [Array.getElem?_modify,if_pos rfl,hw']
  simp only [Option.map_some,onCells,Option.some.injEq,Obj.cells.injEq,and_true]
  apply Array.ext_getElem?
  intro i
  simp only [putCells,Array.getElem?_mapIdx,List.getElem?_toArray,List.size_toArray,Nat.zero_le,true_and,Nat.zero_add,Nat.sub_zero]
  by_cases h1:i < ys.length
  ·rw [List.getElem?_append_left (by simpa using h1),List.getElem?_map,List.getElem?_eq_getElem h1,List.getElem?_eq_getElem (show i < us.length by omega)]
   simp only [Option.map_some,if_pos h1]
   rw [getElem!_pos _ i (by simpa using h1)]
   simp
  ·rw [List.getElem?_append_right (by simpa using h1),List.getElem?_drop]
   have:ys.length + (i - (List.map enc ys).length)=i:=by simp; omega
   rw [this]
   cases us[i]? with
   | none=>rfl
   | some u=>simp only [Option.map_some,if_neg h1]
 ·rw [heap_grow_old _ _ (by rw [hsz]; exact hj)]
  show ((Sort.ahead w q).heap.modify k _)[j]? = _
  rw [Array.getElem?_modify,if_neg (fun e=>hne (by rw [e]))]
  rfl
def rowI (t:TypeId) (l:List Int):OB := .vec t 1 l.length (fun i=>[iv (l.getD i 0)])
theorem rowI_flat {E:Env} {l:List Int} {g:Nat->List Value} (hr:∀ i,i < l.length->RelL E false [iv (l.getD i 0)] (g i)):(List.range l.length).flatMap g=l.map (Value.int .i64):=by
 have h1:∀ i,i < l.length->g i = [Value.int .i64 (l.getD i 0)]:=by
  intro i hi
  have:=hr i hi
  generalize g i=x at this
  cases this with
  | cons h _ hs=>cases hs; cases h; rfl
 refine List.ext_getElem? fun i => ?_
 have hlen:=flat_length g 1 l.length (fun i hi=>by rw [h1 i hi]; rfl)
 by_cases hi:i < l.length
 ·have:=flat_get g 1 l.length (fun i hi=>by rw [h1 i hi]; rfl) i 0 hi (by omega)
  simp only [Nat.mul_one,Nat.add_zero] at this
  rw [this,h1 i hi,List.getElem?_map,List.getElem?_eq_getElem hi]
  simp [List.getD,List.getElem?_eq_getElem hi]
 ·rw [List.getElem?_eq_none (by omega),List.getElem?_eq_none (by simpa using hi)]
theorem rowI_rel (E:Env) (l:List Int):∀ i,i < l.length->RelL E false [iv (l.getD i 0)] [Value.int .i64 (l.getD i 0)]:=fun i _ => .cons (.lit _) rfl .nil
theorem rowI_flat' (l:List Int):(List.range l.length).flatMap (fun i=>[Value.int .i64 (l.getD i 0)])=l.map (Value.int .i64):=by
 let E0:Env:=⟨fun _=>none,fun _=>none,fun _=>none,fun _ _=>False⟩
 exact rowI_flat (E:=E0) (rowI_rel E0 l)
theorem holdsI {w:World} {k:Nat} {l:List Int} {us:List Value} {e:TypeId} (hw:w.heap[k]? = some (.cells us.toArray e (0,0))) (ht:us.take l.length=l.map (Value.int .i64)):Holds (Value.int .i64) w k 0 l.toArray:=by
 intro j hj
 have hj':j < l.length:=by simpa using hj
 have h1:us[j]? = some (.int .i64 l[j]):=by
  have:=congrArg (fun x=>x[j]?) ht
  simp only [List.getElem?_take,if_pos hj',List.getElem?_map,List.getElem?_eq_getElem hj',Option.map_some] at this
  exact this
 refine ⟨?_,?_⟩
 ·rw [Nat.zero_add,getElem!_pos _ j hj]
  simp only [World.cell?,hw]
  simpa using h1
 ·simp only [World.frozen?,hw]
  rfl
theorem own_rowI {C:Ctx} {E:Env} {w:World} {b:Nat} {t:TypeId} {l:List Int} (h:OwnOB C E w b (rowI t l)) (hn:0 < l.length) :
  ∃ k cap us,E.hdr b=some (.slice (some ⟨k,0,none⟩) l.length cap)/\l.length<=cap/\cap<=maxLen/\w.heap[k]? = some (.cells (List.toArray us) t (0,0))/\us.length=cap/\us.take l.length=l.map (Value.int .i64)/\E.blk b=some k/\C.avail k/\E.M k=none:=by
 obtain ⟨hd,g,hh,ho,hl,hr,hbk,hav⟩:=h
 rcases ownsRow_form ho with ⟨_,h0⟩ | ⟨k,cap,rfl,hnc,hcm,us,hw,hul,hut⟩
 ·omega
 ·rw [Nat.mul_one] at hul hut
  rw [rowI_flat hr] at hut
  exact ⟨k,cap,us,hh,hnc,hcm,hw,hul,hut,hbk,(hav k rfl).1,(hav k rfl).2⟩
theorem ownsRow_of {w:World} {k cap:Nat} {us:List Value} {t:TypeId} {l:List Int} (hw:w.heap[k]? = some (.cells us.toArray t (0,0))) (hnc:l.length<=cap) (hcm:cap<=maxLen) (hul:us.length=cap) (hut:us.take l.length=l.map (Value.int .i64)) :
  w.ownsRow 0 t 1 (.slice (some ⟨k,0,none⟩) l.length cap) l.length ((List.range l.length).flatMap (fun i=>[Value.int .i64 (l.getD i 0)])):=by
 rw [rowI_flat']
 refine ⟨by simp,.inr ⟨k,cap,us.toArray,rfl,Nat.zero_le _,hw,hnc,hcm,by simpa using hul,by simpa using hut⟩⟩
theorem triple_sort {P:Program} {f:FuncId} (hcall:Callable P f) (t:TypeId) (b:Nat) (l:List Int)
  (h:∀ k cap w,Holds (Value.int .i64) w k 0 l.toArray->k < w.heap.size->l.length < 4611686018427387904->Calls P f #[.slice (some ⟨k,0,none⟩) l.length cap] w fun e w'=>e = .returned (.tuple #[]) /\ ∃ n os,w'=grow (putRow (Value.int .i64) (Sort.ahead w n) k 0 (sortI l).toArray) os) :
  Triple P f { args:=[.vec b],pre:=0 < l.length/\l.length<=65536,hin:=[(b,rowI t l)],res := .tup [],hout:=[(b,rowI t (sortI l))] }:=by
 refine ⟨hcall,fun hpre E w vs _ hok hlen hrel _ => ?_⟩
 obtain ⟨v,rfl⟩:∃ v,vs = [v]:=by
  match vs,hlen with
  | [v],_=>exact ⟨v,rfl⟩
 have hv:=hrel 0
 simp only [List.getD_cons_zero] at hv
 have hob:Heap.of [(b,rowI t l)] b=some (rowI t l):=by rw [Heap.of_cons,if_pos rfl]
 obtain ⟨k,cap,us,hh,hnc,hcm,hw,hul,hut,hbk,hav,hM⟩:=own_rowI (hok.own b _ hob) hpre.1
 cases hv with
 | vec _ hh' _ =>
 rw [hh] at hh'
 cases hh'
 have hlt:k < w.heap.size:=(Array.getElem?_eq_some_iff.1 hw).1
 refine (h k cap w (holdsI hw hut) hlt (by omega)).mono ?_
 rintro e w' ⟨rfl,n,os,rfl⟩
 obtain ⟨h1,hg⟩:=putRow_heap (Value.int .i64) w n k (sortI l) os us t hw (by rw [sortI_len]; omega)
 refine ⟨_,E,rfl,?_,.tup rfl (fun k=>by simp; exact .any _),fun _ _=>⟨rfl,rfl⟩⟩
 have:=hok.setVec b k (by rw [hob]; simp) hbk hav hM hg (rowI t (sortI l)) ?_
 ·refine this.drop fun i ob hi => ?_
  rw [Heap.of_cons] at hi
  split at hi
  ·rename_i e; cases hi; unfold Heap.put; rw [if_pos e.symm]
  ·cases hi
 ·refine ⟨_,fun i=>[Value.int .i64 ((sortI l).getD i 0)],hh,?_,fun _ _=>rfl,rowI_rel E _,hbk,fun k' hk' => ?_⟩
  ·have:=ownsRow_of (l:=sortI l) (cap:=cap) h1 (by rw [sortI_len]; exact hnc) hcm (by simp [sortI_len,hul]; omega) (by rw [List.take_append_of_le_length (by rw [List.length_map]; exact Nat.le_refl _)]; exact List.take_of_length_le (by rw [List.length_map]; exact Nat.le_refl _))
   rw [sortI_len] at this ⊢
   exact this
  ·cases hk'; exact ⟨hav,hM⟩
end Go.Ab
namespace Go.Ab
open Go Go.RowKit Go.Sort Go.Sh
theorem triple_sort0 {P:Program} {f:FuncId} (hcall:Callable P f) (t:TypeId) (b:Nat) (l:List Int)
  (h:∀ k cap w,Holds (Value.int .i64) w k 0 l.toArray->k < w.heap.size->l.length < 4611686018427387904->Calls P f #[.slice (some ⟨k,0,none⟩) l.length cap] w fun e w'=>e = .returned (.tuple #[]) /\ ∃ n os,w'=grow (putRow (Value.int .i64) (Sort.ahead w n) k 0 (l.mergeSort fun x y=>decide (x<=y)).toArray) os)
  (h0:∀ p cap w,Calls P f #[.slice p 0 cap] w fun e w'=>e = .returned (.tuple #[])/\w'=w) :
  Triple P f { args:=[.vec b],pre:=l.length<=65536,hin:=[(b,rowI t l)],res := .tup [],hout:=[(b,rowI t (sortI l))] }:=by
 refine ⟨hcall,fun hpre E w vs hfn hok hlen hrel hfr => ?_⟩
 cases l with
 | cons x l=>exact (triple_sort hcall t b (x :: l) h).2 ⟨Nat.succ_pos _,hpre⟩ E w vs hfn hok hlen hrel hfr
 | nil =>
  obtain ⟨v,rfl⟩:∃ v,vs = [v]:=by
   match vs,hlen with
   | [v],_=>exact ⟨v,rfl⟩
  have hv:=hrel 0
  simp only [List.getD_cons_zero] at hv
  have hob:Heap.of [(b,rowI t [])] b=some (rowI t []):=by rw [Heap.of_cons,if_pos rfl]
  have hown:=hok.own b _ hob
  have hs:sortI [] = []:=by simp [sortI]
  have fin:∀ u,E.hdr b=some u->Calls P f #[u] w (fun e w'=>e = .returned (.tuple #[])/\w'=w)->Calls P f #[v] w (CallPost P { args:=[.vec b],pre:=([]:List Int).length<=65536,hin:=[(b,rowI t [])],res := .tup [],hout:=[(b,rowI t (sortI []))] } E w):=by
   intro u hu hc
   cases hv with
   | vec _ hh' _ =>
   rw [hu] at hh'
   cases hh'
   refine hc.mono ?_
   rintro e w' ⟨rfl,rfl⟩
   exact ⟨_,E,rfl,by rw [hs]; exact hok,.tup rfl (fun k=>by simp; exact .any _),fun _ _=>⟨rfl,rfl⟩⟩
  obtain ⟨hd,g,hh,ho,_⟩:=hown
  rcases ownsRow_form ho with ⟨hv',_⟩ | ⟨k,cap,hv',_⟩
  ·exact fin hd hh (by rw [hv']; exact h0 none 0 w)
  ·exact fin hd hh (by rw [hv']; exact h0 _ cap w)
end Go.Ab
namespace Go.Sh
structure Strip where
 thick:Int
 many:Int
 deriving DecidableEq,Inhabited
structure Piece where
 lo:Int
 hi:Int
 pence:Int
 deriving DecidableEq,Inhabited
structure Frm where
 length:Int
 slack:Int
 strips:List Strip
 pieces:List Piece
 columns:List (List Int)
 deriving DecidableEq,Inhabited
def stp (f:Frm) (i:Nat):Strip:=f.strips.getD i default
def pc (f:Frm) (i:Nat):Piece:=f.pieces.getD i default
def col (f:Frm) (i:Nat):List Int:=f.columns.getD i []
def allC (f:Frm):List Int:=f.columns.flatten
def isCol (f:Frm) (n:Int):Bool:=within n 0 ((f.columns.length:Int) - 1)
def isPc (f:Frm) (n:Int):Bool:=within n 0 ((f.pieces.length:Int) - 1)
def okStrip (s:Strip):Bool:=within s.thick 1 30 && within s.many 0 4
def okPiece (p:Piece):Bool:=within p.hi 0 99 && within p.lo 0 p.hi && within p.pence 0 99
def okHeadF (f:Frm):Bool:=within f.length 0 300 && within f.slack 0 9 && decide ((f.strips.length:Int)<=3) && decide ((f.pieces.length:Int)<=6) && decide ((f.columns.length:Int)<=3)
def cntL (l:List Int) (n:Int):Int:=((l.filter (fun x=>decide (x=n))).length:Int)
def okOrd (f:Frm):Bool:=(List.range f.pieces.length).all (fun i=>decide (cntL (allC f) i=1)) && (allC f).all (isPc f)
def okFrm (f:Frm):Bool:=okHeadF f && f.strips.all okStrip && f.pieces.all okPiece && okOrd f
def checkF (f:Frm):Int:=if okFrm f then 0 else 30
def openF (f:Frm) (is:Bool):Int:=if okFrm f then (if is then 0 else 1) else 30
def isSetAt (f:Frm) (set:List Int) (i:Nat):Bool:=within (set.getD i 0) 0 (stp f i).many
def isSet (f:Frm) (set:List Int):Bool:=decide (set.length=f.strips.length) && (List.range set.length).all (isSetAt f set)
def hiStep (f:Frm) (s:Span) (p:Int):Span:=⟨s.lo + (pc f p.toNat).lo,s.hi + (pc f p.toNat).hi⟩
def highP (f:Frm) (l:List Int):Span:=l.foldl (hiStep f) ⟨0,0⟩
def ptTo (f:Frm) (set:List Int) (n:Nat):Int:=(List.range n).foldl (fun a i=>a + set.getD i 0 * (stp f i).thick) 0
def pointsP (f:Frm) (set:List Int):Int:=ptTo f set set.length
def roomP (f:Frm) (s:Span):Span:=⟨max 0 (f.length - f.slack - s.lo),f.length - s.hi⟩
def fitsF (f:Frm):Prop:=f.strips.length<=Go.Ab.big/\f.pieces.length<=Go.Ab.big/\f.columns.length<=Go.Ab.big /\ ∀ i,(col f i).length<=Go.Ab.big
def smallF (f:Frm):Prop:=f.strips.length<=64/\f.pieces.length<=64/\f.columns.length<=64 /\ ∀ i,(col f i).length<=64
def okS (f:Frm) (n:Nat):Bool:=okHeadF f && (List.range n).all (fun j=>okStrip (stp f j))
def okP (f:Frm) (n:Nat):Bool:=okS f f.strips.length && (List.range n).all (fun j=>okPiece (pc f j))
def pre95 (f:Frm) (n k:Nat):List Int:=(f.columns.take n).flatten ++ (col f n).take k
def srt (f:Frm):List Int:=sortI (allC f)
structure Sound (f:Frm):Prop where
 len:0<=f.length/\f.length<=300
 slack:0<=f.slack/\f.slack<=9
 strips:f.strips.length<=3
 pieces:f.pieces.length<=6
 columns:f.columns.length<=3
 strip:∀ i,i < f.strips.length->1<=(stp f i).thick/\(stp f i).thick<=30/\0<=(stp f i).many/\(stp f i).many<=4
 piece:∀ i,i < f.pieces.length->0<=(pc f i).lo/\(pc f i).lo<=(pc f i).hi/\(pc f i).hi<=99/\0<=(pc f i).pence/\(pc f i).pence<=99
 colLen:∀ i,(col f i).length<=6
 colIn:∀ i k,k < (col f i).length->0<=(col f i).getD k 0/\(col f i).getD k 0 < f.pieces.length
def goodL (f:Frm) (l:List Int):Prop:=l.length<=6 /\ ∀ k,k < l.length->0<=l.getD k 0/\l.getD k 0 < f.pieces.length
def nilF:Frm:=⟨0,0,[],[],[]⟩
def openFr (f:Frm) (is:Bool):Frm:=if okFrm f && is then f else nilF
def hugeF (f:Frm):Bool:=decide ((f.strips.length:Int) > 40) || decide ((f.pieces.length:Int) > 40) || decide ((f.columns.length:Int) > 40) || f.columns.any (fun l=>decide ((l.length:Int) > 40))
def prodF (f:Frm) (n:Nat):Int:=(List.range n).foldl (fun a i=>a * ((stp f i).many + 1)) 1
def farF (f:Frm):Bool:=hugeF f || (okFrm f && decide (prodF f f.strips.length > 30))
def lockedAt (f:Frm) (h:Int):Bool:=within h (f.length - f.slack) f.length
def sureP (f:Frm) (c:Nat) (n:Int):Bool:=lockedAt f ((highP f (col f c)).lo + n) && lockedAt f ((highP f (col f c)).hi + n)
end Go.Sh
namespace Go.En
open Go Go.Ab Go.Sh
def cStrip (s:Strip):List AV:=[iv s.thick,iv s.many]
def cPiece (p:Piece):List AV:=[iv p.lo,iv p.hi,iv p.pence]
def cFrm (f:Frm):List AV:=[iv f.length,iv f.slack,.sl 2 f.strips.length (fun i=>cStrip (stp f i)),.sl 3 f.pieces.length (fun i=>cPiece (pc f i)),.sl 1 f.columns.length (fun i=>[aInts (col f i)])]
abbrev vFrm (f:Frm):AV := .agg (cFrm f)
end Go.En
namespace Go.Ab
open Go Go.RowKit Go.Proofs Go.Sh Go.En
def s130 (b:Nat) (l:List Int):CallSpec:={ args:=[.vec b],pre:=l.length<=65536,hin:=[(b,rowI 3 l)],res := .tup [],hout:=[(b,rowI 3 (sortI l))] }
theorem t130 (b:Nat) (l:List Int):Triple Try.prog 130 (s130 b l):=triple_sort0 Try.call130 3 b l (fun k cap w h1 h2 h3=>Try.slices_Sort_int k 0 cap l w h1 h2 h3) (fun p cap w=>Try.slices_Sort_int_none p cap w)
def clo95 (f:Frm):AV := .clo 95 [.rp (cFrm f)]
def h95a (f:Frm):Hint:={ X:=Nat,M:=fun x=>[(10,iv x)],H:=fun x=>[(0,.cells 27 [.vec 5000]),(5000,rowI 3 (pre95 f x 0))],I:=fun x=>x<=f.columns.length,mu:=fun x=>f.columns.length - x,x0:=(0:Nat),nx:=fun x=>x + 1 }
def h95b (f:Frm) (x:Nat):Hint:={ X:=Nat,M:=fun k=>[(16,iv k)],H:=fun k=>[(0,.cells 27 [.vec 5000]),(5000,rowI 3 (pre95 f x k))],I:=fun k=>k<=(col f x).length,mu:=fun k=>(col f x).length - k,x0:=(0:Nat),nx:=fun k=>k + 1 }
def r150 (f:Frm):RangeH:={ J:=Nat × Nat,ok:=fun j=>j.1 < f.columns.length/\j.2 < (col f j.1).length,Y:=fun j=>{ args:=[iv ((col f j.1).getD j.2 0)],hin:=[(0,.cells 27 [.vec 5000]),(5000,rowI 3 (pre95 f j.1 j.2))],res:=bv true,hout:=[(0,.cells 27 [.vec 20160]),(20160,rowI 3 (pre95 f j.1 (j.2 + 1)))] },hp:=[(0,.cells 27 [.vec 5000]),(5000,rowI 3 (allC f))] }
def y150 (f:Frm) (x k:Nat):CallSpec:=(r150 f).Y (x,k)
def ou150 (f:Frm):OutSpec:={ args:=[nilv,clo95 f],pre:=smallF f,res := .vec 0,hout:=[(0,rowI 3 (allC f))] }
def s150o (f:Frm) (id:Nat):CallSpec:=(ou150 f).at [(0,id)]
def ou129 (f:Frm):OutSpec:={ args:=[clo95 f],pre:=smallF f,res := .vec 0,hout:=[(0,rowI 3 (allC f))] }
def c129 (f:Frm) (id:Nat):CallSpec:=s150o f id
def s129o (f:Frm) (id:Nat):CallSpec:=(ou129 f).at [(0,id)]
def s94 (f:Frm):CallSpec:={ args:=[clo95 f],pre:=smallF f,res:=aInts (srt f) }
def c94 (f:Frm) (id:Nat):CallSpec:=s129o f id
def cs94 (f:Frm):CallSpec:=s130 16 (allC f)
def s93 (n lo hi:Int):CallSpec:={ args:=[iv n,iv lo,iv hi],res:=bv (within n lo hi) }
def s87 (n lo hi:Int):CallSpec:={ args:=[iv n,iv lo,iv hi],res:=bv (within n lo hi) }
def s84 (f:Frm) (n:Int):CallSpec:={ args:=[vFrm f,iv n],res:=bv (isCol f n),pre:=fitsF f }
def s88 (f:Frm) (n:Int):CallSpec:={ args:=[vFrm f,iv n],res:=bv (isPc f n),pre:=fitsF f }
def s25 (f:Frm) (n:Int):CallSpec:={ args:=[vFrm f,iv n],res:=bv (isPc f n),pre:=fitsF f }
def s98 (f:Frm) (set:List Int):CallSpec:={ args:=[vFrm f,aInts set],res:=bv (isSet f set),pre:=fitsF f/\set.length<=big }
def h98 (f:Frm) (set:List Int):Hint:={ X:=Nat,M:=fun i=>[(15,iv i)],I:=fun i=>i<=set.length /\ ∀ j,j < i->isSetAt f set j=true,mu:=fun i=>set.length - i,x0:=(0:Nat),nx:=fun i=>i + 1 }
def s86 (f:Frm) (l:List Int):CallSpec:={ args:=[vFrm f,aInts l],res:=vSpan (highP f l),pre:=Sound f/\goodL f l }
def h86 (f:Frm) (l:List Int):Hint:={ X:=Nat,M:=fun i=>[(9,iv i),(4,.ptr 5000 [])],H:=fun i=>[(5000,.cells 36 (cSpan (highP f (l.take i))))],I:=fun i=>i<=l.length,mu:=fun i=>l.length - i,x0:=(0:Nat),nx:=fun i=>i + 1 }
def s92 (f:Frm) (l:List Int):CallSpec:={ args:=[vFrm f,aInts l],res:=vSpan (highP f l),pre:=Sound f/\goodL f l }
def h92 (f:Frm) (l:List Int):Hint:={ X:=Nat,M:=fun i=>[(6,iv i),(5,.ptr 5000 [])],H:=fun i=>[(5000,.cells 36 (cSpan (highP f (l.take i))))],I:=fun i=>i<=l.length,mu:=fun i=>l.length - i,x0:=(0:Nat),nx:=fun i=>i + 1 }
def s99 (f:Frm) (set:List Int):CallSpec:={ args:=[vFrm f,aInts set],res:=iv (pointsP f set),pre:=Sound f/\isSet f set=true }
def h99 (f:Frm) (set:List Int):Hint:={ X:=Nat,M:=fun i=>[(5,iv (ptTo f set i)),(10,iv i)],I:=fun i=>i<=set.length,mu:=fun i=>set.length - i,x0:=(0:Nat),nx:=fun i=>i + 1 }
def s23 (f:Frm) (set:List Int):CallSpec:={ args:=[vFrm f,aInts set],res:=iv (pointsP f set),pre:=Sound f/\isSet f set=true }
def h23 (f:Frm) (set:List Int):Hint:={ X:=Nat,M:=fun i=>[(5,iv (ptTo f set i)),(6,iv i)],I:=fun i=>i<=set.length,mu:=fun i=>set.length - i,x0:=(0:Nat),nx:=fun i=>i + 1 }
def s85 (f:Frm) (s:Span):CallSpec:={ args:=[vFrm f,vSpan s],res:=vSpan (roomP f s),pre:=Sound f/\0<=s.lo/\s.lo<=s.hi/\s.hi<=1000 }
def s74 (f:Frm) (n:Int):CallSpec:={ args:=[vFrm f,iv n],res:=bv (lockedAt f n),pre:=Sound f }
def s97 (f:Frm) (p:Int):CallSpec:={ args:=[vFrm f,iv p],res:=iv (cntL (allC f) p),pre:=fitsF f/\f.columns.length<=3 }
def h97a (f:Frm) (p:Int):Hint:={ X:=Nat,M:=fun c=>[(5,iv (cntL (pre95 f c 0) p)),(6,iv c)],I:=fun c=>c<=f.columns.length,mu:=fun c=>f.columns.length - c,x0:=(0:Nat),nx:=fun c=>c + 1 }
def h97b (f:Frm) (p:Int) (c:Nat):Hint:={ X:=Nat,M:=fun k=>[(5,iv (cntL (pre95 f c k) p)),(7,iv k)],I:=fun k=>k<=(col f c).length,mu:=fun k=>(col f c).length - k,x0:=(0:Nat),nx:=fun k=>k + 1 }
def s34 (f:Frm):CallSpec:={ args:=[vFrm f],res:=iv (checkF f),pre:=smallF f }
def h34a (f:Frm):Hint:={ X:=Nat,M:=fun i=>[(3,bv (okS f i)),(40,iv i)],I:=fun i=>i<=f.strips.length,mu:=fun i=>f.strips.length - i,x0:=(0:Nat),nx:=fun i=>i + 1 }
def h34b (f:Frm):Hint:={ X:=Nat,M:=fun i=>[(3,bv (okP f i)),(59,iv i)],I:=fun i=>i<=f.pieces.length,mu:=fun i=>f.pieces.length - i,x0:=(0:Nat),nx:=fun i=>i + 1 }
def h34c (f:Frm):Hint:={ X:=Nat,M:=fun i=>[(97,iv i)],I:=fun i=>i<=(srt f).length /\ ∀ j,j < i->(srt f).getD j 0=(j:Int),mu:=fun i=>(srt f).length - i,x0:=(0:Nat),nx:=fun i=>i + 1 }
def s35 (f:Frm):CallSpec:={ args:=[vFrm f],res:=iv (checkF f),pre:=fitsF f }
def h35a (f:Frm):Hint:={ X:=Nat,M:=fun i=>[(3,iv i)],I:=fun i=>i<=f.strips.length /\ ∀ j,j < i->okStrip (stp f j)=true,mu:=fun i=>f.strips.length - i,x0:=(0:Nat),nx:=fun i=>i + 1 }
def c35 (f:Frm) (x:Nat):CallSpec:=s96 ⟨(pc f x).lo,(pc f x).hi⟩ 99
def h35b (f:Frm):Hint:={ X:=Nat,M:=fun i=>[(4,iv i)],I:=fun i=>i<=f.pieces.length /\ ∀ j,j < i->okPiece (pc f j)=true/\cntL (allC f) j=1,mu:=fun i=>f.pieces.length - i,x0:=(0:Nat),nx:=fun i=>i + 1 }
def h35c (f:Frm):Hint:={ X:=Nat,M:=fun i=>[(5,iv i)],I:=fun i=>i<=f.columns.length /\ ∀ j,j < i->(col f j).all (isPc f)=true,mu:=fun i=>f.columns.length - i,x0:=(0:Nat),nx:=fun i=>i + 1 }
def h35d (f:Frm) (c:Nat):Hint:={ X:=Nat,M:=fun i=>[(6,iv i)],I:=fun i=>i<=(col f c).length /\ ∀ j,j < i->isPc f ((col f c).getD j 0)=true,mu:=fun i=>(col f c).length - i,x0:=(0:Nat),nx:=fun i=>i + 1 }
def s83 (f:Frm) (is:Bool):CallSpec:={ args:=[vFrm f,bv is],res := .tup [vFrm (openFr f is),iv (openF f is)],pre:=smallF f }
def s101 (f:Frm) (c:Nat) (n:Int):CallSpec:={ args:=[vFrm f,iv c,iv n],res:=bv (sureP f c n),pre:=Sound f/\c < f.columns.length /\ -1000<=n/\n<=1000 }
def s30 (f:Frm):CallSpec:={ args:=[vFrm f],res:=bv (hugeF f),pre:=fitsF f }
def h30 (f:Frm):Hint:={ X:=Nat,M:=fun i=>[(3,iv i)],I:=fun i=>i<=f.columns.length /\ ∀ j,j < i->decide (((col f j).length:Int) > 40)=false,mu:=fun i=>f.columns.length - i,x0:=(0:Nat),nx:=fun i=>i + 1 }
def s41 (f:Frm):CallSpec:={ args:=[vFrm f],res:=bv (farF f),pre:=fitsF f }
def h41 (f:Frm):Hint:={ X:=Nat,M:=fun i=>[(3,iv (prodF f i)),(4,iv i)],I:=fun i=>i<=f.strips.length,mu:=fun i=>f.strips.length - i,x0:=(0:Nat),nx:=fun i=>i + 1 }
end Go.Ab
