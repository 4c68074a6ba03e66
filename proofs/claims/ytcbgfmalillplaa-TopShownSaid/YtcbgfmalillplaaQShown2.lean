/- Part 2 of the proof: own library, plain forms and walks. -/
import Derived.Test.YtcbgfmalillplaaQShown1
import Derived.Test.YtcbgfmalillplaaRows
set_option linter.all false
set_option linter.deprecated false
namespace Go.Ab
open Go Go.RowKit
def appSel (f:Nat->Bool):RS->List Oper->List Eff->Nat->RS
 | s,o :: r,e :: es,i=>appSel f (if f i then s.app o e else s) r es (i + 1)
 | s,_,_,_=>s
def keysOf (e:Eff):List Nat:=e.upd.map (·.1)
theorem putT_other {tm:Nat->AV} {dst:Option Tmp} {v:AV} {t:Nat} (h:dst ≠ some t):putT tm dst v t=tm t:=by
 cases dst with
 | none=>rfl
 | some d=>exact if_neg (fun e=>h (by rw [e]))
theorem putT_self {tm:Nat->AV} {dst:Option Tmp} {v:AV} {t:Nat} (h:dst=some t):putT tm dst v t=v:=by subst h; exact if_pos rfl
theorem upds_other:∀ (u:List (Nat × Option OB)) (H:Heap) (b:Nat),b ∉ u.map (·.1)->(H.upds u) b=H b:=by
 intro u
 induction u with
 | nil=>intro H b _; rfl
 | cons x u ih =>
  intro H b hb
  show (Heap.upds (H.put x.1 x.2) u) b=_
  rw [ih _ _ (fun h=>hb (List.mem_cons_of_mem _ h))]
  exact if_neg (fun e=>hb (by rw [e]; exact List.mem_cons_self))
theorem upds_same:∀ (u:List (Nat × Option OB)) (H H':Heap) (b:Nat),b ∈ u.map (·.1)->(H.upds u) b=(H'.upds u) b:=by
 intro u
 induction u with
 | nil=>intro H H' b hb; cases hb
 | cons x u ih =>
  intro H H' b hb
  show (Heap.upds (H.put x.1 x.2) u) b=(Heap.upds (H'.put x.1 x.2) u) b
  by_cases h:b ∈ u.map (·.1)
  ·exact ih _ _ b h
  ·rw [upds_other _ _ _ h,upds_other _ _ _ h]
   have e:b=x.1:=by
    cases hb with
    | head=>rfl
    | tail _ hb=>exact absurd hb h
   rw [e]
   unfold Heap.put
   rw [if_pos rfl,if_pos rfl]
theorem appSel_tm {f g:Nat->Bool} {t:Nat}:∀ (l:List Oper) (es:List Eff) (i:Nat) (s s':RS),s.tm t=s'.tm t->(∀ k o,l[k]? = some o->o.dst=some t->f (i + k)=g (i + k))->(appSel f s l es i).tm t=(appSel g s' l es i).tm t:=by
 intro l
 induction l with
 | nil=>intro es i s s' h _; cases es <;> exact h
 | cons o r ih =>
  intro es i s s' h hw
  cases es with
  | nil=>exact h
  | cons e es =>
   refine ih es (i + 1) _ _ ?_ (fun k o' hk hd=>by have:=hw (k + 1) o' (by simpa using hk) hd; rw [Nat.add_comm k 1,← Nat.add_assoc] at this; exact this)
   by_cases hd:o.dst=some t
   ·have:=hw 0 o rfl hd
    rw [Nat.add_zero] at this
    rw [this]
    cases g i with
    | true=>show putT _ _ _ t=putT _ _ _ t; rw [putT_self hd,putT_self hd]
    | false=>exact h
   ·have e1:∀ (b:Bool) (s:RS),(if b then s.app o e else s).tm t=s.tm t:=by
     intro b s; cases b
     ·rfl
     ·exact putT_other hd
    rw [e1,e1,h]
theorem appSel_hp {f g:Nat->Bool} {b:Nat}:∀ (l:List Oper) (es:List Eff) (i:Nat) (s s':RS),s.hp b=s'.hp b->(∀ k e,es[k]? = some e->b ∈ keysOf e->f (i + k)=g (i + k))->(appSel f s l es i).hp b=(appSel g s' l es i).hp b:=by
 intro l
 induction l with
 | nil=>intro es i s s' h _; cases es <;> exact h
 | cons o r ih =>
  intro es i s s' h hw
  cases es with
  | nil=>exact h
  | cons e es =>
   refine ih es (i + 1) _ _ ?_ (fun k o' hk hd=>by have:=hw (k + 1) o' (by simpa using hk) hd; rw [Nat.add_comm k 1,← Nat.add_assoc] at this; exact this)
   by_cases hd:b ∈ keysOf e
   ·have:=hw 0 e rfl hd
    rw [Nat.add_zero] at this
    rw [this]
    cases g i with
    | true=>exact upds_same _ _ _ _ hd
    | false=>exact h
   ·have e1:∀ (c:Bool) (s:RS),(if c then s.app o e else s).hp b=s.hp b:=by
     intro c s; cases c
     ·rfl
     ·exact upds_other _ _ _ hd
    rw [e1,e1,h]
theorem appSel_tm_last {f:Nat->Bool} {t:Nat}:∀ (l:List Oper) (es:List Eff) (i k:Nat) (s:RS) (o:Oper) (e:Eff),l[k]? = some o->es[k]? = some e->o.dst=some t->f (i + k)=true →
  (∀ j o',k < j->l[j]? = some o'->o'.dst=some t->f (i + j)=false)->(appSel f s l es i).tm t=e.res:=by
 intro l
 induction l with
 | nil=>intro es i k s o e h; simp at h
 | cons o' r ih =>
  intro es i k s o e ho he hd hf hl
  cases es with
  | nil=>simp at he
  | cons e' es =>
   cases k with
   | zero =>
    simp only [List.getElem?_cons_zero,Option.some.injEq] at ho he
    subst ho; subst he
    have hfi:f i=true:=hf
    show (appSel f (if f i then s.app o' e' else s) r es (i + 1)).tm t=_
    rw [hfi,if_pos rfl]
    rw [appSel_tm (f:=f) (g:=fun _=>false) r es (i + 1) _ (s.app o' e') rfl (fun k o2 hk hd2=>by
     have:=hl (k + 1) o2 (by omega) (by simpa using hk) hd2
     rw [Nat.add_comm k 1,← Nat.add_assoc] at this; exact this)]
    have nosel:∀ (r:List Oper) (es:List Eff) (i:Nat) (s:RS),appSel (fun _=>false) s r es i=s:=by
     intro r
     induction r with
     | nil=>intro es i s; cases es <;> rfl
     | cons o r ih=>intro es i s; cases es with | nil=>rfl | cons e es=>exact ih es (i + 1) s
    rw [nosel]
    exact putT_self hd
   | succ k =>
    refine ih es (i + 1) k _ o e (by simpa using ho) (by simpa using he) hd (by rw [Nat.add_assoc,Nat.add_comm 1 k]; exact hf) (fun j o2 hj ho2 hd2 => ?_)
    have:=hl (j + 1) o2 (by omega) (by simpa using ho2) hd2
    rw [Nat.add_assoc,Nat.add_comm 1 j]; exact this
theorem appSel_hp_last {f:Nat->Bool} {b:Nat} (H:Heap):∀ (l:List Oper) (es:List Eff) (i k:Nat) (s:RS) (e:Eff),k < l.length->es[k]? = some e->b ∈ keysOf e->f (i + k)=true →
  (∀ j e',k < j->es[j]? = some e'->b ∈ keysOf e'->f (i + j)=false)->(appSel f s l es i).hp b=(H.upds e.upd) b:=by
 intro l
 induction l with
 | nil=>intro es i k s e h; exact absurd h (by simp)
 | cons o' r ih =>
  intro es i k s e ho he hd hf hl
  cases es with
  | nil=>simp at he
  | cons e' es =>
   cases k with
   | zero =>
    simp only [List.getElem?_cons_zero,Option.some.injEq] at he
    subst he
    have hfi:f i=true:=hf
    show (appSel f (if f i then s.app o' e' else s) r es (i + 1)).hp b=_
    rw [hfi,if_pos rfl]
    rw [appSel_hp (f:=f) (g:=fun _=>false) r es (i + 1) _ (s.app o' e') rfl (fun k o2 hk hd2=>by
     have:=hl (k + 1) o2 (by omega) (by simpa using hk) hd2
     rw [Nat.add_comm k 1,← Nat.add_assoc] at this; exact this)]
    have nosel:∀ (r:List Oper) (es:List Eff) (i:Nat) (s:RS),appSel (fun _=>false) s r es i=s:=by
     intro r
     induction r with
     | nil=>intro es i s; cases es <;> rfl
     | cons o r ih=>intro es i s; cases es with | nil=>rfl | cons e es=>exact ih es (i + 1) s
    rw [nosel]
    exact upds_same _ _ _ _ hd
   | succ k =>
    refine ih es (i + 1) k _ e (by simpa using ho) (by simpa using he) hd (by rw [Nat.add_assoc,Nat.add_comm 1 k]; exact hf) (fun j o2 hj ho2 hd2 => ?_)
    have:=hl (j + 1) o2 (by omega) (by simpa using ho2) hd2
    rw [Nat.add_assoc,Nat.add_comm 1 j]; exact this
def mask (o:Oper) (acc:List Nat):Nat:=o.after.toList.foldl (fun s e=>if Region.binds .any e then s ||| 2 ^ e.on ||| acc.getD e.on 0 else s) 0
def ancs:List Oper->List Nat->List Nat
 | [],acc=>acc
 | o :: r,acc=>ancs r (acc ++ [mask o acc])
theorem mask_bit (acc:List Nat) (j:Nat):∀ (l:List Edge) (s:Nat),(l.foldl (fun s e=>if Region.binds .any e then s ||| 2 ^ e.on ||| acc.getD e.on 0 else s) s).testBit j=true →
  s.testBit j=true ∨ ∃ e ∈ l,Region.binds .any e=true/\(e.on=j ∨ (acc.getD e.on 0).testBit j=true):=by
 intro l
 induction l with
 | nil=>intro s h; exact .inl h
 | cons e l ih =>
  intro s h
  rcases ih _ h with h | ⟨e',he',h'⟩
  ·dsimp only at h
   split at h
   ·rename_i hb
    rw [Nat.testBit_or,Nat.testBit_or] at h
    simp only [Bool.or_eq_true] at h
    rcases h with (h | h) | h
    ·exact .inl h
    ·refine .inr ⟨e,List.mem_cons_self,hb,.inl ?_⟩
     rw [Nat.testBit_two_pow] at h
     simpa using h
    ·exact .inr ⟨e,List.mem_cons_self,hb,.inr h⟩
   ·exact .inl h
  ·exact .inr ⟨e',List.mem_cons_of_mem _ he',h'⟩
theorem ancs_get:∀ (l:List Oper) (acc:List Nat) (k:Nat),k < acc.length->(ancs l acc).getD k 0=acc.getD k 0:=by
 intro l
 induction l with
 | nil=>intro acc k _; rfl
 | cons o r ih =>
  intro acc k hk
  show (ancs r (acc ++ [mask o acc])).getD k 0=_
  rw [ih _ k (by rw [List.length_append]; omega)]
  simp only [List.getD_eq_getElem?_getD]
  rw [List.getElem?_append_left hk]
theorem ancs_bit:∀ (l:List Oper) (acc:List Nat) (k:Nat) (o:Oper) (j:Nat),l[k]? = some o->((ancs l acc).getD (acc.length + k) 0).testBit j=true->(∀ e ∈ o.after.toList,Region.binds .any e=true->e.on < acc.length + k) →
  ∃ e ∈ o.after.toList,Region.binds .any e=true/\(e.on=j ∨ ((ancs l acc).getD e.on 0).testBit j=true):=by
 intro l
 induction l with
 | nil=>intro acc k o j h; simp at h
 | cons o' r ih =>
  intro acc k o j ho hb hlt
  cases k with
  | zero =>
   simp only [List.getElem?_cons_zero,Option.some.injEq] at ho
   subst ho
   have hg:(ancs (o' :: r) acc).getD (acc.length + 0) 0=mask o' acc:=by
    show (ancs r (acc ++ [mask o' acc])).getD acc.length 0=_
    rw [ancs_get _ _ _ (by simp)]
    simp [List.getD_eq_getElem?_getD]
   rw [hg] at hb
   rcases mask_bit acc j _ _ hb with h | ⟨e,he,h1,h2⟩
   ·simp at h
   ·refine ⟨e,he,h1,?_⟩
    rcases h2 with h2 | h2
    ·exact .inl h2
    ·refine .inr ?_
     rw [ancs_get _ _ _ (by have:=hlt e he h1; omega)]
     exact h2
  | succ k =>
   have hl:(acc ++ [mask o' acc]).length + k=acc.length + (k + 1):=by simp; omega
   exact ih (acc ++ [mask o' acc]) k o j (by simpa using ho) (by rw [hl]; exact hb) (fun e he h=>by rw [hl]; exact hlt e he h)
def needsAll (gd:Nat->Option Tmp):RS->List Oper->List Eff->List (List Nat)
 | s,o :: r,e :: es=>needsOf (cutT (readsOf gd o) s.tm) o :: needsAll gd (s.app o e) r es
 | _,_,_=>[]
def meets (a b:List Nat):Bool:=a.any fun x=>b.contains x
def conf (gd:Nat->Option Tmp) (o p:Oper) (e f:Eff) (m n:List Nat):Bool :=
 (match o.dst with | some d=>(readsOf gd p).contains d || decide (p.dst=some d) | none=>false) || (match p.dst with | some d=>(readsOf gd o).contains d | none=>false) ||
 meets (keysOf e) (n ++ keysOf f) || meets m (keysOf f)
def nop : Oper := ⟨none, .ready 0, 0, "", #[], none⟩
def noEff:Eff:=⟨True,.any,[]⟩
def drawOK (gd:Nat->Option Tmp) (l:List Oper) (es:List Eff) (nds:List (List Nat)):Bool :=
 let M:=ancs l []
 (List.range l.length).all fun i =>
  ((l.getD i nop).after.toList.all fun e => !Region.binds .any e || decide (e.on < i)) &&
  (List.range i).all fun j => !conf gd (l.getD j nop) (l.getD i nop) (es.getD j noEff) (es.getD i noEff) (nds.getD j []) (nds.getD i []) || (M.getD i 0).testBit j
section
variable {C:Ctx}
theorem effs_get {X:RCtx}:∀ (l:List Oper) (i:Nat) (s:RS) (es:List Eff),X.effs l i s=some es->es.length=l.length ∧
  ∀ k o,l[k]? = some o -> ∃ e,es[k]? = some e/\X.ev (i + k) o (appSel (fun j=>decide (j < i + k)) s l es i)=some e/\dstOK X.nt o.dst=true ∧
   (needsAll X.gd s l es)[k]? = some (needsOf (cutT (readsOf X.gd o) (appSel (fun j=>decide (j < i + k)) s l es i).tm) o):=by
 intro l
 induction l with
 | nil =>
  intro i s es h
  simp only [RCtx.effs,Option.some.injEq] at h
  subst h
  exact ⟨rfl,fun k o h=>by simp at h⟩
 | cons o r ih =>
  intro i s es h
  simp only [RCtx.effs] at h
  split at h
  ·rename_i e hev
   split at h
   ·rename_i hd
    cases e1:X.effs r (i + 1) (s.app o e) with
    | none=>rw [e1] at h; cases h
    | some es' =>
     rw [e1] at h
     cases h
     obtain ⟨hl,hk⟩:=ih (i + 1) _ es' e1
     refine ⟨by simp [hl],fun k o' ho => ?_⟩
     cases k with
     | zero =>
      simp only [List.getElem?_cons_zero,Option.some.injEq] at ho
      subst ho
      have nosel:∀ (f:Nat->Bool) (r:List Oper) (es:List Eff) (i:Nat) (s:RS),(∀ j,i<=j->f j=false)->appSel f s r es i=s:=by
       intro f r
       induction r with
       | nil=>intro es i s _; cases es <;> rfl
       | cons o r ih =>
        intro es i s hf
        cases es with
        | nil=>rfl
        | cons e es =>
         show appSel f (if f i then s.app o e else s) r es (i + 1)=s
         rw [hf i (Nat.le_refl _),if_neg (by simp)]
         exact ih es (i + 1) s (fun j hj=>hf j (by omega))
      have hpre:appSel (fun j=>decide (j < i + 0)) s (o :: r) (e :: es') i=s:=nosel _ _ _ _ _ (fun j hj=>by simp; omega)
      rw [hpre]
      exact ⟨e,rfl,hev,hd,rfl⟩
     | succ k =>
      obtain ⟨e2,h1,h2,h3,h4⟩:=hk k o' (by simpa using ho)
      have hpre:appSel (fun j=>decide (j < i + (k + 1))) s (o :: r) (e :: es') i=appSel (fun j=>decide (j < i + 1 + k)) (s.app o e) r es' (i + 1):=by
       show appSel _ (if decide (i < i + (k + 1)) then s.app o e else s) r es' (i + 1)=_
       rw [if_pos (by simp)]
       have:(fun j=>decide (j < i + (k + 1)))=(fun j=>decide (j < i + 1 + k)):=by funext j; congr 1; simp only [eq_iff_iff]; omega
       rw [this]
      rw [hpre]
      have hik:i + (k + 1)=i + 1 + k:=by omega
      rw [hik]
      exact ⟨e2,by simpa using h1,h2,h3,by simpa [needsAll] using h4⟩
   ·cases h
  ·cases h
theorem cutT_congr {l:List Nat} {tm tm':Nat->AV} (h:∀ t ∈ l,tm t=tm' t):cutT l tm=cutT l tm':=by
 funext t
 unfold cutT
 by_cases hc:l.contains t=true
 ·rw [if_pos hc,if_pos hc]; exact h t (by simpa using hc)
 ·rw [if_neg hc,if_neg hc]
theorem cutH_congr {l:List Nat} {H H':Heap} (h:∀ t ∈ l,H t=H' t):cutH l H=cutH l H':=by
 funext t
 unfold cutH
 by_cases hc:l.contains t=true
 ·rw [if_pos hc,if_pos hc]; exact h t (by simpa using hc)
 ·rw [if_neg hc,if_neg hc]
theorem meets_true {a b:List Nat} {x:Nat} (ha:x ∈ a) (hb:x ∈ b):meets a b=true:=by
 unfold meets
 rw [List.any_eq_true]
 exact ⟨x,ha,by simpa using hb⟩
theorem drawOK_spec {gd:Nat->Option Tmp} {l:List Oper} {es:List Eff} {nds:List (List Nat)} (h:drawOK gd l es nds=true) (i:Nat) (hi:i < l.length) :
  (∀ e ∈ (l.getD i nop).after.toList,Region.binds .any e=true->e.on < i) ∧
  ∀ j,j < i->conf gd (l.getD j nop) (l.getD i nop) (es.getD j noEff) (es.getD i noEff) (nds.getD j []) (nds.getD i [])=true->((ancs l []).getD i 0).testBit j=true:=by
 unfold drawOK at h
 simp only [List.all_eq_true,List.mem_range,Bool.and_eq_true,Bool.or_eq_true,Bool.not_eq_true',decide_eq_true_eq] at h
 obtain ⟨h1,h2⟩:=h i hi
 refine ⟨fun e he hb => ?_,fun j hj hc => ?_⟩
 ·rcases h1 e he with h | h
  ·rw [hb] at h; cases h
  ·exact h
 ·rcases h2 j hj with h | h
  ·rw [hc] at h; cases h
  ·exact h
def Closed (l:List Oper) (f:Nat->Bool):Prop := ∀ i o,l[i]? = some o->f i=true -> ∀ e ∈ o.after.toList,Region.binds .any e=true->f e.on=true
theorem closed_anc {gd:Nat->Option Tmp} {l:List Oper} {es:List Eff} {nds:List (List Nat)} (h:drawOK gd l es nds=true) {f:Nat->Bool} (hc:Closed l f):∀ (i:Nat) (o:Oper) (j:Nat),l[i]? = some o →
  (∀ e ∈ o.after.toList,Region.binds .any e=true->f e.on=true)->((ancs l []).getD i 0).testBit j=true->f j=true:=by
 intro i
 induction i using Nat.strongRecOn with
 | _ i ih =>
  intro o j ho hr hb
  have hi:i < l.length:=(List.getElem?_eq_some_iff.1 ho).1
  have hgi:l.getD i nop=o:=by rw [List.getD_eq_getElem?_getD,ho]; rfl
  have hlt:=(drawOK_spec h i hi).1
  rw [hgi] at hlt
  obtain ⟨e,he,hbe,hor⟩:=ancs_bit l [] i o j ho (by simpa using hb) (fun e he hb=>by simpa using hlt e he hb)
  rcases hor with hor | hor
  ·rw [← hor]; exact hr e he hbe
  ·have hle:=hlt e he hbe
   have ho':l[e.on]? = some l[e.on]:=List.getElem?_eq_getElem (by omega)
   exact ih e.on hle _ j ho' (fun e' he' hb'=>hc e.on _ ho' (hr e he hbe) e' he' hb') hor
theorem mem_readsOf_conf {gd:Nat->Option Tmp} {o p:Oper} {e f:Eff} {m n:List Nat} {t:Nat} (hd:o.dst=some t) (hr:t ∈ readsOf gd p ∨ p.dst=some t):conf gd o p e f m n=true:=by
 unfold conf
 rw [hd]
 rcases hr with hr | hr
 ·have:(readsOf gd p).contains t=true:=by simpa using hr
  simp only [this,Bool.true_or]
 ·rw [hr]; simp
theorem mem_readsOf_conf' {gd:Nat->Option Tmp} {o p:Oper} {e f:Eff} {m n:List Nat} {t:Nat} (hd:p.dst=some t) (hr:t ∈ readsOf gd o):conf gd o p e f m n=true:=by
 have hc:(readsOf gd o).contains t=true:=by simpa using hr
 simp only [conf,hd,hc,Bool.or_true,Bool.true_or]
theorem keys_conf {gd:Nat->Option Tmp} {o p:Oper} {e f:Eff} {m n:List Nat} {b:Nat} (hd:b ∈ keysOf e) (hr:b ∈ n ∨ b ∈ keysOf f):conf gd o p e f m n=true:=by
 have:meets (keysOf e) (n ++ keysOf f)=true:=meets_true hd (List.mem_append.2 hr)
 simp only [conf,this,Bool.or_true,Bool.true_or]
theorem keys_conf' {gd:Nat->Option Tmp} {o p:Oper} {e f:Eff} {m n:List Nat} {b:Nat} (hd:b ∈ keysOf f) (hr:b ∈ m):conf gd o p e f m n=true:=by
 have:meets m (keysOf f)=true:=meets_true hr hd
 simp only [conf,this,Bool.or_true]
theorem obls_get:∀ {es:List Eff},obls es -> ∀ (k:Nat) (e:Eff),es[k]? = some e->e.obl:=by
 intro es
 induction es with
 | nil=>intro _ k e h; simp at h
 | cons f es ih =>
  intro h k e he
  cases k with
  | zero=>simp only [List.getElem?_cons_zero,Option.some.injEq] at he; subst he; exact h.1
  | succ k=>exact ih h.2 k e (by simpa using he)
theorem appSel_all:∀ (l:List Oper) (es:List Eff) (i:Nat) (s:RS) (f:Nat->Bool),(∀ k,k < l.length->f (i + k)=true)->appSel f s l es i=appAll s l es:=by
 intro l
 induction l with
 | nil=>intro es i s f _; cases es <;> rfl
 | cons o r ih =>
  intro es i s f hf
  cases es with
  | nil=>rfl
  | cons e es =>
   show appSel f (if f i then s.app o e else s) r es (i + 1)=appAll (s.app o e) r es
   rw [show f i=true from hf 0 (by simp),if_pos rfl]
   exact ih es (i + 1) _ f (fun k hk=>by have:=hf (k + 1) (by simpa using hk); rw [Nat.add_comm k 1,← Nat.add_assoc] at this; exact this)
theorem RCtx.draw_sound {X:RCtx} (hP:X.P=C.P) (hE:X.E0=C.E0) (hT:Tab.ok C.P X.T) {l:List Oper} (hgd:∀ j,X.gd j=(l.toArray[j]?).bind (·.dst)) (Q:Exit->Act->World->Prop) {s:RS} {es:List Eff} (he:X.effs l 0 s=some es) (hq:obls es)
  (hd:drawOK X.gd l es (needsAll X.gd s l es)=true)
  (hQ:∀ E' a' w',RSok C E' X.nt (appAll s l es) w' a'->(∀ j,X.nx + 8 * l.length<=j->E'.blk j=none/\E'.hdr j=none)->Q .normal a' w') :
  ∀ (fuel:Nat) (listed:Array Bool) (E:Env) (a:Act) (w:World),listed.size=l.length->fuel=((List.range l.length).filter fun i => !listed.getD i false).length->Closed l (fun i=>listed.getD i false) →
   RSok C E X.nt (appSel (fun i=>listed.getD i false) s l es 0) w a->(∀ j,X.nx<=j->(∀ i,i < l.length->listed.getD i false=true -> ¬ (X.nx + 8 * i<=j/\j < X.nx + 8 * i + 8))->E.blk j=none/\E.hdr j=none) →
   wpAny C.P .any l.toArray Q fuel listed a w:=by
 obtain ⟨hlen,hget⟩:=effs_get l 0 s es he
 -- an operation that is ready
 have hready:∀ (listed:Array Bool) (i:Nat),i ∈ Region.ready .any l.toArray listed -> ∃ o,l[i]? = some o/\listed.getD i true=false /\ ∀ e ∈ o.after.toList,Region.binds .any e=true->listed.getD e.on false=true:=by
  intro listed i hi
  simp only [Region.ready,List.mem_filter,List.mem_range,Bool.and_eq_true,Bool.not_eq_true'] at hi
  obtain ⟨h1,h2,h3⟩:=hi
  have hi':i < l.length:=by simpa using h1
  have ho:l[i]? = some l[i]:=List.getElem?_eq_getElem hi'
  refine ⟨l[i],ho,h2,fun e hem hb => ?_⟩
  have ho2:l.toArray[i]? = some l[i]:=by rw [List.getElem?_toArray]; exact ho
  rw [ho2] at h3
  simp only [Option.map_some,Option.getD_some,Array.all_eq_true_iff_forall_mem] at h3
  have:=h3 e (by simpa using hem)
  simp only [hb,Bool.not_true,Bool.false_or] at this
  exact this
 -- where none is ready all are listed
 have hnone:∀ (listed:Array Bool),listed.size=l.length->Region.ready .any l.toArray listed = [] -> ∀ i,i < l.length->listed.getD i false=true:=by
  intro listed hs hr i
  induction i using Nat.strongRecOn with
  | _ i ih =>
   intro hi
   cases hli:listed.getD i false with
   | true=>rfl
   | false =>
    exfalso
    have hmem:i ∈ Region.ready .any l.toArray listed:=by
     simp only [Region.ready,List.mem_filter,List.mem_range,Bool.and_eq_true,Bool.not_eq_true']
     refine ⟨by simpa using hi,?_,?_⟩
     ·rw [Array.getD_eq_getD_getElem?,Array.getElem?_eq_getElem (by omega)] at hli ⊢
      exact hli
     ·have ho2:l.toArray[i]? = some l[i]:=by simp [hi]
      rw [ho2]
      simp only [Option.map_some,Option.getD_some,Array.all_eq_true_iff_forall_mem]
      intro e hem
      cases hb:Region.binds .any e with
      | false=>rfl
      | true =>
       have hlt:=(drawOK_spec hd i hi).1 e (by
        rw [List.getD_eq_getElem?_getD,List.getElem?_eq_getElem hi]
        simpa using hem) hb
       simp [ih e.on hlt (by omega)]
    rw [hr] at hmem
    cases hmem
 intro fuel
 induction fuel with
 | zero =>
  intro listed E a w hsz hfu hcl hok hfr
  have hall:∀ i,i < l.length->listed.getD i false=true:=by
   intro i hi
   have hnil:(List.range l.length).filter (fun i => !listed.getD i false) = []:=List.eq_nil_of_length_eq_zero hfu.symm
   cases h:listed.getD i false with
   | true=>rfl
   | false =>
    have:i ∈ (List.range l.length).filter (fun i => !listed.getD i false):=List.mem_filter.2 ⟨List.mem_range.2 hi,by simp [h]⟩
    rw [hnil] at this
    cases this
  refine ⟨?_,?_⟩
  ·cases hr:Region.ready .any l.toArray listed with
   | nil=>rfl
   | cons i r =>
    obtain ⟨o,ho,h1,_⟩:=hready listed i (by rw [hr]; exact List.mem_cons_self)
    have hi:i < l.length:=(List.getElem?_eq_some_iff.1 ho).1
    have:=hall i hi
    rw [Array.getD_eq_getD_getElem?,Array.getElem?_eq_getElem (by omega)] at this h1
    simp only [Option.getD_some] at this h1
    rw [h1] at this
    cases this
  ·rw [appSel_all l es 0 s _ (fun k hk=>by simpa using hall k hk)] at hok
   exact hQ E a w hok (fun j hj=>hfr j (by omega) (fun i hi _ h=>by omega))
 | succ fuel ih =>
  intro listed E a w hsz hfu hcl hok hfr
  refine ⟨fun hr => ?_,fun i hi => ?_⟩
  ·have hall:=hnone listed hsz hr
   rw [appSel_all l es 0 s _ (fun k hk=>by simpa using hall k hk)] at hok
   exact hQ E a w hok (fun j hj=>hfr j (by omega) (fun i hi _ h=>by omega))
  ·obtain ⟨o,ho,hli,hed⟩:=hready listed i hi
   have hil:i < l.length:=(List.getElem?_eq_some_iff.1 ho).1
   have hli':listed.getD i false=false:=by
    rw [Array.getD_eq_getD_getElem?,Array.getElem?_eq_getElem (by omega)] at hli ⊢
    exact hli
   obtain ⟨e,hei,hev,hdst,hnd⟩:=hget i o ho
   rw [Nat.zero_add] at hev hnd
   have hgo:l.getD i nop=o:=by rw [List.getD_eq_getElem?_getD,ho]; rfl
   have hge:es.getD i noEff=e:=by rw [List.getD_eq_getElem?_getD,hei]; rfl
   have hgn:(needsAll X.gd s l es).getD i []=needsOf (cutT (readsOf X.gd o) (appSel (fun j=>decide (j < i)) s l es 0).tm) o:=by rw [List.getD_eq_getElem?_getD,hnd]; rfl
   -- a conflict orders the two
   have hlow:∀ j,j < i->conf X.gd (l.getD j nop) o (es.getD j noEff) e ((needsAll X.gd s l es).getD j []) (needsOf (cutT (readsOf X.gd o) (appSel (fun j=>decide (j < i)) s l es 0).tm) o)=true->listed.getD j false=true:=by
    intro j hj hc
    have:=(drawOK_spec hd i hil).2 j hj (by rw [hgo,hge,hgn]; exact hc)
    exact closed_anc hd hcl i o j ho hed this
   have hhigh:∀ j o',i < j->l[j]? = some o'->conf X.gd o o' e (es.getD j noEff) (needsOf (cutT (readsOf X.gd o) (appSel (fun j=>decide (j < i)) s l es 0).tm) o) ((needsAll X.gd s l es).getD j [])=true->listed.getD j false=false:=by
    intro j o' hj ho' hc
    have hjl:j < l.length:=(List.getElem?_eq_some_iff.1 ho').1
    have hgo':l.getD j nop=o':=by rw [List.getD_eq_getElem?_getD,ho']; rfl
    have hb:=(drawOK_spec hd j hjl).2 i hj (by rw [hgo,hge,hgn,hgo']; exact hc)
    cases hlj:listed.getD j false with
    | false=>rfl
    | true =>
     have:=closed_anc hd hcl j o' i ho' (fun e' he' hb'=>hcl j o' ho' hlj e' he' hb') hb
     rw [hli'] at this
     cases this
   -- the evaluation at the state that is there
   have htm:cutT (readsOf X.gd o) (appSel (fun i=>listed.getD i false) s l es 0).tm=cutT (readsOf X.gd o) (appSel (fun j=>decide (j < i)) s l es 0).tm:=by
    refine cutT_congr fun t ht=>appSel_tm l es 0 s s rfl fun k o' hk hdk => ?_
    rw [Nat.zero_add]
    have hgk:l.getD k nop=o':=by rw [List.getD_eq_getElem?_getD,hk]; rfl
    rcases Nat.lt_trichotomy k i with h | h | h
    ·rw [hlow k h (by rw [hgk]; exact mem_readsOf_conf hdk (.inl ht))]; simp [h]
    ·rw [h,hli']; simp
    ·rw [hhigh k o' h hk (mem_readsOf_conf' hdk ht)]; simp; omega
   have hhp:cutH (needsOf (cutT (readsOf X.gd o) (appSel (fun j=>decide (j < i)) s l es 0).tm) o) (appSel (fun i=>listed.getD i false) s l es 0).hp=cutH (needsOf (cutT (readsOf X.gd o) (appSel (fun j=>decide (j < i)) s l es 0).tm) o) (appSel (fun j=>decide (j < i)) s l es 0).hp:=by
    refine cutH_congr fun b hb=>appSel_hp l es 0 s s rfl fun k e' hk hdk => ?_
    rw [Nat.zero_add]
    have hkl:k < l.length:=by rw [← hlen]; exact (List.getElem?_eq_some_iff.1 hk).1
    have ho':l[k]? = some l[k]:=List.getElem?_eq_getElem hkl
    have hgk:es.getD k noEff=e':=by rw [List.getD_eq_getElem?_getD,hk]; rfl
    rcases Nat.lt_trichotomy k i with h | h | h
    ·rw [hlow k h (by rw [hgk]; exact keys_conf hdk (.inl hb))]; simp [h]
    ·rw [h,hli']; simp
    ·rw [hhigh k _ h ho' (by rw [hgk]; exact keys_conf' hdk hb)]; simp; omega
   have hev':X.ev i o (appSel (fun i=>listed.getD i false) s l es 0)=some e:=by
    unfold RCtx.ev at hev ⊢
    simp only [htm,hhp]
    exact hev
   -- what comes of it
   let listed':=listed.setIfInBounds i true
   have hget':∀ j,listed'.getD j false=if j=i then true else listed.getD j false:=by
    intro j
    by_cases e:j=i
    ·rw [if_pos e,e]
     simp [listed',Array.getD_eq_getD_getElem?,hsz,hil]
    ·rw [if_neg e]
     simp only [listed',Array.getD_eq_getD_getElem?]
     rw [Array.getElem?_setIfInBounds_ne (fun h=>e h.symm)]
   have happ:(appSel (fun i=>listed.getD i false) s l es 0).app o e=appSel (fun i=>listed'.getD i false) s l es 0:=by
    have h1:((appSel (fun i=>listed.getD i false) s l es 0).app o e).tm=(appSel (fun i=>listed'.getD i false) s l es 0).tm:=by
     funext t
     show putT _ o.dst e.res t=_
     by_cases hdt:o.dst=some t
     ·rw [putT_self hdt]
      refine (appSel_tm_last l es 0 i s o e ho hei hdt (by rw [Nat.zero_add,hget',if_pos rfl]) (fun j o' hj ho' hdj => ?_)).symm
      rw [Nat.zero_add,hget',if_neg (by omega)]
      exact hhigh j o' hj ho' (mem_readsOf_conf hdt (.inr hdj))
     ·rw [putT_other hdt]
      refine appSel_tm l es 0 s s rfl fun k o' hk hdk => ?_
      rw [Nat.zero_add,hget']
      by_cases e':k=i
      ·rw [e',ho] at hk; cases hk; exact absurd hdk hdt
      ·rw [if_neg e']
    have h2:((appSel (fun i=>listed.getD i false) s l es 0).app o e).hp=(appSel (fun i=>listed'.getD i false) s l es 0).hp:=by
     funext b
     show (Heap.upds _ e.upd) b=_
     by_cases hdb:b ∈ keysOf e
     ·refine (appSel_hp_last _ l es 0 i s e hil hei hdb (by rw [Nat.zero_add,hget',if_pos rfl]) (fun j e' hj he' hdj => ?_)).symm
      rw [Nat.zero_add,hget',if_neg (by omega)]
      have hjl:j < l.length:=by rw [← hlen]; exact (List.getElem?_eq_some_iff.1 he').1
      have hgj:es.getD j noEff=e':=by rw [List.getD_eq_getElem?_getD,he']; rfl
      exact hhigh j _ hj (List.getElem?_eq_getElem hjl) (by rw [hgj]; exact keys_conf hdb (.inr hdj))
     ·rw [upds_other _ _ _ hdb]
      refine appSel_hp l es 0 s s rfl fun k e' hk hdk => ?_
      rw [Nat.zero_add,hget']
      by_cases e2:k=i
      ·rw [e2,hei] at hk; cases hk; exact absurd hdk hdb
      ·rw [if_neg e2]
    show RS.mk _ _=_
    cases hR:appSel (fun i=>listed'.getD i false) s l es 0
    rw [hR] at h1 h2
    exact congr (congrArg RS.mk h1) h2
   have hoi:l.toArray[i]? = some o:=by simpa using ho
   have hfri:∀ j,X.nx + 8 * i<=j->j < X.nx + 8 * i + 8->Free E (appSel (fun i=>listed.getD i false) s l es 0).hp j:=by
    intro j h1 h2
    have hbh:=hfr j (by omega) (fun k hk hlk h=>by
     have:k=i:=by omega
     rw [this,hli'] at hlk
     cases hlk)
    refine ⟨hbh.1,hbh.2,?_⟩
    cases h0:(appSel (fun i=>listed.getD i false) s l es 0).hp j with
    | none=>rfl
    | some ob =>
     have hown:=hok.heap.own j ob h0
     cases ob with
     | cells t cs=>obtain ⟨k,us,hk,_⟩:=hown; rw [hbh.1] at hk; cases hk
     | fz t cs=>obtain ⟨k,us,hk,_⟩:=hown; rw [hbh.1] at hk; cases hk
     | vec t sz n f=>obtain ⟨hd',g,hh,_⟩:=hown; rw [hbh.2] at hh; cases hh
     | mp t es=>obtain ⟨k,kt,et,hh,_⟩:=hown; rw [hbh.2] at hh; cases hh
     | vecx t sz n f j fj=>obtain ⟨hd',g,hh,_⟩:=hown; rw [hbh.2] at hh; cases hh
   have hstep:=RCtx.ev_step (ops:=l.toArray) hP hE hT hgd hok hfri hev' hdst (obls_get hq i e hei) (wpAny C.P .any l.toArray Q fuel listed') Q (fun a' w' E' le hok' hfr'=>by
    rw [happ] at hok'
    refine ih listed' E' a' w' (by simp [listed',hsz]) ?_ ?_ hok' ?_
    ·have hcount:∀ (m:Nat) (f g:Nat->Bool),i < m->f i=true->g i=false->(∀ j,j ≠ i->f j=g j)->((List.range m).filter f).length=((List.range m).filter g).length + 1:=by
      intro m f g
      induction m with
      | zero=>intro h; omega
      | succ m ihm =>
       intro hm hf hg hfg
       rw [List.range_succ,List.filter_append,List.filter_append,List.length_append,List.length_append]
       by_cases e':i=m
       ·subst e'
        have:(List.range i).filter f=(List.range i).filter g:=List.filter_congr fun j hj=>hfg j (by have:=List.mem_range.1 hj; omega)
        rw [this]
        simp [hf,hg]
       ·rw [ihm (by omega) hf hg hfg]
        have:f m=g m:=hfg m (fun h=>e' h.symm)
        simp only [List.filter_cons,List.filter_nil,this]
        omega
     have:=hcount l.length (fun i => !listed.getD i false) (fun i => !listed'.getD i false) hil (by simp [hli']) (by simp [hget']) (fun j hj=>by simp [hget',hj])
     omega
    ·intro j oj hoj hlj e' he' hb'
     replace hlj:listed'.getD j false=true:=hlj
     show listed'.getD e'.on false=true
     rw [hget'] at hlj ⊢
     by_cases ej:j=i
     ·rw [ej,ho] at hoj
      cases hoj
      have:=hed e' he' hb'
      split
      ·rfl
      ·exact this
     ·rw [if_neg ej] at hlj
      have:=hcl j oj hoj hlj e' he' hb'
      split
      ·rfl
      ·exact this
    ·intro j hj hno
     have h0:=hfr j hj (fun k hk hlk=>hno k hk (by
      rw [hget']
      split
      ·rfl
      ·exact hlk))
     have hni:=hno i hil (by rw [hget',if_pos rfl])
     have hH:(appSel (fun i=>listed.getD i false) s l es 0).hp j=none:=by
      cases h1:(appSel (fun i=>listed.getD i false) s l es 0).hp j with
      | none=>rfl
      | some ob =>
       have hown:=hok.heap.own j ob h1
       cases ob with
       | cells t cs=>obtain ⟨k,us,hk,_⟩:=hown; rw [h0.1] at hk; cases hk
       | fz t cs=>obtain ⟨k,us,hk,_⟩:=hown; rw [h0.1] at hk; cases hk
       | vec t sz n f=>obtain ⟨hd',g,hh,_⟩:=hown; rw [h0.2] at hh; cases hh
       | mp t es=>obtain ⟨k,kt,et,hh,_⟩:=hown; rw [h0.2] at hh; cases hh
       | vecx t sz n f j fj=>obtain ⟨hd',g,hh,_⟩:=hown; rw [h0.2] at hh; cases hh
     have:=hfr' j (by omega) hH
     exact ⟨by rw [this.1]; exact h0.1,by rw [this.2]; exact h0.2⟩)
   show wpOp C.P l.toArray Q i _ a w
   unfold wpOp
   rw [hoi]
   simp only
   split
   ·rename_i hw
    rw [if_pos hw] at hstep
    exact .inl hstep
   ·rename_i hw
    rw [if_neg hw] at hstep
    exact hstep
end
end Go.Ab
namespace Go.Ab
open Go Go.RowKit
structure ASt where
 tm:List (Nat × AV)
 hp:List (Nat × OB)
 nx:Nat
def look:List (Nat × AV)->Nat->AV
 | [],_ => .any
 | p :: r,t=>if p.1=t then p.2 else look r t
inductive AX where
 | normal
 | ret
 | exit (id:Nat)
def AX.toExit:AX->Exit
 | .normal => .normal
 | .ret => .ret
 | .exit id => .exit id
structure Sat (C:Ctx) (E:Env) (nt:Nat) (st:ASt) (w:World) (a:Act):Prop where
 ok:RSok C E nt ⟨look st.tm,Heap.of st.hp⟩ w a
 fresh:∀ j,st.nx<=j->E.blk j=none/\E.hdr j=none
def SWP (C:Ctx) (nt:Nat) (c:Code) (K:AX->ASt->Prop) (st:ASt):Prop :=
 ∀ E w a,Sat C E nt st w a->c.wp C.P (fun e a' w' => ∃ x E' st',e=x.toExit/\Sat C E' nt st' w' a'/\K x st') a w
section
variable {C:Ctx} {nt:Nat} {K:AX->ASt->Prop} {st:ASt}
theorem swp_mono {c:Code} {K':AX->ASt->Prop} (h:SWP C nt c K st) (hk:∀ x st,K x st->K' x st):SWP C nt c K' st :=
 fun E w a hs=>wp_mono (h E w a hs) fun _ _ _ ⟨x,E',st',he,hs',hk'⟩=>⟨x,E',st',he,hs',hk x st' hk'⟩
theorem swp_skip (h:K .normal st):SWP C nt .skip K st:=fun E _ _ hs=>wp_skip ⟨.normal,E,st,rfl,hs,h⟩
theorem swp_ret (h:K .ret st):SWP C nt .ret K st:=fun E _ _ hs=>wp_ret ⟨.ret,E,st,rfl,hs,h⟩
theorem swp_exit {id:Nat} (h:K (.exit id) st):SWP C nt (.exit id) K st:=fun E _ _ hs=>wp_exit ⟨.exit id,E,st,rfl,hs,h⟩
def seqK (C:Ctx) (nt:Nat) (y:Code) (K:AX->ASt->Prop):AX->ASt->Prop
 | .normal,st=>SWP C nt y K st
 | x,st=>K x st
theorem swp_seq {x y:Code} (h:SWP C nt x (seqK C nt y K) st):SWP C nt (.seq x y) K st:=by
 intro E w a hs
 refine wp_seq (wp_mono (h E w a hs) ?_)
 rintro e a' w' ⟨x',E',st',rfl,hs',hk⟩
 cases x' with
 | normal=>exact hk E' w' a' hs'
 | ret=>exact ⟨.ret,E',st',rfl,hs',hk⟩
 | exit id=>exact ⟨.exit id,E',st',rfl,hs',hk⟩
def blkK (id:Nat) (K:AX->ASt->Prop):AX->ASt->Prop
 | .exit i,st=>if i=id then K .normal st else K (.exit i) st
 | x,st=>K x st
theorem swp_block {id:Nat} {c:Code} (h:SWP C nt c (blkK id K) st):SWP C nt (.block id c) K st:=by
 intro E w a hs
 refine wp_block (wp_mono (h E w a hs) ?_)
 rintro e a' w' ⟨x',E',st',rfl,hs',hk⟩
 cases x' with
 | normal=>exact ⟨.normal,E',st',rfl,hs',hk⟩
 | ret=>exact ⟨.ret,E',st',rfl,hs',hk⟩
 | exit i =>
  by_cases e:i=id
  ·subst e
   have hk':K .normal st':=by simpa [blkK] using hk
   show Exit.inBlock i _ (.exit i) a' w'
   unfold Exit.inBlock
   simp only [if_true]
   exact ⟨.normal,E',st',rfl,hs',hk'⟩
  ·have hk':K (.exit i) st':=by simpa [blkK,e] using hk
   show Exit.inBlock id _ (.exit i) a' w'
   unfold Exit.inBlock
   simp only [e,if_false]
   exact ⟨.exit i,E',st',rfl,hs',hk'⟩
theorem swp_cond {c:Operand} {x y:Code} (b:Bool) (hc:opAV (look st.tm) c = .lit (.bool b)) (h1:b=true->SWP C nt x K st) (h2:b=false->SWP C nt y K st):SWP C nt (.cond c x y) K st:=by
 intro E w a hs
 have hr:=opAV_rel hs.ok.tm c
 simp only at hr
 rw [hc] at hr
 have he:a.eval c = .bool b:=by generalize a.eval c=u at hr; cases hr; rfl
 refine wp_cond he ?_
 cases b with
 | true=>exact h1 rfl E w a hs
 | false=>exact h2 rfl E w a hs
def Ent (C:Ctx) (nt:Nat) (st st2:ASt):Prop := ∀ E w a,Sat C E nt st w a -> ∃ E',Sat C E' nt st2 w a
theorem Ent.refl:Ent C nt st st:=fun E _ _ h=>⟨E,h⟩
theorem Ent.trans {s1 s2 s3:ASt} (h:Ent C nt s1 s2) (k:Ent C nt s2 s3):Ent C nt s1 s3:=fun E w a hs=>let ⟨E',h'⟩:=h E w a hs; k E' w a h'
theorem swp_ent {c:Code} {st2:ASt} (h:Ent C nt st st2) (h2:SWP C nt c K st2):SWP C nt c K st:=fun E w a hs=>let ⟨E',hs'⟩:=h E w a hs; h2 E' w a hs'
def loopK (C:Ctx) (nt:Nat) {X:Type} (S:X->ASt) (I:X->Prop) (μ:X->Nat) (x:X) (K:AX->ASt->Prop):AX->ASt->Prop
 | .normal,st => ∃ x',Ent C nt st (S x')/\I x'/\μ x' < μ x
 | e,st=>K e st
theorem swp_loop {c:Code} {X:Type} (S:X->ASt) (I:X->Prop) (μ:X->Nat) (x0:X) (h0:Ent C nt st (S x0)) (hI:I x0) (hb:∀ x,I x->SWP C nt c (loopK C nt S I μ x K) (S x)):SWP C nt (.loop c) K st:=by
 intro E w a hs
 obtain ⟨E0,hs0⟩:=h0 E w a hs
 refine wp_loop_ghost (fun n a w => ∃ x E,μ x=n/\I x/\Sat C E nt (S x) w a) (μ x0) ⟨x0,E0,rfl,hI,hs0⟩ ?_
 rintro n a w ⟨x,E,rfl,hx,hs⟩
 refine wp_mono (hb x hx E w a hs) ?_
 rintro e a' w' ⟨x',E',st',rfl,hs',hk⟩
 cases x' with
 | normal =>
  obtain ⟨x2,hent,hI2,hlt⟩:=hk
  obtain ⟨E2,hs2⟩:=hent E' w' a' hs'
  exact ⟨μ x2,hlt,x2,E2,rfl,hI2,hs2⟩
 | ret=>exact ⟨.ret,E',st',rfl,hs',hk⟩
 | exit i=>exact ⟨.exit i,E',st',rfl,hs',hk⟩
def gdOf (l:List Oper):Nat->Option Tmp:=fun j=>(l[j]?).bind (·.dst)
def csOf:List (Nat × CallSpec)->Nat->Option CallSpec
 | [],_=>none
 | p :: r,i=>if p.1=i then some p.2 else csOf r i
def keepH (H:Heap):List Nat->List (Nat × OB)
 | []=>[]
 | b :: r=>match H b with | some ob=>(b,ob) :: keepH H r | none=>keepH H r
def regRun (P:Program) (E0:Env) (T:Tab) (nt:Nat) (l:List Oper) (draw:Bool) (cs:List (Nat × CallSpec)) (kt kh:List Nat) (st:ASt):Option (Prop × ASt) :=
 let X:RCtx:=⟨P,E0,T,nt,gdOf l,st.nx,csOf cs⟩
 let s:RS:=⟨look st.tm,Heap.of st.hp⟩
 match X.effs l 0 s with
 | some es =>
  if !draw || drawOK X.gd l es (needsAll X.gd s l es) then
   let s':=appAll s l es
   some (obls es,⟨kt.map fun t=>(t,s'.tm t),keepH s'.hp kh,st.nx + 8 * l.length⟩)
  else none
 | none=>none
theorem look_map {E:Env} {tm:Nat->AV} {a:Act} (h:∀ t,Rel E true (tm t) (a.tmps.getD t undef)):∀ (kt:List Nat) (t:Nat),Rel E true (look (kt.map fun t=>(t,tm t)) t) (a.tmps.getD t undef):=by
 intro kt
 induction kt with
 | nil=>intro t; exact .any _
 | cons k r ih =>
  intro t
  simp only [List.map_cons,look]
  split
  ·rename_i e; subst e; exact h k
  ·exact ih t
theorem keepH_of {H:Heap}:∀ (kh:List Nat) (i:Nat) (ob:OB),Heap.of (keepH H kh) i=some ob->H i=some ob:=by
 intro kh
 induction kh with
 | nil=>intro i ob h; cases h
 | cons b r ih =>
  intro i ob h
  simp only [keepH] at h
  split at h
  ·rename_i ob' e
   rw [Heap.of_cons] at h
   split at h
   ·rename_i e'; subst e'; cases h; exact e
   ·exact ih i ob h
  ·exact ih i ob h
theorem swp_region {T:Tab} (hT:Tab.ok C.P T) (hm:C.P.follows .mixedOrders=true) {id:Nat} {l:List Oper} {draw:Bool} {cs:List (Nat × CallSpec)} {kt kh:List Nat} {q:Prop} {st':ASt}
  (h:regRun C.P C.E0 T nt l draw cs kt kh st=some (q,st')) (hq:q) (hk:K .normal st'):SWP C nt (.region id l.toArray draw) K st:=by
 intro E w a hs
 unfold regRun at h
 simp only at h
 split at h
 ·rename_i es he
  split at h
  ·rename_i hd
   cases h
   let X:RCtx:=⟨C.P,C.E0,T,nt,gdOf l,st.nx,csOf cs⟩
   have hgd:∀ j,X.gd j=(l.toArray[j]?).bind (·.dst):=fun j=>by simp [X,gdOf]
   have fin:∀ E' a' w',RSok C E' nt (appAll ⟨look st.tm,Heap.of st.hp⟩ l es) w' a'->(∀ j,st.nx + 8 * l.length<=j->E'.blk j=none/\E'.hdr j=none) →
     ∃ x E'' st'',(Exit.normal=x.toExit)/\Sat C E'' nt st'' w' a'/\K x st'':=by
    intro E' a' w' hok hfr
    exact ⟨.normal,E',_,rfl,⟨⟨hok.heap.drop (fun i ob hi=>keepH_of kh i ob hi),look_map hok.tm kt,hok.defers,hok.size⟩,hfr⟩,hk⟩
   have hfree:∀ j,st.nx<=j->Free E (Heap.of st.hp) j:=by
    intro j hj
    have h0:=hs.fresh j hj
    refine ⟨h0.1,h0.2,?_⟩
    cases h1:Heap.of st.hp j with
    | none=>rfl
    | some ob =>
     have hown:=hs.ok.heap.own j ob h1
     cases ob with
     | cells t cs=>obtain ⟨k,us,hk',_⟩:=hown; rw [h0.1] at hk'; cases hk'
     | fz t cs=>obtain ⟨k,us,hk',_⟩:=hown; rw [h0.1] at hk'; cases hk'
     | vec t sz n f=>obtain ⟨hd',g,hh,_⟩:=hown; rw [h0.2] at hh; cases hh
     | mp t es=>obtain ⟨k,kt,et,hh,_⟩:=hown; rw [h0.2] at hh; cases hh
     | vecx t sz n f j fj=>obtain ⟨hd',g,hh,_⟩:=hown; rw [h0.2] at hh; cases hh
   cases draw with
   | false =>
    refine wp_region_lit ?_
    refine RCtx.seq_sound (X:=X) rfl rfl hT hgd _ l 0 ⟨look st.tm,Heap.of st.hp⟩ es E a w he hq hs.ok (fun j hj=>hfree j (by simpa [X] using hj)) ?_
    intro E' a' w' _ hok hfr
    exact fin E' a' w' hok (fun j hj=>hfr j (by simpa [X] using hj))
   | true =>
    refine wp_region_any hm ?_
    simp only [Bool.not_true,Bool.false_or] at hd
    refine RCtx.draw_sound (X:=X) rfl rfl hT hgd _ he hq hd (fun E' a' w' hok hfr=>fin E' a' w' hok (fun j hj=>hfr j hj)) _ _ E a _ (by simp) ?_ ?_ ?_ ?_
    ·have:∀ i,i < l.length->(Array.replicate l.toArray.size false).getD i false=false:=fun i hi=>by simp [Array.getD_eq_getD_getElem?,hi]
     rw [List.filter_eq_self.2 (fun i hi=>by rw [this i (List.mem_range.1 hi)]; rfl)]
     simp
    ·intro i o _ hf
     have:(Array.replicate l.toArray.size false).getD i false=false:=by
      simp only [Array.getD_eq_getD_getElem?]
      cases h:(Array.replicate l.toArray.size false)[i]? with
      | none=>rfl
      | some b=>rw [Array.getElem?_replicate] at h; split at h <;> cases h; rfl
     have hf':(Array.replicate l.toArray.size false).getD i false=true:=hf
     rw [this] at hf'
     cases hf'
    ·have hsel:∀ (r:List Oper) (es:List Eff) (i:Nat) (s:RS) (f:Nat->Bool),(∀ j,f j=false)->appSel f s r es i=s:=by
      intro r
      induction r with
      | nil=>intro es i s f _; cases es <;> rfl
      | cons o r ih =>
       intro es i s f hf
       cases es with
       | nil=>rfl
       | cons e es =>
        show appSel f (if f i then s.app o e else s) r es (i + 1)=s
        rw [hf i,if_neg (by simp)]
        exact ih es (i + 1) s f hf
     rw [hsel]
     ·exact ⟨hs.ok.heap.drew,hs.ok.tm,hs.ok.defers,hs.ok.size⟩
     ·intro j
      simp only [Array.getD_eq_getD_getElem?]
      cases h:(Array.replicate l.toArray.size false)[j]? with
      | none=>rfl
      | some b=>rw [Array.getElem?_replicate] at h; split at h <;> cases h; rfl
    ·intro j hj _
     exact ⟨(hfree j hj).1,(hfree j hj).2.1⟩
  ·cases h
 ·cases h
end
end Go.Ab
namespace Go.Ab
open Go Go.RowKit
def isRp:AV->Bool
 | .rp _=>true
 | _=>false
def capOK:AV->Bool
 | .lit _=>true
 | .sl _ _ _=>true
 | .slc _ _ _=>true
 | .rp _=>true
 | .arr _ _ _=>true
 | .clo _ cs=>cs.all isRp
 | _=>false
theorem capOK_down {E:Env}:∀ {cs:List AV} {us:List Value},cs.all capOK=true->RelL E true cs us->RelL E false cs us:=by
 intro cs
 induction cs with
 | nil=>intro us _ h; cases h; exact .nil
 | cons c cs ih =>
  intro us hc h
  simp only [List.all_cons,Bool.and_eq_true] at hc
  cases h with
  | cons h h1 hs =>
   refine .cons ?_ h1 (ih hc.2 hs)
   cases h with
   | lit=>exact .lit _
   | slN=>exact .slN _ _
   | slZ=>exact .slZ _ _ _
   | slA _ _ _ b off cap g hn hcc hg hm h=>exact .slA _ _ _ b off cap g hn hcc hg hm h
   | slcN=>exact .slcN _ _
   | slcZ=>exact .slcZ _ _ _
   | slcA _ _ _ b off g hcc hg hm h=>exact .slcA _ _ _ b off g hcc hg hm h
   | rp b off hm h=>exact .rp b off hm h
   | @clo _ caps us f hl hk =>
    have hc1:=List.all_eq_true.1 hc.1
    refine .clo f hl fun k => ?_
    have hk:=hk k
    by_cases hkl:k < caps.length
    ·have hr:isRp (caps.getD k .any)=true:=by rw [List.getD_eq_getElem?_getD,List.getElem?_eq_getElem hkl]; exact hc1 _ (List.getElem_mem hkl)
     generalize caps.getD k .any=v at hr hk ⊢
     generalize us.getD k undef=u at hk ⊢
     cases hk with
     | rp b off hm h=>exact .rp b off hm h
     | _=>cases hr
    ·rw [List.getD_eq_getElem?_getD,List.getElem?_eq_none (by omega)]; exact .any _
   | _=>cases hc.1
  | arr g hg h hs=>exact .arr g hg h (ih hc.2 hs)
theorem idsL_get:∀ {cs:List AV},idsL cs = [] -> ∀ k,ids (cs.getD k .any) = []:=by
 intro cs
 induction cs with
 | nil=>intro _ k; simp [ids]
 | cons c cs ih =>
  intro h k
  simp only [idsL,List.append_eq_nil_iff] at h
  cases k with
  | zero=>simpa using h.1
  | succ k=>simpa using ih h.2 k
theorem Rel.trim {E F:Env} (hM:∀ b o,E.M b=some o->F.M b=some o) (hf:F.fns=E.fns):∀ {o:Bool} {av:AV} {u:Value},Rel E o av u->(o=true->ids av = [])->Rel F o av u:=by
 intro o av u h
 refine Rel.rec (motive_1:=fun o av u _=>(o=true->ids av = [])->Rel F o av u) (motive_2:=fun o cs us _=>(o=true->idsL cs = [])->RelL F o cs us) ?_ ?_ ?_ ?_ ?_ ?_ ?_ ?_ ?_ ?_ ?_ ?_ ?_ ?_ ?_ ?_ ?_ ?_ ?_ ?_ ?_ h
 ·intro o u _; exact .any u
 ·intro o u _; exact .lit u
 ·intro o cs us _ ih hn; exact .agg (ih (fun e=>by simpa [ids] using hn e))
 ·intro o cs us hl _ ih hn; exact .tup hl fun k=>ih k (fun e=>idsL_get (by simpa [ids] using hn e) k)
 ·intro o sz f _; exact .slN sz f
 ·intro o sz n f b off cap g hn hc hg hm _ ih _
  exact .slA sz n f b off cap g hn hc hg (fun i k hi hk=>mcell_mono' hM (by rw [hg i hi]; exact hk) (hm i k hi hk)) (fun i hi=>ih i hi (fun e=>by cases e))
 ·intro o sz f a _; exact .slZ sz f a
 ·intro o sz f _; exact .slcN sz f
 ·intro o sz n f b off g hc hg hm _ ih _
  exact .slcA sz n f b off g hc hg (fun i k hi hk=>mcell_mono' hM (by rw [hg i hi]; exact hk) (hm i k hi hk)) (fun i hi=>ih i hi (fun e=>by cases e))
 ·intro o sz f a _; exact .slcZ sz f a
 ·intro o cs us b off hm _ ih _; exact .rp b off (fun k hk=>mcell_mono' hM hk (hm k hk)) (ih (fun e=>by cases e))
 ·intro k b p h hn; exact absurd (hn rfl) (by simp [ids])
 ·intro u b h h1 hn; exact absurd (hn rfl) (by simp [ids])
 ·intro k n c b i sz p h hn; exact absurd (hn rfl) (by simp [ids])
 ·intro k cap b p sz n h hn hh; exact absurd (hh rfl) (by simp [ids])
 ·intro u k h _; exact .fn k (by rw [hf]; exact h)
 ·intro o caps us f hl _ ih hn; exact .clo f hl fun k=>ih k (fun e=>idsL_get (by simpa [ids] using hn e) k)
 ·intro o g v u _ h2 ih hn; exact .cnd (fun e=>ih e (fun e=>by simpa [ids] using hn e)) h2
 ·intro o _; exact .nil
 ·intro o v u cs us _ h1 _ ih ihs hn
  exact .cons (ih (fun e=>by have:=hn e; simp only [idsL,List.append_eq_nil_iff] at this; exact this.1)) h1 (ihs (fun e=>by have:=hn e; simp only [idsL,List.append_eq_nil_iff] at this; exact this.2))
 ·intro o sz n f cs us g hg _ _ ih ihs hn
  exact .arr g hg (fun i hi=>ih i hi (fun e=>by cases e)) (ihs (fun e=>by have:=hn e; simp only [idsL,List.append_eq_nil_iff] at this; exact this.2))
theorem RelL.trim {E F:Env} (hM:∀ b o,E.M b=some o->F.M b=some o) (hf:F.fns=E.fns) {cs:List AV} {us:List Value} (h:RelL E false cs us):RelL F false cs us:=by
 have:=Rel.trim hM hf (Rel.agg h) (fun e=>by cases e)
 generalize hz:us.toArray=z at this
 cases this with
 | agg h' =>
  rename_i us'
  have:us=us':=by simpa using hz
  rw [this]; exact h'
inductive Src where
 | same (b:Nat)
 | nil
def srcOfId:List (Nat × Src)->Nat->Option Src
 | [],_=>none
 | p :: r,i=>if p.1=i then some p.2 else srcOfId r i
def coeC (L:Nat->Option OB) (mp:List (Nat × Src)):AV->AV->Prop × List Nat
 | _,.any=>(True,[])
 | .vec b,.sl sz n f =>
  match L b with
  | some (.vec _ sz' n' f')=>(sz'=sz/\n'=n /\ ∀ i,i < n->f' i=f i,[b])
  | _=>(False,[])
 | .vec b,.vec c=>(srcOfId mp c=some (.same b),[])
 | .ptr b p,.ptr c q=>(srcOfId mp c=some (.same b)/\p=q,[])
 | .win b p sz n,.win c q sz' n'=>(srcOfId mp c=some (.same b)/\p=q/\sz=sz'/\n=n',[])
 | .sl sz' n' f',.sl sz n f=>(sz'=sz/\n'=n /\ ∀ i,i < n->f' i=f i,[])
 | .slc sz' n' f',.sl sz n f=>(sz'=sz/\n'=n /\ ∀ i,i < n->f' i=f i,[])
 | .lit (.slice none 0 0),.sl _ n _=>(n=0,[])
 | .lit (.slice none 0 0),.vec c=>(srcOfId mp c=some .nil,[])
 | .arr sz' n' f',.arr sz n f=>(sz'=sz/\n'=n /\ ∀ i,i < n->f' i=f i,[])
 | v,t=>(v=t/\ids t = [],[])
def coeCL (L:Nat->Option OB) (mp:List (Nat × Src)):List AV->List AV->Prop × List Nat
 | [],[]=>(True,[])
 | v :: vs,t :: ts=>((coeC L mp v t).1/\(coeCL L mp vs ts).1,(coeC L mp v t).2 ++ (coeCL L mp vs ts).2)
 | _,_=>(False,[])
def coeS (L:Nat->Option OB) (mp:List (Nat × Src)):AV->AV->Prop × List Nat
 | .agg cs,.agg ds=>coeCL L mp cs ds
 | v,t=>coeC L mp v t
def coeSL (L:Nat->Option OB) (mp:List (Nat × Src)):List AV->List AV->Prop × List Nat
 | [],[]=>(True,[])
 | v :: vs,t :: ts=>((coeS L mp v t).1/\(coeSL L mp vs ts).1,(coeS L mp v t).2 ++ (coeSL L mp vs ts).2)
 | _,_=>(False,[])
def coeV (L:Nat->Option OB) (mp:List (Nat × Src)):AV->AV->Prop × List Nat
 | .tup vs,.tup ts=>coeSL L mp vs ts
 | .clo f vs,.clo g ts=>(f=g/\(coeSL L mp vs ts).1,(coeSL L mp vs ts).2)
 | .cnd g v,t=>(g=true/\(coeS L mp v t).1,(coeS L mp v t).2)
 | v,t=>coeS L mp v t
section
variable {C:Ctx} {E F:Env} {H:Heap} {w:World}
structure EntEnv (L:Nat->Option OB) (mp:List (Nat × Src)) (bs:List Nat) (E F:Env):Prop where
 M:∀ b o,E.M b=some o->F.M b=some o
 fns:F.fns=E.fns
 same:∀ c b,srcOfId mp c=some (.same b)->F.blk c=E.blk b/\F.hdr c=E.hdr b
 nil:∀ c,srcOfId mp c=some .nil->F.blk c=none/\F.hdr c=some (.slice none 0 0)
 frz:∀ b ∈ bs,∀ t sz n f,L b=some (.vec t sz n f) -> ∀ hd,E.hdr b=some hd -> ∀ ob,Rel F ob (.sl sz n f) hd
theorem coeC_rel {L:Nat->Option OB} {mp:List (Nat × Src)} {bs:List Nat} (he:EntEnv L mp bs E F) {v t:AV} {u:Value} {p:Prop × List Nat} (hp:coeC L mp v t=p) (h:p.1) (hb:∀ b ∈ p.2,b ∈ bs) (hr:Rel E true v u):Rel F true t u:=by
 unfold coeC at hp
 split at hp
 ·exact .any _
 ·split at hp
  ·rename_i b sz n f _ ty sz' n' f' hL
   rw [← hp] at h hb
   obtain ⟨rfl,rfl,hh⟩:=h
   cases hr with
   | vec _ hd _=>exact sl_congr (he.frz b (hb b (by simp)) ty _ _ f' hL u hd true) hh
  ·rw [← hp] at h; exact h.elim
 ·rw [← hp] at h
  cases hr with
  | vec _ hd h1=>exact .vec _ (by rw [(he.same _ _ h).2]; exact hd) h1
 ·rw [← hp] at h
  obtain ⟨h1,rfl⟩:=h
  cases hr with
  | ptr _ _ hk=>exact .ptr _ _ (by rw [(he.same _ _ h1).1]; exact hk)
 ·rw [← hp] at h
  obtain ⟨h1,rfl,rfl,rfl⟩:=h
  cases hr with
  | win _ _ _ _ hk hn=>exact .win _ _ _ _ (by rw [(he.same _ _ h1).1]; exact hk) hn
 ·rw [← hp] at h
  obtain ⟨rfl,rfl,hh⟩:=h
  exact sl_congr (hr.trim he.M he.fns (fun _=>rfl)) hh
 ·rw [← hp] at h
  obtain ⟨rfl,rfl,hh⟩:=h
  refine sl_congr (E:=F) ?_ hh
  have:=hr.trim he.M he.fns (fun _=>rfl)
  cases this with
  | slcN=>exact .slN _ _
  | slcZ=>exact .slZ _ _ _
  | slcA _ _ _ b off g hc hg hm h=>exact .slA _ _ _ b off _ g (Nat.le_refl _) hc hg hm h
 ·rw [← hp] at h
  replace h:_=0:=h
  subst h
  cases hr
  exact .slN _ _
 ·rw [← hp] at h
  cases hr
  exact .vec _ (he.nil _ h).2 rfl
 ·cases hr
 ·rw [← hp] at h
  obtain ⟨rfl,h2⟩:=h
  exact hr.trim he.M he.fns (fun _=>h2)
theorem coeC_arr {L:Nat->Option OB} {mp:List (Nat × Src)} {sz n:Nat} {f:Nat->List AV} {t:AV} {p:Prop × List Nat} (hp:coeC L mp (.arr sz n f) t=p) (h:p.1):t = .any ∨ ∃ g,t = .arr sz n g /\ ∀ i,i < n->f i=g i:=by
 cases t <;> simp only [coeC] at hp
 case any=>exact .inl rfl
 case arr sz' n' g =>
  rw [← hp] at h
  obtain ⟨rfl,rfl,hh⟩:=h
  exact .inr ⟨g,rfl,hh⟩
 all_goals (rw [← hp] at h; have:=h.1; cases this)
theorem coeCL_rel {L:Nat->Option OB} {mp:List (Nat × Src)} {bs:List Nat} (he:EntEnv L mp bs E F):∀ {vs ts:List AV} {us:List Value},(coeCL L mp vs ts).1->(∀ b ∈ (coeCL L mp vs ts).2,b ∈ bs)->(∀ sz n f,AV.arr sz n f ∈ vs->AV.any ∉ ts)->RelL E true vs us->RelL F true ts us:=by
 intro vs
 induction vs with
 | nil =>
  intro ts us h _ _ hr
  cases ts with
  | nil=>cases hr; exact .nil
  | cons=>exact h.elim
 | cons v vs ih =>
  intro ts us h hb ha hr
  cases ts with
  | nil=>exact h.elim
  | cons t ts =>
   simp only [coeCL] at h hb
   have ha':∀ sz n f,AV.arr sz n f ∈ vs->AV.any ∉ ts:=fun sz n f hm hn=>ha sz n f (List.mem_cons_of_mem _ hm) (List.mem_cons_of_mem _ hn)
   cases hr with
   | cons h0 h1 hs=>exact .cons (coeC_rel he rfl h.1 (fun b hm=>hb b (List.mem_append_left _ hm)) h0) h1 (ih h.2 (fun b hm=>hb b (List.mem_append_right _ hm)) ha' hs)
   | arr g hg h0 hs =>
    rcases coeC_arr rfl h.1 with h1 | ⟨f',rfl,hff⟩
    ·exact absurd (by rw [h1]; exact List.mem_cons_self) (ha _ _ _ List.mem_cons_self)
    ·exact .arr g hg (fun i hi=>by rw [← hff i hi]; exact (h0 i hi).trim he.M he.fns) (ih h.2 (fun b hm=>hb b (List.mem_append_right _ hm)) ha' hs)
def noAnyL:List AV->Bool
 | []=>true
 | .any :: _=>false
 | _ :: r=>noAnyL r
theorem noAnyL_not:∀ {l:List AV},noAnyL l=true->AV.any ∉ l:=by
 intro l
 induction l with
 | nil=>intro _ h; cases h
 | cons c l ih =>
  intro h hm
  cases hm with
  | head=>cases h
  | tail _ hm=>cases c <;> first | cases h | exact ih h hm
def fullS:AV->Bool
 | .agg cs=>noAnyL cs
 | _=>true
theorem coeS_rel {L:Nat->Option OB} {mp:List (Nat × Src)} {bs:List Nat} (he:EntEnv L mp bs E F) {v t:AV} {u:Value} {p:Prop × List Nat} (hp:coeS L mp v t=p) (h:p.1) (hb:∀ b ∈ p.2,b ∈ bs) (hf:fullS t=true) (hr:Rel E true v u):Rel F true t u:=by
 unfold coeS at hp
 split at hp
 ·rw [← hp] at h hb
  cases hr with
  | agg hl=>exact .agg (coeCL_rel he h hb (fun _ _ _ _=>noAnyL_not hf) hl)
 ·exact coeC_rel he hp h hb hr
theorem coeSL_get {L:Nat->Option OB} {mp:List (Nat × Src)}:∀ {vs ts:List AV},(coeSL L mp vs ts).1->vs.length=ts.length /\ ∀ k,k < vs.length->(coeS L mp (vs.getD k .any) (ts.getD k .any)).1 /\ ∀ b ∈ (coeS L mp (vs.getD k .any) (ts.getD k .any)).2,b ∈ (coeSL L mp vs ts).2:=by
 intro vs
 induction vs with
 | nil=>intro ts h; cases ts with | nil=>exact ⟨rfl,fun k hk=>absurd hk (by simp)⟩ | cons=>exact h.elim
 | cons v vs ih =>
  intro ts h
  cases ts with
  | nil=>exact h.elim
  | cons t ts =>
   obtain ⟨h1,h2⟩:=ih h.2
   refine ⟨by simp [h1],fun k hk => ?_⟩
   cases k with
   | zero=>exact ⟨h.1,fun b hm=>List.mem_append_left _ hm⟩
   | succ k =>
    obtain ⟨h3,h4⟩:=h2 k (by simpa using hk)
    exact ⟨by simpa using h3,fun b hm=>List.mem_append_right _ (h4 b (by simpa using hm))⟩
theorem coeSL_rel {L:Nat->Option OB} {mp:List (Nat × Src)} {bs:List Nat} (he:EntEnv L mp bs E F) {vs ts:List AV} (h:(coeSL L mp vs ts).1) (hb:∀ b ∈ (coeSL L mp vs ts).2,b ∈ bs) (hf:ts.all fullS=true) {us:List Value}
  (hr:∀ k,Rel E true (vs.getD k .any) (us.getD k undef)) (k:Nat):Rel F true (ts.getD k .any) (us.getD k undef):=by
 obtain ⟨hl,hg⟩:=coeSL_get h
 rcases Nat.lt_or_ge k vs.length with hk | hk
 ·obtain ⟨h1,h2⟩:=hg k hk
  refine coeS_rel he rfl h1 (fun b hm=>hb b (h2 b hm)) ?_ (hr k)
  rw [List.all_eq_true] at hf
  rw [List.getD_eq_getElem?_getD,List.getElem?_eq_getElem (by omega)]
  exact hf _ (List.getElem_mem _)
 ·rw [List.getD_eq_getElem?_getD (l:=ts),List.getElem?_eq_none (by omega)]
  exact .any _
def fullV:AV->Bool
 | .tup ts=>ts.all fullS
 | .clo _ ts=>ts.all fullS
 | t=>fullS t
theorem fullV_S {t:AV} (h:fullV t=true):fullS t=true:=by cases t <;> first | exact h | rfl
theorem coeV_rel {L:Nat->Option OB} {mp:List (Nat × Src)} {bs:List Nat} (he:EntEnv L mp bs E F) {v t:AV} {u:Value} {p:Prop × List Nat} (hp:coeV L mp v t=p) (h:p.1) (hb:∀ b ∈ p.2,b ∈ bs) (hf:fullV t=true) (hr:Rel E true v u):Rel F true t u:=by
 unfold coeV at hp
 split at hp
 ·rw [← hp] at h hb
  cases hr with
  | tup hl hk=>exact .tup (by rw [hl]; exact (coeSL_get h).1) (coeSL_rel he h hb hf hk)
 ·rw [← hp] at h hb
  obtain ⟨rfl,h⟩:=h
  cases hr with
  | clo _ hl hk=>exact .clo _ (by rw [hl]; exact (coeSL_get h).1) (coeSL_rel he h hb hf hk)
 ·rw [← hp] at h hb
  obtain ⟨hg,h⟩:=h
  cases hr with
  | cnd h1 h2=>exact coeS_rel he rfl h hb (fullV_S hf) (h1 hg)
 ·exact coeS_rel he hp h hb (fullV_S hf) hr
theorem World.ownsRow_unique {w:World} {t:TypeId} {sz n:Nat} {v:Value} {xs ys:List Value} (h1:w.ownsRow 0 t sz v n xs) (h2:w.ownsRow 0 t sz v n ys):xs=ys:=by
 rcases h1.2 with ⟨rfl,h0⟩ | ⟨g,cap,cur,rfl,_,hw,_,_,_,ht⟩
 ·have e1:=h1.1
  have e2:=h2.1
  subst h0
  rw [Nat.zero_mul] at e1 e2
  rw [List.eq_nil_of_length_eq_zero e1,List.eq_nil_of_length_eq_zero e2]
 ·rcases h2.2 with ⟨h,_⟩ | ⟨g',cap',cur',h,_,hw',_,_,_,ht'⟩
  ·cases h
  ·cases h
   rw [hw] at hw'
   cases hw'
   rw [← ht,ht']
def coeB (L:Nat->Option OB) (mp:List (Nat × Src)):OB->OB->Prop × List Nat
 | .cells t cs,.cells t' ds=>(t=t'/\(coeCL L mp cs ds).1/\noAnyL ds=true,(coeCL L mp cs ds).2)
 | .vec t sz n f,.vec t' sz' n' f'=>(t=t'/\sz=sz'/\n=n' /\ ∀ i,i < n->f i=f' i,[])
 | .mp t es,.mp t' es'=>(t=t'/\es=es',[])
 | .vecx t sz n f j fj,.vecx t' sz' n' f' j' fj'=>(t=t'/\sz=sz'/\n=n'/\j=j'/\(∀ i,i < n->i ≠ j->f i=f' i)/\(coeCL L mp fj fj').1/\noAnyL fj'=true,(coeCL L mp fj fj').2)
 | .vecx t sz n f j fj,.vec t' sz' n' f'=>(t=t'/\sz=sz'/\n=n'/\(∀ i,i < n->i ≠ j->f i=f' i)/\(coeCL L mp fj (f' j)).1/\noAnyL (f' j)=true/\(f' j).all capOK=true,(coeCL L mp fj (f' j)).2)
 | _,_=>(False,[])
def coeT (L:Nat->Option OB) (mp:List (Nat × Src)) (tm:Nat->AV):List (Nat × AV)->Prop × List Nat
 | []=>(True,[])
 | p :: r=>((coeV L mp (tm p.1) p.2).1/\(coeT L mp tm r).1,(coeV L mp (tm p.1) p.2).2 ++ (coeT L mp tm r).2)
def coeH (L:Nat->Option OB) (mp:List (Nat × Src)):List (Nat × OB)->Prop × List Nat
 | []=>(True,[])
 | p :: r =>
  match srcOfId mp p.1 with
  | some (.same b) =>
   match L b with
   | some ob=>((coeB L mp ob p.2).1/\(coeH L mp r).1,(coeB L mp ob p.2).2 ++ (coeH L mp r).2)
   | none=>(False,[])
  | some .nil =>
   match p.2 with
   | .vec _ _ n _=>(n=0/\(coeH L mp r).1,(coeH L mp r).2)
   | .vecx _ _ n _ _ _=>(n=0/\(coeH L mp r).1,(coeH L mp r).2)
   | _=>(False,[])
  | none=>(False,[])
def sames:List (Nat × Src)->List Nat
  | []=>[]
  | (_,.same b) :: r=>b :: sames r
  | _ :: r=>sames r
def entB (lim:Nat) (st2:ASt) (bs:List Nat) (mp:List (Nat × Src)):Bool :=
 noDup (bs ++ sames mp) && noDup (mp.map (·.1)) && st2.tm.all (fun p=>fullV p.2) && mp.all (fun p=>decide (p.1 < st2.nx) && (!decide (p.1 < lim) || (match p.2 with | .same b=>b == p.1 | .nil=>false))) && decide (lim<=st2.nx)
def entQ (st st2:ASt) (bs:List Nat) (mp:List (Nat × Src)):Prop :=
 (coeT (Heap.of st.hp) mp (look st.tm) st2.tm).1/\(coeH (Heap.of st.hp) mp st2.hp).1 ∧
 ((coeT (Heap.of st.hp) mp (look st.tm) st2.tm).2 ++ (coeH (Heap.of st.hp) mp st2.hp).2).all (fun b=>bs.contains b)=true/\bs.all (fun b=>match Heap.of st.hp b with | some (.vec _ _ _ _)=>true | _=>false)=true
theorem srcOfId_mem:∀ {mp:List (Nat × Src)} {c:Nat} {x:Src},srcOfId mp c=some x->(c,x) ∈ mp:=by
 intro mp
 induction mp with
 | nil=>intro c x h; cases h
 | cons p r ih =>
  intro c x h
  simp only [srcOfId] at h
  split at h
  ·rename_i e; cases h; rw [← e]; exact List.mem_cons_self
  ·exact List.mem_cons_of_mem _ (ih h)
theorem sames_mem:∀ {mp:List (Nat × Src)} {c b:Nat},(c,Src.same b) ∈ mp->b ∈ sames mp:=by
 intro mp
 induction mp with
 | nil=>intro c b h; cases h
 | cons p r ih =>
  intro c b h
  obtain ⟨c',x⟩:=p
  cases h with
  | head=>simp only [sames]; exact List.mem_cons_self
  | tail _ h =>
   cases x with
   | same b'=>simp only [sames]; exact List.mem_cons_of_mem _ (ih h)
   | nil=>simp only [sames]; exact ih h
theorem sames_inj:∀ {mp:List (Nat × Src)} {c d b:Nat},noDup (sames mp)=true->srcOfId mp c=some (.same b)->srcOfId mp d=some (.same b)->c=d:=by
 intro mp
 induction mp with
 | nil=>intro c d b _ h; cases h
 | cons p r ih =>
  intro c d b hn hc hd
  obtain ⟨c',x⟩:=p
  simp only [srcOfId] at hc hd
  have hn':noDup (sames r)=true:=by
   cases x with
   | same b'=>exact (noDup_cons hn).2
   | nil=>exact hn
  split at hc
  ·rename_i e1
   cases hc
   have hb:=(noDup_cons (show noDup (b :: sames r)=true from hn)).1
   split at hd
   ·rename_i e2; rw [← e1,← e2]
   ·exact absurd (sames_mem (srcOfId_mem hd)) hb
  ·split at hd
   ·rename_i e2
    cases hd
    have hb:=(noDup_cons (show noDup (b :: sames r)=true from hn)).1
    exact absurd (sames_mem (srcOfId_mem hc)) hb
   ·exact ih hn' hc hd
theorem coeT_look {L:Nat->Option OB} {mp:List (Nat × Src)} {bs:List Nat} (he:EntEnv L mp bs E F) {tm:Nat->AV} {a:Act} (hr:∀ t,Rel E true (tm t) (a.tmps.getD t undef)):∀ (l:List (Nat × AV)),(coeT L mp tm l).1->(∀ b ∈ (coeT L mp tm l).2,b ∈ bs) →
  l.all (fun p=>fullV p.2)=true -> ∀ t,Rel F true (look l t) (a.tmps.getD t undef):=by
 intro l
 induction l with
 | nil=>intro _ _ _ t; exact .any _
 | cons p r ih =>
  intro h hb hf t
  simp only [coeT] at h hb
  simp only [List.all_cons,Bool.and_eq_true] at hf
  simp only [look]
  split
  ·rename_i e
   rw [← e]
   exact coeV_rel he rfl h.1 (fun b hm=>hb b (List.mem_append_left _ hm)) hf.1 (hr p.1)
  ·exact ih h.2 (fun b hm=>hb b (List.mem_append_right _ hm)) hf.2 t
theorem coeH_get {L:Nat->Option OB} {mp:List (Nat × Src)}:∀ (l:List (Nat × OB)),(coeH L mp l).1 -> ∀ c ob,Heap.of l c=some ob →
  (∃ b ob1,srcOfId mp c=some (.same b)/\L b=some ob1/\(coeB L mp ob1 ob).1 /\ ∀ x ∈ (coeB L mp ob1 ob).2,x ∈ (coeH L mp l).2) ∨ (srcOfId mp c=some .nil/\((∃ t sz f,ob = .vec t sz 0 f) ∨ ∃ t sz f j fj,ob = .vecx t sz 0 f j fj)):=by
 intro l
 induction l with
 | nil=>intro _ c ob h; cases h
 | cons p r ih =>
  intro h c ob hc
  rw [Heap.of_cons] at hc
  simp only [coeH] at h ⊢
  split at h
  ·rename_i b hsb
   split at h
   ·rename_i ob1 hL
    simp only
    split at hc
    ·rename_i e
     cases hc
     rw [← e]
     exact .inl ⟨b,ob1,hsb,hL,h.1,fun x hx=>List.mem_append_left _ hx⟩
    ·rcases ih h.2 c ob hc with ⟨b',ob',h1,h2,h3,h4⟩ | h5
     ·exact .inl ⟨b',ob',h1,h2,h3,fun x hx=>List.mem_append_right _ (h4 x hx)⟩
     ·exact .inr h5
   ·exact h.elim
  ·rename_i hsn
   split at h
   ·rename_i t sz n f hp
    obtain ⟨rfl,h⟩:=h
    split at hc
    ·rename_i e
     cases hc
     rw [← e]
     exact .inr ⟨hsn,.inl ⟨t,sz,f,hp⟩⟩
    ·exact ih h c ob hc
   ·rename_i t sz n f j fj hp
    obtain ⟨rfl,h⟩:=h
    split at hc
    ·rename_i e
     cases hc
     rw [← e]
     exact .inr ⟨hsn,.inr ⟨t,sz,f,j,fj,hp⟩⟩
    ·exact ih h c ob hc
   ·exact h.elim
  ·exact h.elim
theorem ent_of {nt lim:Nat} {st st2:ASt} (hE0:∀ j,lim<=j->C.E0.blk j=none/\C.E0.hdr j=none) (bs:List Nat) (mp:List (Nat × Src)) (hb:entB lim st2 bs mp=true) (hq:entQ st st2 bs mp):Ent C nt st st2:=by
 intro E w a hs
 simp only [entB,Bool.and_eq_true,List.all_eq_true,decide_eq_true_eq,Bool.or_eq_true,Bool.not_eq_true',decide_eq_false_iff_not] at hb
 obtain ⟨⟨⟨⟨hnd,hndm⟩,hfull⟩,hmp⟩,hlim⟩:=hb
 obtain ⟨hqT,hqH,hbs,hbv⟩:=hq
 obtain ⟨hndb,hnds,hdisj⟩:=noDup_append hnd
 simp only [List.all_eq_true,List.contains_eq_mem,decide_eq_true_eq] at hbs hbv
 have hvec:∀ b ∈ bs,∃ t sz n f,Heap.of st.hp b=some (.vec t sz n f):=by
  intro b hb
  have:=hbv b hb
  split at this
  ·rename_i t sz n f e; exact ⟨t,sz,n,f,e⟩
  ·cases this
 obtain ⟨E1,le1,hb1,hh1,hok1,hrel1⟩:=HeapOK.freezeAll bs E _ hs.ok.heap hndb hvec
 let F:Env:={ E1 with
  blk:=fun i=>if i < lim then E1.blk i else match srcOfId mp i with | some (.same b)=>E1.blk b | _=>none
  hdr:=fun i=>if i < lim then E1.hdr i else match srcOfId mp i with | some (.same b)=>E1.hdr b | some .nil=>some (.slice none 0 0) | none=>none }
 have hlow:∀ c,c < lim -> ∀ x,srcOfId mp c=some x->x = .same c:=by
  intro c hc x hx
  have:=(hmp _ (srcOfId_mem hx)).2
  rcases this with h | h
  ·exact absurd hc h
  ·cases x with
   | same b=>rw [show b=c by simpa using h]
   | nil=>cases h
 have hsameF:∀ c b,srcOfId mp c=some (.same b)->F.blk c=E1.blk b/\F.hdr c=E1.hdr b:=by
  intro c b h
  by_cases hc:c < lim
  ·have:=hlow c hc _ h
   cases this
   exact ⟨if_pos hc,if_pos hc⟩
  ·constructor
   ·show (if c < lim then _ else _)=_
    rw [if_neg hc,h]
   ·show (if c < lim then _ else _)=_
    rw [if_neg hc,h]
 have hnilF:∀ c,srcOfId mp c=some .nil->F.blk c=none/\F.hdr c=some (.slice none 0 0):=by
  intro c h
  by_cases hc:c < lim
  ·have:=hlow c hc _ h
   cases this
  ·constructor
   ·show (if c < lim then _ else _)=_
    rw [if_neg hc,h]
   ·show (if c < lim then _ else _)=_
    rw [if_neg hc,h]
 have he:EntEnv (Heap.of st.hp) mp bs E F:=by
  refine ⟨fun b o h=>le1.M b o h,le1.fns,fun c b h => ?_,hnilF,fun b hb t sz n f hL hd hh ob => ?_⟩
  ·have:=hsameF c b h
   rw [hb1,hh1] at this
   exact this
  ·have h0:=hrel1 b hb t sz n f hL hd hh false
   have h1:=Rel.trim (E:=E1) (F:=F) (fun _ _ h=>h) rfl h0 (fun e=>by cases e)
   cases ob with
   | false=>exact h1
   | true=>exact h1.up
 refine ⟨F,⟨⟨?_,coeT_look he hs.ok.tm st2.tm hqT (fun b hm=>hbs b (List.mem_append_left _ hm)) (by rw [List.all_eq_true]; exact hfull),hs.ok.defers,hs.ok.size⟩,fun j hj => ?_⟩⟩
 ·have hE0F:C.E0.le F:=by
   refine ⟨fun b o h=>hok1.le.M b o h,fun b k h => ?_,fun b u h => ?_,hok1.le.fns⟩
   ·have hlt:b < lim:=by
     rcases Nat.lt_or_ge b lim with hh | hh
     ·exact hh
     ·rw [(hE0 b hh).1] at h; cases h
    show (if b < lim then _ else _)=_
    rw [if_pos hlt]; exact hok1.le.blk b k h
   ·have hlt:b < lim:=by
     rcases Nat.lt_or_ge b lim with hh | hh
     ·exact hh
     ·rw [(hE0 b hh).2] at h; cases h
    show (if b < lim then _ else _)=_
    rw [if_pos hlt]; exact hok1.le.hdr b u h
  have hLb:∀ c b,srcOfId mp c=some (.same b)->dropIds (Heap.of st.hp) bs b=Heap.of st.hp b:=by
   intro c b h
   exact dropIds_other _ _ _ (fun hm=>hdisj b hm (sames_mem (srcOfId_mem h)))
  refine ⟨hok1.os,hok1.tape,hok1.output,hok1.size,hok1.pres,fun b o h=>hok1.mem b o h,hE0F,fun b o h=>hok1.ext b o h,?_,?_⟩
  ·intro c ob hc
   rcases coeH_get st2.hp hqH c ob hc with ⟨b,ob1,h1,h2,h3,h4⟩ | ⟨h1,⟨t,sz,f,rfl⟩ | ⟨t,sz,f,j,fj,rfl⟩⟩
   ·have hown:=hok1.own b ob1 (by rw [hLb c b h1]; exact h2)
    obtain ⟨hfb,hfh⟩:=hsameF c b h1
    cases ob1 with
    | cells ty cs =>
     cases ob with
     | cells ty' ds =>
      obtain ⟨rfl,hcc,hna⟩:=h3
      obtain ⟨k,us,hk,hav,hM,hw,hr⟩:=hown
      refine ⟨k,us,by rw [hfb]; exact hk,hav,hM,hw,?_⟩
      have hown0:=hs.ok.heap.own b _ h2
      obtain ⟨k0,us0,hk0,_,_,hw0,hr0⟩:=hown0
      rw [← hb1,hk] at hk0
      cases hk0
      rw [hw] at hw0
      have:us=us0:=by simpa using hw0
      rw [this]
      exact coeCL_rel he hcc (fun x hx=>hbs x (List.mem_append_right _ (h4 x hx))) (fun _ _ _ _=>noAnyL_not hna) hr0
     | fz=>exact h3.elim
     | vec=>exact h3.elim
     | vecx=>exact h3.elim
     | mp=>exact h3.elim
    | fz=>cases ob <;> exact h3.elim
    | mp ty es =>
     cases ob with
     | mp ty' es' =>
      obtain ⟨rfl,rfl⟩:=h3
      obtain ⟨k,kt,et,hh,hbk,ha,hM,h1,h2,h3,ho⟩:=hown
      exact ⟨k,kt,et,by rw [hfh]; exact hh,by rw [hfb]; exact hbk,ha,hM,h1,h2,h3,ho⟩
     | fz=>exact h3.elim
     | vec=>exact h3.elim
     | vecx=>exact h3.elim
     | cells=>exact h3.elim
    | vecx ty sz n f j fj =>
     obtain ⟨hd,g,hh,ho,hl,hr,hj,hbk,hav⟩:=hown
     have hown0:=hs.ok.heap.own b _ h2
     obtain ⟨hd0,g0,hh0,ho0,hl0,hr0,hj0,hbk0,_⟩:=hown0
     rw [← hh1,hh] at hh0
     cases hh0
     have hgg:∀ i,i < n->g i=g0 i:=by
      intro i hi
      have hx:=World.ownsRow_unique ho ho0
      refine List.ext_getElem? fun k => ?_
      by_cases hk:k < sz
      ·have e1:=flat_get g sz n hl i k hi hk
       have e2:=flat_get g0 sz n hl0 i k hi hk
       rw [hx] at e1
       rw [← e1,e2]
      ·rw [List.getElem?_eq_none (by rw [hl i hi]; omega),List.getElem?_eq_none (by rw [hl0 i hi]; omega)]
     cases ob with
     | vecx ty' sz' n' f' j' fj' =>
      obtain ⟨rfl,rfl,rfl,rfl,hff,hcc,hna⟩:=h3
      refine ⟨hd,g,by rw [hfh]; exact hh,ho,hl,fun i hi hij=>by rw [← hff i hi hij]; exact RelL.trim (E:=E1) (F:=F) (fun _ _ h=>h) rfl (hr i hi hij),fun hjn => ?_,by rw [hfb]; exact hbk,hav⟩
      rw [hgg j hjn]
      exact coeCL_rel he hcc (fun x hx=>hbs x (List.mem_append_right _ (h4 x hx))) (fun _ _ _ _=>noAnyL_not hna) (hj0 hjn)
     | vec ty' sz' n' f' =>
      obtain ⟨rfl,rfl,rfl,hff,hcc,hna,hcap⟩:=h3
      refine ⟨hd,g,by rw [hfh]; exact hh,ho,hl,fun i hi => ?_,by rw [hfb]; exact hbk,hav⟩
      by_cases hij:i=j
      ·subst hij
       rw [hgg i hi]
       exact capOK_down hcap (coeCL_rel he hcc (fun x hx=>hbs x (List.mem_append_right _ (h4 x hx))) (fun _ _ _ _=>noAnyL_not hna) (hj0 hi))
      ·rw [← hff i hi hij]; exact RelL.trim (E:=E1) (F:=F) (fun _ _ h=>h) rfl (hr i hi hij)
     | fz=>exact h3.elim
     | mp=>exact h3.elim
     | cells=>exact h3.elim
    | vec ty sz n f =>
     cases ob with
     | vec ty' sz' n' f' =>
      obtain ⟨rfl,rfl,rfl,hff⟩:=h3
      obtain ⟨hd,g,hh,ho,hl,hr,hbk,hav⟩:=hown
      exact ⟨hd,g,by rw [hfh]; exact hh,ho,hl,fun i hi=>by rw [← hff i hi]; exact RelL.trim (E:=E1) (F:=F) (fun _ _ h=>h) rfl (hr i hi),by rw [hfb]; exact hbk,hav⟩
     | fz=>exact h3.elim
     | mp=>exact h3.elim
     | vecx=>exact h3.elim
     | cells=>exact h3.elim
   ·obtain ⟨hfb,hfh⟩:=hnilF c h1
    exact ⟨.slice none 0 0,fun _=>[],hfh,World.ownsRow_nil w 0 t sz,fun i hi=>absurd hi (by omega),fun i hi=>absurd hi (by omega),hfb,fun k hk=>by cases hk⟩
   ·obtain ⟨hfb,hfh⟩:=hnilF c h1
    exact ⟨.slice none 0 0,fun _=>[],hfh,World.ownsRow_nil w 0 t sz,fun i hi=>absurd hi (by omega),fun i hi=>absurd hi (by omega),fun h=>absurd h (by omega),hfb,fun k hk=>by cases hk⟩
  ·intro i j k hij hi hj hik hjk
   have get:∀ c,Heap.of st2.hp c ≠ none->F.blk c=some k -> ∃ b,srcOfId mp c=some (.same b)/\dropIds (Heap.of st.hp) bs b ≠ none/\E1.blk b=some k:=by
    intro c hc hk
    cases e:Heap.of st2.hp c with
    | none=>exact absurd e hc
    | some ob =>
     rcases coeH_get st2.hp hqH c ob e with ⟨b,ob1,h1,h2,_⟩ | ⟨h1,_⟩
     ·exact ⟨b,h1,by rw [hLb c b h1,h2]; simp,by rw [← (hsameF c b h1).1]; exact hk⟩
     ·rw [(hnilF c h1).1] at hk; cases hk
   obtain ⟨b1,s1,n1,k1⟩:=get i hi hik
   obtain ⟨b2,s2,n2,k2⟩:=get j hj hjk
   refine hok1.sep b1 b2 k (fun e=>hij ?_) n1 n2 k1 k2
   rw [← e] at s2
   exact sames_inj hnds s1 s2
 ·have hge:¬ j < lim:=by omega
  have hno:srcOfId mp j=none:=by
   cases e:srcOfId mp j with
   | none=>rfl
   | some x=>have:=(hmp _ (srcOfId_mem e)).1; omega
  constructor
  ·show (if j < lim then _ else _)=_
   rw [if_neg hge,hno]
  ·show (if j < lim then _ else _)=_
   rw [if_neg hge,hno]
end
end Go.Ab
namespace Go.Ab
open Go Go.RowKit
def resVal (T:Tab) (st:ASt):ResultVar->Option (Prop × AV)
 | .tmp t=>some (True,look st.tm t)
 | .cell t ty=>evLoad T (Heap.of st.hp) ty (look st.tm t)
def resVals (T:Tab) (st:ASt):List ResultVar->Option (Prop × List AV)
 | []=>some (True,[])
 | r :: rs =>
  match resVal T st r,resVals T st rs with
  | some (q,v),some (q',vs)=>some (q/\q',v :: vs)
  | _,_=>none
def retAV:List AV->AV
 | [v]=>v
 | vs => .tup vs
def retQ (T:Tab) (rs:List ResultVar) (st:ASt) (res:AV) (bs:List Nat):Prop :=
 match resVals T st rs with
 | some (q,vs)=>q/\(coeV (Heap.of st.hp) [] (retAV vs) res).1/\(coeV (Heap.of st.hp) [] (retAV vs) res).2.all (fun b=>bs.contains b)=true/\noDup bs=true ∧
   bs.all (fun b=>match Heap.of st.hp b with | some (.vec _ _ _ _)=>true | _=>false)=true
 | none=>False
def RetK (T:Tab) (rs:List ResultVar) (res:AV):AX->ASt->Prop
 | .exit _,_=>False
 | _,st => ∃ bs,retQ T rs st res bs
def argsTm:List AV->Nat->List (Nat × AV)
 | [],_=>[]
 | v :: r,i=>(i,v) :: argsTm r (i + 1)
theorem look_args:∀ (l:List AV) (i t:Nat),look (argsTm l i) t=if i<=t then l.getD (t - i) .any else .any:=by
 intro l
 induction l with
 | nil=>intro i t; simp [argsTm,look]
 | cons v r ih =>
  intro i t
  simp only [argsTm,look]
  by_cases e:i=t
  ·subst e; simp
  ·rw [if_neg e,ih]
   by_cases h:i<=t
   ·rw [if_pos h,if_pos (by omega)]
    have:t - i=(t - (i + 1)) + 1:=by omega
    rw [this,List.getD_cons_succ]
   ·rw [if_neg h,if_neg (by omega)]
section
variable {C:Ctx} {E:Env} {H:Heap} {w:World} {T:Tab}
theorem loadAt_addr {P:Program} {t:TypeId} {z v:Value} (h:(Instr.loadAt t z).run P w = .ok v w):(do loadVar t (← asAddr z):Sem Value).run P w = .ok v w:=by
 unfold Instr.loadAt Instr.sureAddr at h
 cases z <;> simp only [Sem.run_bind,run_stuck,Result.andThen_halt] at h <;> try (cases h; done)
 rename_i ad
 cases ad with
 | none=>simp only [run_stuck,Result.andThen_halt] at h; cases h
 | some ad=>exact h
def resRun (tmps:Array Value):ResultVar->Sem Value
 | .tmp t=>pure (tmps.getD t undef)
 | .cell x t=>do loadVar t (← asAddr (tmps.getD x undef))
theorem resVals_run (hT:Tab.ok C.P T) {nt:Nat} {st:ASt} {a:Act} (hs:Sat C E nt st w a):∀ (rs:List ResultVar) (q:Prop) (vs:List AV),resVals T st rs=some (q,vs)->q →
  ∃ us,(rs.mapM (resRun a.tmps)).run C.P w = .ok us w/\us.length=vs.length /\ ∀ k,Rel E true (vs.getD k .any) (us.getD k undef):=by
 intro rs
 induction rs with
 | nil =>
  intro q vs h _
  simp only [resVals,Option.some.injEq,Prod.mk.injEq] at h
  rw [← h.2]
  exact ⟨[],rfl,rfl,fun k=>by simp; exact .any _⟩
 | cons r rs ih =>
  intro q vs h hq
  simp only [resVals] at h
  split at h
  ·rename_i q1 v q2 vs' e1 e2
   cases h
   obtain ⟨us,h1,h2,h3⟩:=ih q2 vs' e2 hq.2
   have hr:∃ u,(resRun a.tmps r).run C.P w = .ok u w/\Rel E true v u:=by
    cases r with
    | tmp t =>
     simp only [resVal,Option.some.injEq,Prod.mk.injEq] at e1
     refine ⟨_,rfl,?_⟩
     rw [← e1.2]
     exact hs.ok.tm t
    | cell x t =>
     obtain ⟨u,hu,hr⟩:=evLoad_run hT hs.ok.heap (hs.ok.tm x) (fun _ _ h=>h) e1 hq.1
     exact ⟨u,loadAt_addr hu,hr⟩
   obtain ⟨u,hu,hr⟩:=hr
   refine ⟨u :: us,?_,by simp [h2],fun k => ?_⟩
   ·rw [List.mapM_cons]
    simp only [Sem.run_bind,hu,Result.andThen_ok,h1,Sem.run_pure]
   ·cases k with
    | zero=>exact hr
    | succ k=>simpa using h3 k
  ·cases h
theorem results_run {P:Program} {fn:Func} {tmps:Array Value} {us:List Value} (h:(fn.results.toList.mapM (resRun tmps)).run P w = .ok us w) :
  (results fn tmps).run P w = .ok (if h:us.length=1 then us[0] else .tuple us.toArray) w:=by
 have hm:(fn.results.mapM (resRun tmps)).run P w = .ok us.toArray w:=by
  rw [← Array.toArray_toList (xs:=fn.results),List.mapM_toArray]
  simp only [Sem.run_map,h,Result.andThen_ok]
 have he:results fn tmps=(do let vs ← fn.results.mapM (resRun tmps); pure (if h:vs.size=1 then vs[0] else .tuple vs)):=by
  unfold results
  congr 1
 rw [he]
 simp only [Sem.run_bind,hm,Result.andThen_ok,Sem.run_pure]
 simp
theorem triple_of {P:Program} {f:FuncId} {fn:Func} {c:Code} (hf:P.funcs[f]? = some fn) (hb:fn.body=some c) (hcall:Callable P f) (hT:Tab.ok P T) (s:CallSpec) (hin:s.hin = []) (hout:s.hout = [])
  (hargs:idsL s.args = []) (hres:fullV s.res=true) (hn:s.args.length<=fn.ntmps) (hfn:∀ E E':Env,E'.M=E.M->E'.fns=E.fns->s.fnok E->s.fnok E')
  (body:s.pre -> ∀ C:Ctx,C.P=P->s.fnok C.E0->(∀ j,C.E0.blk j=none/\C.E0.hdr j=none)->SWP C fn.ntmps c (RetK T fn.results.toList s.res) ⟨argsTm s.args 0,[],0⟩):Triple P f s:=by
 refine ⟨hcall,fun hpre E w vs hfnok hok hlen hrel _ => ?_⟩
 let E0:Env:={ E with blk:=fun _=>none,hdr:=fun _=>none }
 let C:Ctx:=calleeCtx P E0 w []
 have hok0:HeapOK C E0 (Heap.of []) w:=⟨rfl,rfl,rfl,Nat.le_refl _,fun _ _=>rfl,fun b o h=>hok.mem b o h,Env.le.refl _,fun b o h => .inl h,(fun i ob h=>by cases h),(fun i j k _ h=>absurd rfl h)⟩
 have htm:∀ t,Rel E0 true (look (argsTm s.args 0) t) ((vs.toArray ++ Array.replicate (fn.ntmps - vs.toArray.size) undef).getD t undef):=by
  intro t
  rw [look_args,if_pos (Nat.zero_le _),Nat.sub_zero]
  rcases Nat.lt_or_ge t vs.length with ht | ht
  ·have h1:(vs.toArray ++ Array.replicate (fn.ntmps - vs.toArray.size) undef).getD t undef=vs.getD t undef:=by
    simp only [Array.getD_eq_getD_getElem?,List.getD_eq_getElem?_getD]
    rw [Array.getElem?_append_left (by simpa using ht)]
    simp
   rw [h1]
   exact Rel.trim (E:=E) (F:=E0) (fun _ _ h=>h) rfl (hrel t) (fun _=>idsL_get hargs t)
  ·rw [List.getD_eq_getElem?_getD,List.getElem?_eq_none (by omega)]
   exact .any _
 have hsat:Sat C E0 fn.ntmps ⟨argsTm s.args 0,[],0⟩ w { tmps:=vs.toArray ++ Array.replicate (fn.ntmps - vs.toArray.size) undef,defers:=[] } :=
  ⟨⟨hok0,htm,rfl,by simp; omega⟩,fun j _=>⟨rfl,rfl⟩⟩
 have hsw:=body hpre C rfl (hfn E E0 rfl rfl hfnok) (fun j=>⟨rfl,rfl⟩) E0 w _ hsat
 refine calls_of_wp hf hb (wp_mono hsw ?_)
 rintro e a' w' ⟨x,E',st',rfl,hs',hk⟩
 have fin:(∃ bs,retQ T fn.results.toList st' s.res bs)->a'.defers = [] /\ ∃ v,(results fn a'.tmps).run P w' = .ok v w'/\CallPost P s E w (.returned v) w':=by
  rintro ⟨bs,hq⟩
  refine ⟨hs'.ok.defers,?_⟩
  unfold retQ at hq
  split at hq
  ·rename_i q rvs hrv
   obtain ⟨hq0,hco,hcb,hnd,hbv⟩:=hq
   obtain ⟨us,hus,hul,hur⟩:=resVals_run (C:=C) hT hs' _ q rvs hrv hq0
   have hrun:=results_run (P:=P) hus
   refine ⟨_,hrun,?_⟩
   have hrv':Rel E' true (retAV rvs) (if h:us.length=1 then us[0] else .tuple us.toArray):=by
    cases rvs with
    | nil =>
     have:us = []:=List.eq_nil_of_length_eq_zero hul
     subst this
     exact .tup rfl (fun k=>hur k)
    | cons v r =>
     cases r with
     | nil =>
      have hul1:us.length=1:=hul
      rw [dif_pos hul1]
      have:=hur 0
      simp only [List.getD_cons_zero] at this
      rw [List.getD_eq_getElem?_getD,List.getElem?_eq_getElem (by omega)] at this
      exact this
     | cons v2 r =>
      have hne:¬ us.length=1:=by rw [hul]; simp
      rw [dif_neg hne]
      exact .tup (cs:=v :: v2 :: r) hul hur
   simp only [List.all_eq_true,List.contains_eq_mem,decide_eq_true_eq] at hcb hbv
   have hvec:∀ b ∈ bs,∃ t sz n f,Heap.of st'.hp b=some (.vec t sz n f):=by
    intro b hb
    have:=hbv b hb
    split at this
    ·rename_i t sz n f e; exact ⟨t,sz,n,f,e⟩
    ·cases this
   obtain ⟨E1,le1,hb1,hh1,hok1,hrel1⟩:=HeapOK.freezeAll bs E' _ hs'.ok.heap hnd hvec
   let F:Env:={ E with M:=E1.M }
   have lF:E.le F:=⟨fun b o h=>hok1.le.M b o h,fun _ _ h=>h,fun _ _ h=>h,rfl⟩
   have hfns:F.fns=E'.fns:=by
    show E.fns=E'.fns
    exact (hs'.ok.heap.le.fns.symm:E0.fns=E'.fns)
   have he:EntEnv (Heap.of st'.hp) [] bs E' F:=by
    refine ⟨fun b o h=>le1.M b o h,hfns,(fun c b h=>by cases h),(fun c h=>by cases h),fun b hb t sz n f hL hd hh ob => ?_⟩
    have h0:=hrel1 b hb t sz n f hL hd hh false
    have h1:=Rel.trim (E:=E1) (F:=F) (fun _ _ h=>h) (by rw [hfns]; exact le1.fns.symm) h0 (fun e=>by cases e)
    cases ob with
    | false=>exact h1
    | true=>exact h1.up
   have hresF:=coeV_rel he rfl hco (fun b hb=>hcb b hb) hres hrv'
   refine ⟨_,F,rfl,?_,hresF,fun j _=>⟨rfl,rfl⟩⟩
   rw [hin,hout]
   refine ⟨hok1.os,hok1.tape,hok1.output,hok1.size,fun b hb=>hok1.pres b ?_,fun b o h=>hok1.mem b o h,lF,fun b o h => ?_,(fun i ob h=>by cases h),(fun i j k _ h=>absurd rfl h)⟩
   ·rintro (h | ⟨q,hq,_⟩)
    ·exact hb (.inl h)
    ·cases hq
   ·rcases hok1.ext b o h with h | h
    ·exact .inl h
    ·rcases h with h | ⟨q,hq,_⟩
     ·exact .inr (.inl h)
     ·cases hq
  ·exact hq.elim
 cases x with
 | normal=>exact fin hk
 | ret=>exact fin hk
 | exit id=>exact hk.elim
end
end Go.Ab
namespace Go.Ab
open Go Go.RowKit
abbrev iv (n:Int):AV := .lit (.int .i64 n)
abbrev bv (b:Bool):AV := .lit (.bool b)
abbrev nilN:List Nat:=[]
abbrev nilP:List PS:=[]
abbrev nilv:AV := .lit (.slice none 0 0)
structure LoopAnn where
 X:Type
 S:X->ASt
 I:X->Prop
 mu:X->Nat
 x0:X
 nx:X->X
structure Hint where
 X:Type
 M:X->List (Nat × AV)
 H:X->List (Nat × OB):=fun _=>[]
 I:X->Prop:=fun _=>True
 mu:X->Nat
 x0:X
 nx:X->X
def Hint.ann (h:Hint) (kt:List (Nat × AV)) (kh:List (Nat × OB)) (n:Nat):LoopAnn where
 X:=h.X
 S:=fun x=>⟨kt ++ h.M x,kh ++ h.H x,n⟩
 I:=h.I
 mu:=h.mu
 x0:=h.x0
 nx:=h.nx
def plainV:AV->Bool
 | .cnd _ _=>false
 | v=>(ids v).isEmpty
def plainB:OB->Bool
 | .cells _ cs=>(idsL cs).isEmpty && noAnyL cs
 | .vec _ _ _ _=>true
 | .mp _ _=>true
 | _=>false
theorem coeC_refl (L:Nat->Option OB) (mp:List (Nat × Src)) {v:AV} (h:ids v = []):(coeC L mp v v).1/\(coeC L mp v v).2 = []:=by
 cases v <;> simp [coeC,ids] at h ⊢ <;> first | exact h | (constructor <;> rfl) | skip
theorem coeCL_refl (L:Nat->Option OB) (mp:List (Nat × Src)):∀ {vs:List AV},idsL vs = []->(coeCL L mp vs vs).1/\(coeCL L mp vs vs).2 = []:=by
 intro vs
 induction vs with
 | nil=>intro _; exact ⟨trivial,rfl⟩
 | cons v vs ih =>
  intro h
  simp only [idsL,List.append_eq_nil_iff] at h
  obtain ⟨h1,h2⟩:=coeC_refl L mp h.1
  obtain ⟨h3,h4⟩:=ih h.2
  exact ⟨⟨h1,h3⟩,by simp only [coeCL,h2,h4]; rfl⟩
theorem coeS_refl (L:Nat->Option OB) (mp:List (Nat × Src)) {v:AV} (h:ids v = []):(coeS L mp v v).1/\(coeS L mp v v).2 = []:=by
 cases v with
 | agg cs=>exact coeCL_refl L mp (by simpa [ids] using h)
 | _=>exact coeC_refl L mp h
theorem coeSL_refl (L:Nat->Option OB) (mp:List (Nat × Src)):∀ {vs:List AV},idsL vs = []->(coeSL L mp vs vs).1/\(coeSL L mp vs vs).2 = []:=by
 intro vs
 induction vs with
 | nil=>intro _; exact ⟨trivial,rfl⟩
 | cons v vs ih =>
  intro h
  simp only [idsL,List.append_eq_nil_iff] at h
  obtain ⟨h1,h2⟩:=coeS_refl L mp h.1
  obtain ⟨h3,h4⟩:=ih h.2
  exact ⟨⟨h1,h3⟩,by simp only [coeSL,h2,h4]; rfl⟩
theorem coeV_refl (L:Nat->Option OB) (mp:List (Nat × Src)) {v:AV} (h:plainV v=true):(coeV L mp v v).1/\(coeV L mp v v).2 = []:=by
 cases v with
 | cnd g v=>cases h
 | tup vs=>exact coeSL_refl L mp (by simpa [plainV,ids] using h)
 | clo f vs =>
  obtain ⟨h1,h2⟩:=coeSL_refl L mp (vs:=vs) (by simpa [plainV,ids] using h)
  exact ⟨⟨rfl,h1⟩,h2⟩
 | _=>exact coeS_refl L mp (by simpa [plainV] using h)
theorem coeB_refl (L:Nat->Option OB) (mp:List (Nat × Src)) {v:OB} (h:plainB v=true):(coeB L mp v v).1/\(coeB L mp v v).2 = []:=by
 cases v with
 | cells t cs =>
  simp only [plainB,Bool.and_eq_true,List.isEmpty_iff] at h
  obtain ⟨h1,h2⟩:=coeCL_refl L mp h.1
  exact ⟨⟨rfl,h1,h.2⟩,h2⟩
 | fz=>cases h
 | vec=>exact ⟨⟨rfl,rfl,rfl,fun _ _=>rfl⟩,rfl⟩
 | mp=>exact ⟨⟨rfl,rfl⟩,rfl⟩
 | vecx=>cases h
def coeTK (L:Nat->Option OB) (mp:List (Nat × Src)) (kt:List Nat) (tm:Nat->AV):List (Nat × AV)->Prop × List Nat
 | []=>(True,[])
 | p :: r =>
  if kt.contains p.1 then ((tm p.1=p.2/\plainV p.2=true)/\(coeTK L mp kt tm r).1,(coeTK L mp kt tm r).2)
  else ((coeV L mp (tm p.1) p.2).1/\(coeTK L mp kt tm r).1,(coeV L mp (tm p.1) p.2).2 ++ (coeTK L mp kt tm r).2)
def coeHK (L:Nat->Option OB) (mp:List (Nat × Src)) (kh:List Nat):List (Nat × OB)->Prop × List Nat
 | []=>(True,[])
 | p :: r =>
  match srcOfId mp p.1 with
  | some (.same b) =>
   match L b with
   | some ob =>
    if kh.contains p.1 then ((ob=p.2/\plainB p.2=true)/\(coeHK L mp kh r).1,(coeHK L mp kh r).2)
    else ((coeB L mp ob p.2).1/\(coeHK L mp kh r).1,(coeB L mp ob p.2).2 ++ (coeHK L mp kh r).2)
   | none=>(False,[])
  | some .nil =>
   match p.2 with
   | .vec _ _ n _=>(n=0/\(coeHK L mp kh r).1,(coeHK L mp kh r).2)
   | .vecx _ _ n _ _ _=>(n=0/\(coeHK L mp kh r).1,(coeHK L mp kh r).2)
   | _=>(False,[])
  | none=>(False,[])
theorem coeTK_T {L:Nat->Option OB} {mp:List (Nat × Src)} {kt:List Nat} {tm:Nat->AV}:∀ {l:List (Nat × AV)},(coeTK L mp kt tm l).1->(coeT L mp tm l).1/\(coeT L mp tm l).2=(coeTK L mp kt tm l).2:=by
 intro l
 induction l with
 | nil=>intro _; exact ⟨trivial,rfl⟩
 | cons p r ih =>
  intro h
  simp only [coeTK] at h ⊢
  simp only [coeT]
  by_cases e:kt.contains p.1=true
  ·rw [if_pos e] at h ⊢
   obtain ⟨⟨h1,h2⟩,h3⟩:=h
   obtain ⟨h4,h5⟩:=coeV_refl L mp h2
   obtain ⟨h6,h7⟩:=ih h3
   rw [h1]
   exact ⟨⟨h4,h6⟩,by rw [h5,h7]; rfl⟩
  ·rw [if_neg e] at h ⊢
   obtain ⟨h6,h7⟩:=ih h.2
   exact ⟨⟨h.1,h6⟩,by rw [h7]⟩
theorem coeHK_H {L:Nat->Option OB} {mp:List (Nat × Src)} {kh:List Nat}:∀ {l:List (Nat × OB)},(coeHK L mp kh l).1->(coeH L mp l).1/\(coeH L mp l).2=(coeHK L mp kh l).2:=by
 intro l
 induction l with
 | nil=>intro _; exact ⟨trivial,rfl⟩
 | cons p r ih =>
  intro h
  simp only [coeHK] at h ⊢
  simp only [coeH]
  split at h
  ·rename_i b hs
   split at h
   ·rename_i ob hL
    simp only [hs,hL]
    by_cases e:kh.contains p.1=true
    ·rw [if_pos e] at h ⊢
     obtain ⟨⟨h1,h2⟩,h3⟩:=h
     obtain ⟨h4,h5⟩:=coeB_refl L mp h2
     obtain ⟨h6,h7⟩:=ih h3
     rw [h1]
     exact ⟨⟨h4,h6⟩,by rw [h5,h7]; rfl⟩
    ·rw [if_neg e] at h ⊢
     obtain ⟨h6,h7⟩:=ih h.2
     exact ⟨⟨h.1,h6⟩,by rw [h7]⟩
   ·exact h.elim
  ·rename_i hs
   split at h
   ·rename_i hp
    simp only [hs,hp]
    obtain ⟨h1,h2⟩:=h
    obtain ⟨h6,h7⟩:=ih h2
    exact ⟨⟨h1,h6⟩,h7⟩
   ·rename_i hp
    simp only [hs,hp]
    obtain ⟨h1,h2⟩:=h
    obtain ⟨h6,h7⟩:=ih h2
    exact ⟨⟨h1,h6⟩,h7⟩
   ·exact h.elim
  ·exact h.elim
def entK (st st2:ASt) (bs:List Nat) (mp:List (Nat × Src)) (kt kh:List Nat):Prop :=
 (coeTK (Heap.of st.hp) mp kt (look st.tm) st2.tm).1/\(coeHK (Heap.of st.hp) mp kh st2.hp).1 ∧
 ((coeTK (Heap.of st.hp) mp kt (look st.tm) st2.tm).2 ++ (coeHK (Heap.of st.hp) mp kh st2.hp).2).all (fun b=>bs.contains b)=true/\bs.all (fun b=>match Heap.of st.hp b with | some (.vec _ _ _ _)=>true | _=>false)=true
theorem entK_Q {st st2:ASt} {bs:List Nat} {mp:List (Nat × Src)} {kt kh:List Nat} (h:entK st st2 bs mp kt kh):entQ st st2 bs mp:=by
 obtain ⟨h1,h2,h3,h4⟩:=h
 obtain ⟨a1,a2⟩:=coeTK_T h1
 obtain ⟨b1,b2⟩:=coeHK_H h2
 exact ⟨a1,b1,by rw [a2,b2]; exact h3,h4⟩
section
variable {C:Ctx} {nt:Nat} {K:AX->ASt->Prop} {st:ASt}
theorem ent_q {st2:ASt} (hE0:∀ j,C.E0.blk j=none/\C.E0.hdr j=none) (bs:List Nat) (mp:List (Nat × Src)) (kt kh:List Nat) (q:Prop) (hb:entB 0 st2 bs mp=true) (he:entK st st2 bs mp kt kh=q) (hq:q):Ent C nt st st2 :=
 ent_of (fun j _=>hE0 j) bs mp hb (entK_Q (by rw [he]; exact hq))
theorem swp_loopA {c:Code} (A:LoopAnn) (h0:Ent C nt st (A.S A.x0)) (hI:A.I A.x0) (hb:∀ x,A.I x->SWP C nt c (loopK C nt A.S A.I A.mu x K) (A.S x)):SWP C nt (.loop c) K st :=
 swp_loop A.S A.I A.mu A.x0 h0 hI hb
theorem loop_next (A:LoopAnn) (x:A.X) (h:Ent C nt st (A.S (A.nx x))) (hI:A.I (A.nx x)) (hm:A.mu (A.nx x) < A.mu x):loopK C nt A.S A.I A.mu x K .normal st :=
 ⟨A.nx x,h,hI,hm⟩
theorem ret_q {T:Tab} {rs:List ResultVar} {res:AV} (bs:List Nat) (q:Prop) (he:retQ T rs st res bs=q) (hq:q):RetK T rs res .ret st:=⟨bs,by rw [he]; exact hq⟩
end
end Go.Ab
namespace Go.Ab
open Go Go.RowKit
def subP (b:Nat) (cs:List AV):AV->AV
 | .ptr c []=>if c=b then .rp cs else .ptr c []
 | v=>v
theorem look_sub (g:AV->AV) (hg:g .any = .any):∀ (l:List (Nat × AV)) (t:Nat),look (l.map fun p=>(p.1,g p.2)) t=g (look l t):=by
 intro l
 induction l with
 | nil=>intro t; exact hg.symm
 | cons p r ih =>
  intro t
  simp only [List.map_cons,look]
  split
  ·rfl
  ·exact ih t
theorem of_filter {l:List (Nat × OB)} {b i:Nat} {ob:OB} (h:Heap.of (l.filter fun p=>p.1 != b) i=some ob):(Heap.of l).put b none i=some ob:=by
 induction l with
 | nil=>cases h
 | cons p r ih =>
  unfold Heap.put at ih ⊢
  by_cases e:p.1=b
  ·rw [List.filter_cons_of_neg (by simp [e])] at h
   have h1:=ih h
   split at h1
   ·cases h1
   ·rename_i hi
    rw [if_neg hi,Heap.of_cons,if_neg (fun e'=>hi (by rw [← e',e]))]
    exact h1
  ·rw [List.filter_cons_of_pos (by simp [e]),Heap.of_cons] at h
   split at h
   ·rename_i e'
    rw [if_neg (fun e2=>e (by rw [e',e2])),Heap.of_cons,if_pos e']
    exact h
   ·rename_i e'
    have h1:=ih h
    split at h1
    ·cases h1
    ·rename_i hi
     rw [if_neg hi,Heap.of_cons,if_neg e']
     exact h1
section
variable {C:Ctx} {nt:Nat} {K:AX->ASt->Prop} {st:ASt}
theorem ent_fz (b:Nat) (t:TypeId) (cs:List AV) (st2:ASt) (hb:Heap.of st.hp b=some (.cells t cs)) (hc:cs.all capOK=true)
  (h2:(⟨st.tm.map (fun p=>(p.1,subP b cs p.2)),st.hp.filter (fun p=>p.1 != b),st.nx⟩:ASt)=st2):Ent C nt st st2:=by
 subst h2
 intro E w a hs
 obtain ⟨k,us,hk,hav,hM,hw,hr⟩:=hs.ok.heap.own b _ hb
 have le:=Env.le_freeze (o := .cells us.toArray t (0,0)) hM
 have hok:=hs.ok.heap.freeze b k _ (by show Heap.of st.hp b ≠ none; rw [hb]; simp) hk hav hM hw
 refine ⟨E.freeze k (.cells us.toArray t (0,0)),⟨⟨hok.drop (fun i ob hi=>of_filter hi),fun tt => ?_,hs.ok.defers,hs.ok.size⟩,fun j hj=>hs.fresh j hj⟩⟩
 have h0:=hs.ok.tm tt
 simp only at h0 ⊢
 rw [look_sub (subP b cs) rfl]
 generalize look st.tm tt=v at h0
 generalize a.tmps.getD tt undef=u at h0
 unfold subP
 split
 ·rename_i c
  split
  ·rename_i e
   subst e
   cases h0 with
   | ptr _ _ hk' =>
    rw [hk] at hk'
    cases hk'
    refine .rp (us:=us) k 0 (fun j hj => ?_) (((Rel.agg (capOK_down hc hr)).mono le |> fun h => ?_))
    ·simp [mcell,frozen_self]
    ·generalize hz:us.toArray=z at h
     cases h with
     | agg h' =>
      rename_i us'
      have:us=us':=by simpa using hz
      rw [this]; exact h'
  ·exact h0.mono le
 ·exact h0.mono le
end
end Go.Ab
namespace Go.Ab
open Go Go.RowKit
def fnokOf (P:Program) (k:Nat) {ι:Type} (A:ι->List AV) (R:ι->AV):Env->Prop:=fun E => ∀ u,E.fns k u -> ∀ i,FnOK P E u (A i) (R i)
theorem FnOK.congr {P:Program} {E E':Env} (hM:E'.M=E.M) {u:Value} {A:List AV} {R:AV} (h:FnOK P E u A R):FnOK P E' u A R:=by
 obtain ⟨f,caps,hu,hc,hk⟩:=h
 exact ⟨f,caps,hu,hc,fun E2 w vs h1=>hk E2 w vs (fun b o hb=>h1 b o (by rw [hM]; exact hb))⟩
theorem fnokOf_congr {P:Program} {k:Nat} {ι:Type} {A:ι->List AV} {R:ι->AV}:∀ E E':Env,E'.M=E.M->E'.fns=E.fns->fnokOf P k A R E->fnokOf P k A R E' :=
 fun E E' hM hF h u hu i=>FnOK.congr hM (h u (by rw [← hF]; exact hu) i)
theorem fnok_clo {P:Program} {E:Env} {f:FuncId} {A:List AV} {R:AV} {caps:List AV} (s:CallSpec) (ht:Triple P f s) (hs:s.args=A ++ caps) (hpre:s.pre) (hfn:∀ E,s.fnok E) (hin:s.hin = []) (hout:s.hout = []) (hres:s.res=R)
  (hids:idsL caps = []) (hno:noFnL caps=true) {u:Value} (hu:Rel E true (.clo f caps) u):FnOK P E u A R:=by
 cases hu with
 | clo _ hl hk =>
  rename_i us
  refine ⟨f,us,rfl,ht.1,fun E2 w vs hM hmem hlen hvs => ?_⟩
  have hok:HeapOK (calleeCtx P E2 w s.hin) E2 (Heap.of s.hin) w:=by
   rw [hin]
   exact ⟨rfl,rfl,rfl,Nat.le_refl _,fun _ _=>rfl,hmem,Env.le.refl _,fun b o h => .inl h,(fun i ob h=>by cases h),fun i j k _ h=>absurd rfl h⟩
  have hcap:∀ k,Rel E2 true (caps.getD k .any) (us.getD k undef):=by
   intro k
   have h1:=Rel.trim (E:=E) (F:={ E2 with fns:=E.fns }) hM rfl (hk k) (fun _=>idsL_get hids k)
   exact h1.setFns E2.fns (fun _=>noFnL_get hno k)
  have hall:∀ k,Rel E2 true (s.args.getD k .any) ((vs ++ us).getD k undef):=by
   intro k
   rw [hs,getD_append_av,getD_append_value,hlen]
   split
   ·exact hvs k
   ·exact hcap _
  have:=ht.2 hpre E2 w (vs ++ us) (hfn _) hok (by rw [hs,List.length_append,List.length_append,hlen,hl]) hall (by rw [hout]; intro p hp; cases hp)
  refine this.mono ?_
  intro e w' h
  unfold CallPost at h ⊢
  rw [hin,hout,hres] at h
  exact h
theorem fnok_arg {P:Program} {E0:Env} {k:Nat} (j:Nat) {ι:Type} {A:ι->List AV} {R:ι->AV} {args vals:List AV} (huniq:∀ j',args[j']? = some (.fn k)->j'=j)
  (h:∀ E u,Rel E true (vals.getD j .any) u -> ∀ i,FnOK P E u (A i) (R i)) (E:Env) (us:List Value) (_:E0.le E) (_:us.length=args.length) (hr:∀ k,Rel E true (vals.getD k .any) (us.getD k undef)):fnokOf P k A R (E.setFns (fnsOf args us)):=by
 rintro u ⟨j',h1,h2⟩ i
 have:=huniq j' h1
 subst this
 have h3:=hr j'
 rw [List.getD_eq_getElem?_getD (l:=us),h2] at h3
 exact FnOK.congr rfl (h E u h3 i)
theorem FnOK.mono {P:Program} {E E':Env} (hM:∀ b o,E.M b=some o->E'.M b=some o) {u:Value} {A:List AV} {R:AV} (h:FnOK P E u A R):FnOK P E' u A R:=by
 obtain ⟨f,caps,hu,hc,hk⟩:=h
 exact ⟨f,caps,hu,hc,fun E2 w vs h1=>hk E2 w vs (fun b o hb=>h1 b o (hM b o hb))⟩
theorem fnok_pass {P:Program} {E0:Env} {k k':Nat} (j:Nat) {ι:Type} {A:ι->List AV} {R:ι->AV} {args vals:List AV} (huniq:∀ j',args[j']? = some (.fn k')->j'=j) (hv:vals.getD j .any = .fn k) (hfn:fnokOf P k A R E0)
  (E:Env) (us:List Value) (le:E0.le E) (_:us.length=args.length) (hr:∀ k,Rel E true (vals.getD k .any) (us.getD k undef)):fnokOf P k' A R (E.setFns (fnsOf args us)):=by
 rintro u ⟨j',h1,h2⟩ i
 have:=huniq j' h1
 subst this
 have h3:=hr j'
 rw [List.getD_eq_getElem?_getD (l:=us),h2,hv] at h3
 cases h3 with
 | fn _ h=>exact FnOK.congr (E:=E) rfl (FnOK.mono le.M (hfn u (by rw [← le.fns]; exact h) i))
end Go.Ab
namespace Go.Ab
open Go Go.RowKit
def RetP (T:Tab) (rs:List ResultVar) (res:AV) (t:TypeId) (cs':List AV):AX->ASt->Prop
 | .exit _,_=>False
 | _,st=>retQ T rs st res []/\Heap.of st.hp 0=some (.cells t cs')
theorem RelL.trim' {E F:Env} (hM:∀ b o,E.M b=some o->F.M b=some o) (hf:F.fns=E.fns) {cs:List AV} {us:List Value} (hi:idsL cs = []) (h:RelL E true cs us):RelL F true cs us:=by
 have:=Rel.trim hM hf (Rel.agg h) (fun _=>by simpa [ids] using hi)
 generalize hz:us.toArray=z at this
 cases this with
 | agg h' =>
  rename_i us'
  have:us=us':=by simpa using hz
  rw [this]; exact h'
def ptrSpec (b:Nat) (p:List PS) (rest:List AV) (t:TypeId) (cs cs':List AV) (pre:Prop) (res:AV):CallSpec :=
 { args := .ptr b p :: rest,pre:=pre,hin:=[(b,.cells t cs)],res:=res,hout:=[(b,.cells t cs')] }
theorem of_single {b i:Nat} {o ob:OB} (h:Heap.of [(b,o)] i=some ob):i=b/\ob=o:=by
 rw [Heap.of_cons] at h
 split at h
 ·rename_i e; cases h; exact ⟨e.symm,rfl⟩
 ·cases h
theorem triple_ptr {P:Program} {f:FuncId} {fn:Func} {c:Code} {T:Tab} (hf:P.funcs[f]? = some fn) (hb:fn.body=some c) (hcall:Callable P f) (hT:Tab.ok P T) (b:Nat) (p:List PS) (rest:List AV) (t:TypeId) (cs cs':List AV) (pre:Prop) (res:AV)
  (hrest:idsL rest = []) (hcs:idsL cs = []) (hcs':idsL cs' = []) (hres:fullV res=true) (hn:rest.length + 1<=fn.ntmps)
  (body:pre -> ∀ C:Ctx,C.P=P->(∀ j,1<=j->C.E0.blk j=none/\C.E0.hdr j=none)->SWP C fn.ntmps c (RetP T fn.results.toList res t cs') ⟨argsTm (.ptr 0 p :: rest) 0,[(0,.cells t cs)],1⟩) :
  Triple P f (ptrSpec b p rest t cs cs' pre res):=by
 refine ⟨hcall,fun hpre E w vs _ hok hlen hrel _ => ?_⟩
 replace hpre:pre:=hpre
 replace hlen:vs.length=rest.length + 1:=hlen
 replace hrel:∀ k,Rel E true ((.ptr b p :: rest).getD k .any) (vs.getD k undef):=hrel
 obtain ⟨k,us,hbk,hav,hM,hw,hr⟩:=hok.own b (.cells t cs) (by show Heap.of [(b,OB.cells t cs)] b=_; rw [Heap.of_cons,if_pos rfl])
 let E0:Env:={ E with blk:=fun j=>if j=0 then some k else none,hdr:=fun _=>none }
 let C:Ctx:=⟨P,w,E0,fun x=>w.heap.size<=x ∨ x=k,fun _ h => .inl h⟩
 have hok0:HeapOK C E0 (Heap.of [(0,.cells t cs)]) w:=by
  refine ⟨rfl,rfl,rfl,Nat.le_refl _,fun _ _=>rfl,fun b o h=>hok.mem b o h,Env.le.refl _,fun b o h => .inl h,fun i ob h => ?_,fun i j x hij hi hj => ?_⟩
  ·obtain ⟨rfl,rfl⟩:=of_single h
   exact ⟨k,us,rfl,.inr rfl,hM,hw,RelL.trim' (E:=E) (F:=E0) (fun _ _ h=>h) rfl hcs hr⟩
  ·exfalso
   apply hij
   have h0:∀ i,Heap.of [(0,OB.cells t cs)] i ≠ none->i=0:=by
    intro i h
    cases e:Heap.of [(0,OB.cells t cs)] i with
    | none=>exact absurd e h
    | some ob=>exact (of_single e).1
   rw [h0 i hi,h0 j hj]
 have hargs:∀ t,Rel E0 true (look (argsTm (.ptr 0 p :: rest) 0) t) ((vs.toArray ++ Array.replicate (fn.ntmps - vs.toArray.size) undef).getD t undef):=by
  intro t
  rw [look_args,if_pos (Nat.zero_le _),Nat.sub_zero]
  rcases Nat.lt_or_ge t vs.length with ht | ht
  ·have h1:(vs.toArray ++ Array.replicate (fn.ntmps - vs.toArray.size) undef).getD t undef=vs.getD t undef:=by
    simp only [Array.getD_eq_getD_getElem?,List.getD_eq_getElem?_getD]
    rw [Array.getElem?_append_left (by simpa using ht)]
    simp
   rw [h1]
   have h2:=hrel t
   cases t with
   | zero =>
    simp only [List.getD_cons_zero] at h2 ⊢
    generalize vs.getD 0 undef=u at h2
    cases h2 with
    | ptr _ _ hk =>
     rw [hbk] at hk
     cases hk
     exact .ptr 0 p rfl
   | succ t =>
    simp only [List.getD_cons_succ] at h2 ⊢
    exact Rel.trim (E:=E) (F:=E0) (fun _ _ h=>h) rfl h2 (fun _=>idsL_get hrest t)
  ·rw [List.getD_eq_getElem?_getD,List.getElem?_eq_none (by simp; omega)]
   exact .any _
 have hsat:Sat C E0 fn.ntmps ⟨argsTm (.ptr 0 p :: rest) 0,[(0,.cells t cs)],1⟩ w { tmps:=vs.toArray ++ Array.replicate (fn.ntmps - vs.toArray.size) undef,defers:=[] }:=by
  refine ⟨⟨hok0,hargs,rfl,by simp; omega⟩,fun j hj=>⟨?_,rfl⟩⟩
  have hj':1<=j:=hj
  show (if j=0 then some k else none)=none
  rw [if_neg (by omega)]
 have hsw:=body hpre C rfl (fun j hj=>⟨by show (if j=0 then some k else none)=none; rw [if_neg (by omega)],rfl⟩) E0 w _ hsat
 refine calls_of_wp hf hb (wp_mono hsw ?_)
 rintro e a' w' ⟨x,E',st',rfl,hs',hk⟩
 have fin:(retQ T fn.results.toList st' res []/\Heap.of st'.hp 0=some (.cells t cs'))->a'.defers = [] /\ ∃ v,(results fn a'.tmps).run P w' = .ok v w'/\CallPost P (ptrSpec b p rest t cs cs' pre res) E w (.returned v) w':=by
  rintro ⟨hq,hH⟩
  refine ⟨hs'.ok.defers,?_⟩
  unfold retQ at hq
  split at hq
  ·rename_i q rvs hrv
   obtain ⟨hq0,hco,hcb,hnd,hbv⟩:=hq
   obtain ⟨rus,hus,hul,hur⟩:=resVals_run (C:=C) hT hs' _ q rvs hrv hq0
   have hrun:=results_run (P:=P) hus
   refine ⟨_,hrun,?_⟩
   have hrv':Rel E' true (retAV rvs) (if h:rus.length=1 then rus[0] else .tuple rus.toArray):=by
    cases rvs with
    | nil =>
     have:rus = []:=List.eq_nil_of_length_eq_zero hul
     subst this
     exact .tup rfl (fun k=>hur k)
    | cons v r =>
     cases r with
     | nil =>
      have hul1:rus.length=1:=hul
      rw [dif_pos hul1]
      have:=hur 0
      simp only [List.getD_cons_zero] at this
      rw [List.getD_eq_getElem?_getD,List.getElem?_eq_getElem (by omega)] at this
      exact this
     | cons v2 r =>
      have hne:¬ rus.length=1:=by rw [hul]; simp
      rw [dif_neg hne]
      exact .tup (cs:=v :: v2 :: r) hul hur
   have hle:=hs'.ok.heap.le
   let F:Env:={ E with M:=E'.M }
   have hfns:F.fns=E'.fns:=by
    show E.fns=E'.fns
    exact (hle.fns.symm:E0.fns=E'.fns)
   have lF:E.le F:=⟨fun b o h=>hle.M b o h,fun _ _ h=>h,fun _ _ h=>h,rfl⟩
   have he:EntEnv (Heap.of st'.hp) [] [] E' F :=
    ⟨fun b o h=>h,hfns,(fun c b h=>by cases h),(fun c h=>by cases h),(fun b hb=>by cases hb)⟩
   simp only [List.all_eq_true,List.contains_eq_mem,decide_eq_true_eq] at hcb
   have hresF:=coeV_rel he rfl hco (fun b hb=>by have:=hcb b hb; cases this) hres hrv'
   have hcav:∀ x,C.avail x->(calleeCtx P E w [(b,OB.cells t cs)]).avail x:=by
    rintro x (h | rfl)
    ·exact .inl h
    ·exact .inr ⟨(b,OB.cells t cs),List.mem_singleton.2 rfl,hbk⟩
   refine ⟨_,F,rfl,?_,hresF,fun j _=>⟨rfl,rfl⟩⟩
   have h':=hs'.ok.heap
   refine ⟨h'.os,h'.tape,h'.output,h'.size,fun x hx=>h'.pres x (fun h=>hx (hcav x h)),fun x o h=>h'.mem x o h,lF,fun x o h => ?_,fun i ob h => ?_,fun i j y hij hi hj => ?_⟩
   ·rcases h'.ext x o h with h | h
    ·exact .inl h
    ·exact .inr (hcav x h)
   ·obtain ⟨rfl,rfl⟩:=of_single h
    obtain ⟨k',us',hb',hav',hM',hw',hr'⟩:=h'.own 0 _ hH
    have h0:E'.blk 0=some k:=hle.blk 0 k rfl
    rw [h0] at hb'
    cases hb'
    exact ⟨k,us',hbk,hcav k (.inr rfl),hM',hw',RelL.trim' (E:=E') (F:=F) (fun _ _ h=>h) hfns hcs' hr'⟩
   ·exfalso
    apply hij
    have h0:∀ i,Heap.of [(b,OB.cells t cs')] i ≠ none->i=b:=by
     intro i h
     cases e:Heap.of [(b,OB.cells t cs')] i with
     | none=>exact absurd e h
     | some ob=>exact (of_single e).1
    rw [h0 i hi,h0 j hj]
  ·exact hq.elim
 cases x with
 | normal=>exact fin hk
 | ret=>exact fin hk
 | exit id=>exact hk.elim
section
variable {C:Ctx} {nt:Nat} {K:AX->ASt->Prop} {st:ASt}
theorem ent_p {st2:ASt} (hE0:∀ j,1<=j->C.E0.blk j=none/\C.E0.hdr j=none) (bs:List Nat) (mp:List (Nat × Src)) (kt kh:List Nat) (q:Prop) (hb:entB 1 st2 bs mp=true) (he:entK st st2 bs mp kt kh=q) (hq:q):Ent C nt st st2 :=
 ent_of hE0 bs mp hb (entK_Q (by rw [he]; exact hq))
theorem ret_p {T:Tab} {rs:List ResultVar} {res:AV} {t:TypeId} {cs':List AV} (cs:List AV) (q:Prop) (he:retQ T rs st res []=q) (hH:Heap.of st.hp 0=some (.cells t cs)) (hq:q) (hc:cs=cs'):RetP T rs res t cs' .ret st :=
 ⟨by rw [he]; exact hq,by rw [hH,hc]⟩
end
end Go.Ab
namespace Go.Ab
open Go Go.RowKit
theorem run_part_int {P:Program} {t:TypeId} {k:IntKind} (h:P.underlying t=some (.int k)) {xs:Array Value} {off:Nat} {v:Value} (hx:xs[off]? = some v) (w:World):(part t xs off).run P w = .ok v w:=by
 unfold part
 simp only [Sem.run_bind,Go.isAgg,run_underlying h,Result.andThen_ok,Sem.run_pure,Bool.false_eq_true,if_false,hx]
theorem eqFields_ints {P : Program} (w : World) (a b : List Int) : ∀ (fs : List Field) (k : Nat), (∀ j f, fs[j]? = some f → f.offset = k + j ∧ f.name ≠ "_" ∧ P.underlying f.type = some (.int .i64)) → a.length = k + fs.length → b.length = k + fs.length →
  (Op.eqFields 9999 (a.map (Value.int .i64)).toArray (b.map (Value.int .i64)).toArray fs).run P w = .ok (decide (a.drop k=b.drop k)) w:=by
 intro fs
 induction fs with
 | nil =>
  intro k _ h1 h2
  rw [List.drop_of_length_le (by simp at h1; omega),List.drop_of_length_le (by simp at h2; omega)]
  simp [Op.eqFields]
 | cons f fs ih =>
  intro k hf h1 h2
  obtain ⟨ho,hn,hu⟩:=hf 0 f rfl
  simp only [List.length_cons] at h1 h2
  have ha:k < a.length:=by omega
  have hb:k < b.length:=by omega
  have hx:(a.map (Value.int .i64)).toArray[f.offset]? = some (.int .i64 a[k]):=by rw [ho]; simp [ha]
  have hy:(b.map (Value.int .i64)).toArray[f.offset]? = some (.int .i64 b[k]):=by rw [ho]; simp [hb]
  rw [Op.eqFields,if_pos hn]
  simp only [Sem.run_bind,run_part_int hu hx,run_part_int hu hy,Result.andThen_ok,run_equalIn_int w 9998 f.type .i64 .i64 _ _ hu]
  have key:(a.drop k=b.drop k) ↔ (a[k]=b[k]/\a.drop (k + 1)=b.drop (k + 1)):=by
   rw [List.drop_eq_getElem_cons ha,List.drop_eq_getElem_cons hb,List.cons.injEq]
  by_cases e:a[k]=b[k]
  ·have e1:(a[k] == b[k])=true:=by simpa using e
   rw [e1]
   simp only [Bool.not_true,Bool.false_eq_true,if_false]
   rw [ih (k + 1) (fun j g hj=>by have:=hf (j + 1) g (by simpa using hj); exact ⟨by omega,this.2⟩) (by omega) (by omega)]
   rw [decide_eq_decide.2 (key.trans (and_iff_right e))]
  ·have e1:(a[k] == b[k])=false:=by simpa using e
   rw [e1,decide_eq_false (fun h=>e (key.1 h).1)]
   simp
def isI64:Option TypeDesc->Bool
 | some (.int .i64)=>true
 | _=>false
def fldsOK (P:Program):Nat->List Field->Bool
 | _,[]=>true
 | k, f :: fs => decide (f.offset = k) && (decide (f.name ≠ "_") && (isI64 (P.underlying f.type) && fldsOK P (k + 1) fs))
theorem flds_ok {P : Program} : ∀ (fs : List Field) (k : Nat), fldsOK P k fs = true → ∀ j f, fs[j]? = some f → f.offset = k + j ∧ f.name ≠ "_" ∧ P.underlying f.type = some (.int .i64) := by
 intro fs
 induction fs with
 | nil=>intro k _ j f h; simp at h
 | cons g fs ih =>
  intro k h j f hj
  simp only [fldsOK,Bool.and_eq_true,decide_eq_true_eq] at h
  obtain ⟨h1,h2,h3,h4⟩:=h
  cases j with
  | zero =>
   simp only [List.getElem?_cons_zero,Option.some.injEq] at hj
   subst hj
   refine ⟨by omega,h2,?_⟩
   unfold isI64 at h3
   split at h3
   ·rename_i e; exact e
   ·cases h3
  | succ j =>
   have:=ih (k + 1) h4 j f (by simpa using hj)
   exact ⟨by omega,this.2⟩
theorem flat_ints {P:Program} {t:TypeId} {n:Nat} (hl:(P.fieldsOf t).toList.length=n) (hu:P.underlying t=some (.struct (P.fieldsOf t))) (hp:P.stoodInHeld t=false) (hg:P.eqGuardType P.depth t=false) (hfs:fldsOK P 0 (P.fieldsOf t).toList=true):FlatEq P t n:=by
 refine ⟨hg,fun w a b h1 h2 => ?_⟩
 rw [run_equalIn_agg w 9999 t _ _ hu hp,eqFields_ints w a b _ 0 (flds_ok _ 0 hfs) (by omega) (by omega)]
 simp
end Go.Ab
namespace Go.Ab
open Go Go.RowKit Go.Proofs
def ti2:TI:=⟨.int .i64,1,8,[.lit (Value.int .i64 0)],false⟩
theorem tok2:TOK Try.prog 2 ti2:=⟨⟨Try.t2,Value.int .i64 0,by kernel_rfl,rfl,rfl,rfl,rfl,fun _ _=>(.cons (.lit _) rfl .nil)⟩,Try.underlying2,fun _=>rfl,(by intro h; cases h)⟩
def ti3:TI:=⟨.int .i64,1,8,[.lit (Value.int .i64 0)],false⟩
theorem tok3:TOK Try.prog 3 ti3:=⟨⟨Try.t3,Value.int .i64 0,by kernel_rfl,rfl,rfl,rfl,rfl,fun _ _=>(.cons (.lit _) rfl .nil)⟩,Try.underlying3,fun _=>rfl,(by intro h; cases h)⟩
def ti4:TI:=⟨.bool,1,1,[.lit (Value.bool false)],false⟩
theorem tok4:TOK Try.prog 4 ti4:=⟨⟨Try.t4,Value.bool false,by kernel_rfl,rfl,rfl,rfl,rfl,fun _ _=>(.cons (.lit _) rfl .nil)⟩,Try.underlying4,fun _=>rfl,(by intro h; cases h)⟩
def ti5:TI:=⟨.int .u8,1,1,[.lit (Value.int .u8 0)],false⟩
theorem tok5:TOK Try.prog 5 ti5:=⟨⟨Try.t5,Value.int .u8 0,by kernel_rfl,rfl,rfl,rfl,rfl,fun _ _=>(.cons (.lit _) rfl .nil)⟩,Try.underlying5,fun _=>rfl,(by intro h; cases h)⟩
def ti6:TI:=⟨.int .u8,1,1,[.lit (Value.int .u8 0)],false⟩
theorem tok6:TOK Try.prog 6 ti6:=⟨⟨Try.t6,Value.int .u8 0,by kernel_rfl,rfl,rfl,rfl,rfl,fun _ _=>(.cons (.lit _) rfl .nil)⟩,Try.underlying6,fun _=>rfl,(by intro h; cases h)⟩
def ti7:TI:=⟨.struct [(2,0),(3,1),(4,2),(6,3)],4,24,[.lit (Value.int .i64 0),.lit (Value.int .i64 0),.lit (Value.bool false),.lit (Value.int .u8 0)],false⟩
theorem tok7:TOK Try.prog 7 ti7:=⟨⟨Try.t7,.agg #[Value.int .i64 0,Value.int .i64 0,Value.bool false,Value.int .u8 0],by kernel_rfl,rfl,rfl,rfl,rfl,fun _ _=>(.cons (.lit _) rfl (.cons (.lit _) rfl (.cons (.lit _) rfl (.cons (.lit _) rfl .nil))))⟩,⟨_,Try.underlying7,rfl⟩,(by intro h; cases h),(by intro h; cases h)⟩
def ti8:TI:=⟨.struct [(2,0),(3,1),(4,2),(6,3)],4,24,[.lit (Value.int .i64 0),.lit (Value.int .i64 0),.lit (Value.bool false),.lit (Value.int .u8 0)],false⟩
theorem tok8:TOK Try.prog 8 ti8:=⟨⟨Try.t8,.agg #[Value.int .i64 0,Value.int .i64 0,Value.bool false,Value.int .u8 0],by kernel_rfl,rfl,rfl,rfl,rfl,fun _ _=>(.cons (.lit _) rfl (.cons (.lit _) rfl (.cons (.lit _) rfl (.cons (.lit _) rfl .nil))))⟩,⟨_,Try.underlying8,rfl⟩,(by intro h; cases h),(by intro h; cases h)⟩
def ti12:TI:=⟨.int .u64,1,8,[.lit (Value.int .u64 0)],false⟩
theorem tok12:TOK Try.prog 12 ti12:=⟨⟨Try.t12,Value.int .u64 0,by kernel_rfl,rfl,rfl,rfl,rfl,fun _ _=>(.cons (.lit _) rfl .nil)⟩,Try.underlying12,fun _=>rfl,(by intro h; cases h)⟩
def ti15:TI:=⟨.ptr 186,1,8,[.lit (Value.pointer none)],false⟩
theorem tok15:TOK Try.prog 15 ti15:=⟨⟨Try.t15,Value.pointer none,by kernel_rfl,rfl,rfl,rfl,rfl,fun _ _=>(.cons (.lit _) rfl .nil)⟩,Try.underlying15,fun _=>rfl,(by intro h; cases h)⟩
def ti16:TI:=⟨.ptr 189,1,8,[.lit (Value.pointer none)],false⟩
theorem tok16:TOK Try.prog 16 ti16:=⟨⟨Try.t16,Value.pointer none,by kernel_rfl,rfl,rfl,rfl,rfl,fun _ _=>(.cons (.lit _) rfl .nil)⟩,Try.underlying16,fun _=>rfl,(by intro h; cases h)⟩
def ti17:TI:=⟨.ptr 198,1,8,[.lit (Value.pointer none)],false⟩
theorem tok17:TOK Try.prog 17 ti17:=⟨⟨Try.t17,Value.pointer none,by kernel_rfl,rfl,rfl,rfl,rfl,fun _ _=>(.cons (.lit _) rfl .nil)⟩,Try.underlying17,fun _=>rfl,(by intro h; cases h)⟩
def ti18:TI:=⟨.struct [(17,0)],1,8,[.lit (Value.pointer none)],false⟩
theorem tok18:TOK Try.prog 18 ti18:=⟨⟨Try.t18,.agg #[Value.pointer none],by kernel_rfl,rfl,rfl,rfl,rfl,fun _ _=>(.cons (.lit _) rfl .nil)⟩,⟨_,Try.underlying18,rfl⟩,(by intro h; cases h),(by intro h; cases h)⟩
def ti19:TI:=⟨.struct [(17,0)],1,8,[.lit (Value.pointer none)],false⟩
theorem tok19:TOK Try.prog 19 ti19:=⟨⟨Try.t19,.agg #[Value.pointer none],by kernel_rfl,rfl,rfl,rfl,rfl,fun _ _=>(.cons (.lit _) rfl .nil)⟩,⟨_,Try.underlying19,rfl⟩,(by intro h; cases h),(by intro h; cases h)⟩
def ti21:TI:=⟨.int .i32,1,4,[.lit (Value.int .i32 0)],false⟩
theorem tok21:TOK Try.prog 21 ti21:=⟨⟨Try.t21,Value.int .i32 0,by kernel_rfl,rfl,rfl,rfl,rfl,fun _ _=>(.cons (.lit _) rfl .nil)⟩,Try.underlying21,fun _=>rfl,(by intro h; cases h)⟩
def ti22:TI:=⟨.slice 42,1,24,[.lit (Value.slice none 0 0)],false⟩
theorem tok22:TOK Try.prog 22 ti22:=⟨⟨Try.t22,Value.slice none 0 0,by kernel_rfl,rfl,rfl,rfl,rfl,fun _ _=>(.cons (.lit _) rfl .nil)⟩,Try.underlying22,fun _=>rfl,(by intro h; cases h)⟩
def ti23:TI:=⟨.slice 32,1,24,[.lit (Value.slice none 0 0)],false⟩
theorem tok23:TOK Try.prog 23 ti23:=⟨⟨Try.t23,Value.slice none 0 0,by kernel_rfl,rfl,rfl,rfl,rfl,fun _ _=>(.cons (.lit _) rfl .nil)⟩,Try.underlying23,fun _=>rfl,(by intro h; cases h)⟩
def ti24:TI:=⟨.struct [(3,0),(3,1),(22,2),(23,3)],4,64,[.lit (Value.int .i64 0),.lit (Value.int .i64 0),.lit (Value.slice none 0 0),.lit (Value.slice none 0 0)],false⟩
theorem tok24:TOK Try.prog 24 ti24:=⟨⟨Try.t24,.agg #[Value.int .i64 0,Value.int .i64 0,Value.slice none 0 0,Value.slice none 0 0],by kernel_rfl,rfl,rfl,rfl,rfl,fun _ _=>(.cons (.lit _) rfl (.cons (.lit _) rfl (.cons (.lit _) rfl (.cons (.lit _) rfl .nil))))⟩,⟨_,Try.underlying24,rfl⟩,(by intro h; cases h),(by intro h; cases h)⟩
def ti25:TI:=⟨.struct [(3,0),(3,1),(22,2),(23,3)],4,64,[.lit (Value.int .i64 0),.lit (Value.int .i64 0),.lit (Value.slice none 0 0),.lit (Value.slice none 0 0)],false⟩
theorem tok25:TOK Try.prog 25 ti25:=⟨⟨Try.t25,.agg #[Value.int .i64 0,Value.int .i64 0,Value.slice none 0 0,Value.slice none 0 0],by kernel_rfl,rfl,rfl,rfl,rfl,fun _ _=>(.cons (.lit _) rfl (.cons (.lit _) rfl (.cons (.lit _) rfl (.cons (.lit _) rfl .nil))))⟩,⟨_,Try.underlying25,rfl⟩,(by intro h; cases h),(by intro h; cases h)⟩
def ti30:TI:=⟨.slice 3,1,24,[.lit (Value.slice none 0 0)],false⟩
theorem tok30:TOK Try.prog 30 ti30:=⟨⟨Try.t30,Value.slice none 0 0,by kernel_rfl,rfl,rfl,rfl,rfl,fun _ _=>(.cons (.lit _) rfl .nil)⟩,Try.underlying30,fun _=>rfl,(by intro h; cases h)⟩
def ti31:TI:=⟨.struct [(3,0),(30,1),(30,2)],3,56,[.lit (Value.int .i64 0),.lit (Value.slice none 0 0),.lit (Value.slice none 0 0)],false⟩
theorem tok31:TOK Try.prog 31 ti31:=⟨⟨Try.t31,.agg #[Value.int .i64 0,Value.slice none 0 0,Value.slice none 0 0],by kernel_rfl,rfl,rfl,rfl,rfl,fun _ _=>(.cons (.lit _) rfl (.cons (.lit _) rfl (.cons (.lit _) rfl .nil)))⟩,⟨_,Try.underlying31,rfl⟩,(by intro h; cases h),(by intro h; cases h)⟩
def ti32:TI:=⟨.struct [(3,0),(30,1),(30,2)],3,56,[.lit (Value.int .i64 0),.lit (Value.slice none 0 0),.lit (Value.slice none 0 0)],false⟩
theorem tok32:TOK Try.prog 32 ti32:=⟨⟨Try.t32,.agg #[Value.int .i64 0,Value.slice none 0 0,Value.slice none 0 0],by kernel_rfl,rfl,rfl,rfl,rfl,fun _ _=>(.cons (.lit _) rfl (.cons (.lit _) rfl (.cons (.lit _) rfl .nil)))⟩,⟨_,Try.underlying32,rfl⟩,(by intro h; cases h),(by intro h; cases h)⟩
def ti33:TI:=⟨.int .i64,1,8,[.lit (Value.int .i64 0)],false⟩
theorem tok33:TOK Try.prog 33 ti33:=⟨⟨Try.t33,Value.int .i64 0,by kernel_rfl,rfl,rfl,rfl,rfl,fun _ _=>(.cons (.lit _) rfl .nil)⟩,Try.underlying33,fun _=>rfl,(by intro h; cases h)⟩
def ti36:TI:=⟨.struct [(3,0),(3,1)],2,16,[.lit (Value.int .i64 0),.lit (Value.int .i64 0)],true⟩
theorem eq36:FlatEq Try.prog 36 2:=flat_ints (by kernel_rfl) (by kernel_rfl) (by kernel_rfl) (by kernel_rfl) (by kernel_rfl)
theorem tok36:TOK Try.prog 36 ti36:=⟨⟨Try.t36,.agg #[Value.int .i64 0,Value.int .i64 0],by kernel_rfl,rfl,rfl,rfl,rfl,fun _ _=>(.cons (.lit _) rfl (.cons (.lit _) rfl .nil))⟩,⟨_,Try.underlying36,rfl⟩,(by intro h; cases h),fun _=>eq36⟩
def ti37:TI:=⟨.struct [(3,0),(3,1)],2,16,[.lit (Value.int .i64 0),.lit (Value.int .i64 0)],true⟩
theorem eq37:FlatEq Try.prog 37 2:=flat_ints (by kernel_rfl) (by kernel_rfl) (by kernel_rfl) (by kernel_rfl) (by kernel_rfl)
theorem tok37:TOK Try.prog 37 ti37:=⟨⟨Try.t37,.agg #[Value.int .i64 0,Value.int .i64 0],by kernel_rfl,rfl,rfl,rfl,rfl,fun _ _=>(.cons (.lit _) rfl (.cons (.lit _) rfl .nil))⟩,⟨_,Try.underlying37,rfl⟩,(by intro h; cases h),fun _=>eq37⟩
def ti40:TI:=⟨.slice 37,1,24,[.lit (Value.slice none 0 0)],false⟩
theorem tok40:TOK Try.prog 40 ti40:=⟨⟨Try.t40,Value.slice none 0 0,by kernel_rfl,rfl,rfl,rfl,rfl,fun _ _=>(.cons (.lit _) rfl .nil)⟩,Try.underlying40,fun _=>rfl,(by intro h; cases h)⟩
def ti41:TI:=⟨.struct [(40,0),(3,1)],2,32,[.lit (Value.slice none 0 0),.lit (Value.int .i64 0)],false⟩
theorem tok41:TOK Try.prog 41 ti41:=⟨⟨Try.t41,.agg #[Value.slice none 0 0,Value.int .i64 0],by kernel_rfl,rfl,rfl,rfl,rfl,fun _ _=>(.cons (.lit _) rfl (.cons (.lit _) rfl .nil))⟩,⟨_,Try.underlying41,rfl⟩,(by intro h; cases h),(by intro h; cases h)⟩
def ti42:TI:=⟨.struct [(40,0),(3,1)],2,32,[.lit (Value.slice none 0 0),.lit (Value.int .i64 0)],false⟩
theorem tok42:TOK Try.prog 42 ti42:=⟨⟨Try.t42,.agg #[Value.slice none 0 0,Value.int .i64 0],by kernel_rfl,rfl,rfl,rfl,rfl,fun _ _=>(.cons (.lit _) rfl (.cons (.lit _) rfl .nil))⟩,⟨_,Try.underlying42,rfl⟩,(by intro h; cases h),(by intro h; cases h)⟩
def ti54:TI:=⟨.slice 30,1,24,[.lit (Value.slice none 0 0)],false⟩
theorem tok54:TOK Try.prog 54 ti54:=⟨⟨Try.t54,Value.slice none 0 0,by kernel_rfl,rfl,rfl,rfl,rfl,fun _ _=>(.cons (.lit _) rfl .nil)⟩,Try.underlying54,fun _=>rfl,(by intro h; cases h)⟩
def ti55:TI:=⟨.struct [(54,0),(30,1)],2,48,[.lit (Value.slice none 0 0),.lit (Value.slice none 0 0)],false⟩
theorem tok55:TOK Try.prog 55 ti55:=⟨⟨Try.t55,.agg #[Value.slice none 0 0,Value.slice none 0 0],by kernel_rfl,rfl,rfl,rfl,rfl,fun _ _=>(.cons (.lit _) rfl (.cons (.lit _) rfl .nil))⟩,⟨_,Try.underlying55,rfl⟩,(by intro h; cases h),(by intro h; cases h)⟩
def ti56:TI:=⟨.struct [(54,0),(30,1)],2,48,[.lit (Value.slice none 0 0),.lit (Value.slice none 0 0)],false⟩
theorem tok56:TOK Try.prog 56 ti56:=⟨⟨Try.t56,.agg #[Value.slice none 0 0,Value.slice none 0 0],by kernel_rfl,rfl,rfl,rfl,rfl,fun _ _=>(.cons (.lit _) rfl (.cons (.lit _) rfl .nil))⟩,⟨_,Try.underlying56,rfl⟩,(by intro h; cases h),(by intro h; cases h)⟩
def ti61:TI:=⟨.struct [(40,0),(40,1),(54,2),(30,3),(37,4),(3,6)],7,120,[.lit (Value.slice none 0 0),.lit (Value.slice none 0 0),.lit (Value.slice none 0 0),.lit (Value.slice none 0 0),.lit (Value.int .i64 0),.lit (Value.int .i64 0),.lit (Value.int .i64 0)],false⟩
theorem tok61:TOK Try.prog 61 ti61:=⟨⟨Try.t61,.agg #[Value.slice none 0 0,Value.slice none 0 0,Value.slice none 0 0,Value.slice none 0 0,Value.int .i64 0,Value.int .i64 0,Value.int .i64 0],by kernel_rfl,rfl,rfl,rfl,rfl,fun _ _=>(.cons (.lit _) rfl (.cons (.lit _) rfl (.cons (.lit _) rfl (.cons (.lit _) rfl (.cons (.lit _) rfl (.cons (.lit _) rfl (.cons (.lit _) rfl .nil)))))))⟩,⟨_,Try.underlying61,rfl⟩,(by intro h; cases h),(by intro h; cases h)⟩
def ti62:TI:=⟨.struct [(40,0),(40,1),(54,2),(30,3),(37,4),(3,6)],7,120,[.lit (Value.slice none 0 0),.lit (Value.slice none 0 0),.lit (Value.slice none 0 0),.lit (Value.slice none 0 0),.lit (Value.int .i64 0),.lit (Value.int .i64 0),.lit (Value.int .i64 0)],false⟩
theorem tok62:TOK Try.prog 62 ti62:=⟨⟨Try.t62,.agg #[Value.slice none 0 0,Value.slice none 0 0,Value.slice none 0 0,Value.slice none 0 0,Value.int .i64 0,Value.int .i64 0,Value.int .i64 0],by kernel_rfl,rfl,rfl,rfl,rfl,fun _ _=>(.cons (.lit _) rfl (.cons (.lit _) rfl (.cons (.lit _) rfl (.cons (.lit _) rfl (.cons (.lit _) rfl (.cons (.lit _) rfl (.cons (.lit _) rfl .nil)))))))⟩,⟨_,Try.underlying62,rfl⟩,(by intro h; cases h),(by intro h; cases h)⟩
def ti67:TI:=⟨.struct [(3,0),(3,1),(3,2),(3,3),(3,4),(3,5),(37,6)],8,64,[.lit (Value.int .i64 0),.lit (Value.int .i64 0),.lit (Value.int .i64 0),.lit (Value.int .i64 0),.lit (Value.int .i64 0),.lit (Value.int .i64 0),.lit (Value.int .i64 0),.lit (Value.int .i64 0)],false⟩
theorem tok67:TOK Try.prog 67 ti67:=⟨⟨Try.t67,.agg #[Value.int .i64 0,Value.int .i64 0,Value.int .i64 0,Value.int .i64 0,Value.int .i64 0,Value.int .i64 0,Value.int .i64 0,Value.int .i64 0],by kernel_rfl,rfl,rfl,rfl,rfl,fun _ _=>(.cons (.lit _) rfl (.cons (.lit _) rfl (.cons (.lit _) rfl (.cons (.lit _) rfl (.cons (.lit _) rfl (.cons (.lit _) rfl (.cons (.lit _) rfl (.cons (.lit _) rfl .nil))))))))⟩,⟨_,Try.underlying67,rfl⟩,(by intro h; cases h),(by intro h; cases h)⟩
def ti68:TI:=⟨.struct [(3,0),(3,1),(3,2),(3,3),(3,4),(3,5),(37,6)],8,64,[.lit (Value.int .i64 0),.lit (Value.int .i64 0),.lit (Value.int .i64 0),.lit (Value.int .i64 0),.lit (Value.int .i64 0),.lit (Value.int .i64 0),.lit (Value.int .i64 0),.lit (Value.int .i64 0)],false⟩
theorem tok68:TOK Try.prog 68 ti68:=⟨⟨Try.t68,.agg #[Value.int .i64 0,Value.int .i64 0,Value.int .i64 0,Value.int .i64 0,Value.int .i64 0,Value.int .i64 0,Value.int .i64 0,Value.int .i64 0],by kernel_rfl,rfl,rfl,rfl,rfl,fun _ _=>(.cons (.lit _) rfl (.cons (.lit _) rfl (.cons (.lit _) rfl (.cons (.lit _) rfl (.cons (.lit _) rfl (.cons (.lit _) rfl (.cons (.lit _) rfl (.cons (.lit _) rfl .nil))))))))⟩,⟨_,Try.underlying68,rfl⟩,(by intro h; cases h),(by intro h; cases h)⟩
def ti77:TI:=⟨.slice 88,1,24,[.lit (Value.slice none 0 0)],false⟩
theorem tok77:TOK Try.prog 77 ti77:=⟨⟨Try.t77,Value.slice none 0 0,by kernel_rfl,rfl,rfl,rfl,rfl,fun _ _=>(.cons (.lit _) rfl .nil)⟩,Try.underlying77,fun _=>rfl,(by intro h; cases h)⟩
def ti78:TI:=⟨.slice 126,1,24,[.lit (Value.slice none 0 0)],false⟩
theorem tok78:TOK Try.prog 78 ti78:=⟨⟨Try.t78,Value.slice none 0 0,by kernel_rfl,rfl,rfl,rfl,rfl,fun _ _=>(.cons (.lit _) rfl .nil)⟩,Try.underlying78,fun _=>rfl,(by intro h; cases h)⟩
def ti79:TI:=⟨.struct [(77,0),(78,1)],2,48,[.lit (Value.slice none 0 0),.lit (Value.slice none 0 0)],false⟩
theorem tok79:TOK Try.prog 79 ti79:=⟨⟨Try.t79,.agg #[Value.slice none 0 0,Value.slice none 0 0],by kernel_rfl,rfl,rfl,rfl,rfl,fun _ _=>(.cons (.lit _) rfl (.cons (.lit _) rfl .nil))⟩,⟨_,Try.underlying79,rfl⟩,(by intro h; cases h),(by intro h; cases h)⟩
def ti80:TI:=⟨.struct [(77,0),(78,1)],2,48,[.lit (Value.slice none 0 0),.lit (Value.slice none 0 0)],false⟩
theorem tok80:TOK Try.prog 80 ti80:=⟨⟨Try.t80,.agg #[Value.slice none 0 0,Value.slice none 0 0],by kernel_rfl,rfl,rfl,rfl,rfl,fun _ _=>(.cons (.lit _) rfl (.cons (.lit _) rfl .nil))⟩,⟨_,Try.underlying80,rfl⟩,(by intro h; cases h),(by intro h; cases h)⟩
def ti81:TI:=⟨.struct [(3,0),(3,1)],2,16,[.lit (Value.int .i64 0),.lit (Value.int .i64 0)],true⟩
theorem eq81:FlatEq Try.prog 81 2:=flat_ints (by kernel_rfl) (by kernel_rfl) (by kernel_rfl) (by kernel_rfl) (by kernel_rfl)
theorem tok81:TOK Try.prog 81 ti81:=⟨⟨Try.t81,.agg #[Value.int .i64 0,Value.int .i64 0],by kernel_rfl,rfl,rfl,rfl,rfl,fun _ _=>(.cons (.lit _) rfl (.cons (.lit _) rfl .nil))⟩,⟨_,Try.underlying81,rfl⟩,(by intro h; cases h),fun _=>eq81⟩
def ti82:TI:=⟨.struct [(3,0),(3,1)],2,16,[.lit (Value.int .i64 0),.lit (Value.int .i64 0)],true⟩
theorem eq82:FlatEq Try.prog 82 2:=flat_ints (by kernel_rfl) (by kernel_rfl) (by kernel_rfl) (by kernel_rfl) (by kernel_rfl)
theorem tok82:TOK Try.prog 82 ti82:=⟨⟨Try.t82,.agg #[Value.int .i64 0,Value.int .i64 0],by kernel_rfl,rfl,rfl,rfl,rfl,fun _ _=>(.cons (.lit _) rfl (.cons (.lit _) rfl .nil))⟩,⟨_,Try.underlying82,rfl⟩,(by intro h; cases h),fun _=>eq82⟩
def ti85:TI:=⟨.func,1,8,[.lit (Value.nilFunc)],false⟩
theorem tok85:TOK Try.prog 85 ti85:=⟨⟨Try.t85,Value.nilFunc,by kernel_rfl,rfl,rfl,rfl,rfl,fun _ _=>(.cons (.lit _) rfl .nil)⟩,⟨_,_,_,Try.underlying85⟩,fun _=>rfl,(by intro h; cases h)⟩
def ti87:TI:=⟨.struct [(3,0),(3,1),(3,2),(3,3)],4,32,[.lit (Value.int .i64 0),.lit (Value.int .i64 0),.lit (Value.int .i64 0),.lit (Value.int .i64 0)],true⟩
theorem eq87:FlatEq Try.prog 87 4:=flat_ints (by kernel_rfl) (by kernel_rfl) (by kernel_rfl) (by kernel_rfl) (by kernel_rfl)
theorem tok87:TOK Try.prog 87 ti87:=⟨⟨Try.t87,.agg #[Value.int .i64 0,Value.int .i64 0,Value.int .i64 0,Value.int .i64 0],by kernel_rfl,rfl,rfl,rfl,rfl,fun _ _=>(.cons (.lit _) rfl (.cons (.lit _) rfl (.cons (.lit _) rfl (.cons (.lit _) rfl .nil))))⟩,⟨_,Try.underlying87,rfl⟩,(by intro h; cases h),fun _=>eq87⟩
def ti88:TI:=⟨.struct [(3,0),(3,1),(3,2),(3,3)],4,32,[.lit (Value.int .i64 0),.lit (Value.int .i64 0),.lit (Value.int .i64 0),.lit (Value.int .i64 0)],true⟩
theorem eq88:FlatEq Try.prog 88 4:=flat_ints (by kernel_rfl) (by kernel_rfl) (by kernel_rfl) (by kernel_rfl) (by kernel_rfl)
theorem tok88:TOK Try.prog 88 ti88:=⟨⟨Try.t88,.agg #[Value.int .i64 0,Value.int .i64 0,Value.int .i64 0,Value.int .i64 0],by kernel_rfl,rfl,rfl,rfl,rfl,fun _ _=>(.cons (.lit _) rfl (.cons (.lit _) rfl (.cons (.lit _) rfl (.cons (.lit _) rfl .nil))))⟩,⟨_,Try.underlying88,rfl⟩,(by intro h; cases h),fun _=>eq88⟩
def ti100:TI:=⟨.slice 107,1,24,[.lit (Value.slice none 0 0)],false⟩
theorem tok100:TOK Try.prog 100 ti100:=⟨⟨Try.t100,Value.slice none 0 0,by kernel_rfl,rfl,rfl,rfl,rfl,fun _ _=>(.cons (.lit _) rfl .nil)⟩,Try.underlying100,fun _=>rfl,(by intro h; cases h)⟩
def ti103:TI:=⟨.array 3 37,6,48,[.arr 2 3 (fun _=>[.lit (Value.int .i64 0),.lit (Value.int .i64 0)])],false⟩
theorem tok103:TOK Try.prog 103 ti103:=⟨⟨Try.t103,.agg #[Value.int .i64 0,Value.int .i64 0,Value.int .i64 0,Value.int .i64 0,Value.int .i64 0,Value.int .i64 0],by kernel_rfl,rfl,rfl,rfl,rfl,fun _ _=>(.arr (fun _=>[Value.int .i64 0,Value.int .i64 0]) (fun _ _=>rfl) (fun _ _=>(.cons (.lit _) rfl (.cons (.lit _) rfl .nil))) .nil)⟩,Try.underlying103,(by intro h; cases h),(by intro h; cases h)⟩
def ti104:TI:=⟨.array 3 103,18,144,[.arr 6 3 (fun _=>[.arr 2 3 (fun _=>[.lit (Value.int .i64 0),.lit (Value.int .i64 0)])])],false⟩
theorem tok104:TOK Try.prog 104 ti104:=⟨⟨Try.t104,.agg #[Value.int .i64 0,Value.int .i64 0,Value.int .i64 0,Value.int .i64 0,Value.int .i64 0,Value.int .i64 0,Value.int .i64 0,Value.int .i64 0,Value.int .i64 0,Value.int .i64 0,Value.int .i64 0,Value.int .i64 0,Value.int .i64 0,Value.int .i64 0,Value.int .i64 0,Value.int .i64 0,Value.int .i64 0,Value.int .i64 0],by kernel_rfl,rfl,rfl,rfl,rfl,fun _ _=>(.arr (fun _=>[Value.int .i64 0,Value.int .i64 0,Value.int .i64 0,Value.int .i64 0,Value.int .i64 0,Value.int .i64 0]) (fun _ _=>rfl) (fun _ _=>(.arr (fun _=>[Value.int .i64 0,Value.int .i64 0]) (fun _ _=>rfl) (fun _ _=>(.cons (.lit _) rfl (.cons (.lit _) rfl .nil))) .nil)) .nil)⟩,Try.underlying104,(by intro h; cases h),(by intro h; cases h)⟩
def ti105:TI:=⟨.array 3 103,18,144,[.arr 6 3 (fun _=>[.arr 2 3 (fun _=>[.lit (Value.int .i64 0),.lit (Value.int .i64 0)])])],false⟩
theorem tok105:TOK Try.prog 105 ti105:=⟨⟨Try.t105,.agg #[Value.int .i64 0,Value.int .i64 0,Value.int .i64 0,Value.int .i64 0,Value.int .i64 0,Value.int .i64 0,Value.int .i64 0,Value.int .i64 0,Value.int .i64 0,Value.int .i64 0,Value.int .i64 0,Value.int .i64 0,Value.int .i64 0,Value.int .i64 0,Value.int .i64 0,Value.int .i64 0,Value.int .i64 0,Value.int .i64 0],by kernel_rfl,rfl,rfl,rfl,rfl,fun _ _=>(.arr (fun _=>[Value.int .i64 0,Value.int .i64 0,Value.int .i64 0,Value.int .i64 0,Value.int .i64 0,Value.int .i64 0]) (fun _ _=>rfl) (fun _ _=>(.arr (fun _=>[Value.int .i64 0,Value.int .i64 0]) (fun _ _=>rfl) (fun _ _=>(.cons (.lit _) rfl (.cons (.lit _) rfl .nil))) .nil)) .nil)⟩,Try.underlying105,(by intro h; cases h),(by intro h; cases h)⟩
def ti106:TI:=⟨.struct [(30,0),(105,1)],19,168,[.lit (Value.slice none 0 0),.arr 6 3 (fun _=>[.arr 2 3 (fun _=>[.lit (Value.int .i64 0),.lit (Value.int .i64 0)])])],false⟩
theorem tok106:TOK Try.prog 106 ti106:=⟨⟨Try.t106,.agg #[Value.slice none 0 0,Value.int .i64 0,Value.int .i64 0,Value.int .i64 0,Value.int .i64 0,Value.int .i64 0,Value.int .i64 0,Value.int .i64 0,Value.int .i64 0,Value.int .i64 0,Value.int .i64 0,Value.int .i64 0,Value.int .i64 0,Value.int .i64 0,Value.int .i64 0,Value.int .i64 0,Value.int .i64 0,Value.int .i64 0,Value.int .i64 0],by kernel_rfl,rfl,rfl,rfl,rfl,fun _ _=>(.cons (.lit _) rfl (.arr (fun _=>[Value.int .i64 0,Value.int .i64 0,Value.int .i64 0,Value.int .i64 0,Value.int .i64 0,Value.int .i64 0]) (fun _ _=>rfl) (fun _ _=>(.arr (fun _=>[Value.int .i64 0,Value.int .i64 0]) (fun _ _=>rfl) (fun _ _=>(.cons (.lit _) rfl (.cons (.lit _) rfl .nil))) .nil)) .nil))⟩,⟨_,Try.underlying106,rfl⟩,(by intro h; cases h),(by intro h; cases h)⟩
def ti107:TI:=⟨.struct [(30,0),(105,1)],19,168,[.lit (Value.slice none 0 0),.arr 6 3 (fun _=>[.arr 2 3 (fun _=>[.lit (Value.int .i64 0),.lit (Value.int .i64 0)])])],false⟩
theorem tok107:TOK Try.prog 107 ti107:=⟨⟨Try.t107,.agg #[Value.slice none 0 0,Value.int .i64 0,Value.int .i64 0,Value.int .i64 0,Value.int .i64 0,Value.int .i64 0,Value.int .i64 0,Value.int .i64 0,Value.int .i64 0,Value.int .i64 0,Value.int .i64 0,Value.int .i64 0,Value.int .i64 0,Value.int .i64 0,Value.int .i64 0,Value.int .i64 0,Value.int .i64 0,Value.int .i64 0,Value.int .i64 0],by kernel_rfl,rfl,rfl,rfl,rfl,fun _ _=>(.cons (.lit _) rfl (.arr (fun _=>[Value.int .i64 0,Value.int .i64 0,Value.int .i64 0,Value.int .i64 0,Value.int .i64 0,Value.int .i64 0]) (fun _ _=>rfl) (fun _ _=>(.arr (fun _=>[Value.int .i64 0,Value.int .i64 0]) (fun _ _=>rfl) (fun _ _=>(.cons (.lit _) rfl (.cons (.lit _) rfl .nil))) .nil)) .nil))⟩,⟨_,Try.underlying107,rfl⟩,(by intro h; cases h),(by intro h; cases h)⟩
def ti108:TI:=⟨.mp 3 3,1,8,[.lit (Value.map none)],false⟩
theorem tok108:TOK Try.prog 108 ti108:=⟨⟨Try.t108,Value.map none,by kernel_rfl,rfl,rfl,rfl,rfl,fun _ _=>(.cons (.lit _) rfl .nil)⟩,⟨Try.underlying108,Try.underlying3,Try.underlying3,fun _=>by kernel_rfl⟩,fun _=>rfl,(by intro h; cases h)⟩
def ti125:TI:=⟨.struct [(3,0),(3,1),(3,2)],3,24,[.lit (Value.int .i64 0),.lit (Value.int .i64 0),.lit (Value.int .i64 0)],true⟩
theorem eq125:FlatEq Try.prog 125 3:=flat_ints (by kernel_rfl) (by kernel_rfl) (by kernel_rfl) (by kernel_rfl) (by kernel_rfl)
theorem tok125:TOK Try.prog 125 ti125:=⟨⟨Try.t125,.agg #[Value.int .i64 0,Value.int .i64 0,Value.int .i64 0],by kernel_rfl,rfl,rfl,rfl,rfl,fun _ _=>(.cons (.lit _) rfl (.cons (.lit _) rfl (.cons (.lit _) rfl .nil)))⟩,⟨_,Try.underlying125,rfl⟩,(by intro h; cases h),fun _=>eq125⟩
def ti126:TI:=⟨.struct [(3,0),(3,1),(3,2)],3,24,[.lit (Value.int .i64 0),.lit (Value.int .i64 0),.lit (Value.int .i64 0)],true⟩
theorem eq126:FlatEq Try.prog 126 3:=flat_ints (by kernel_rfl) (by kernel_rfl) (by kernel_rfl) (by kernel_rfl) (by kernel_rfl)
theorem tok126:TOK Try.prog 126 ti126:=⟨⟨Try.t126,.agg #[Value.int .i64 0,Value.int .i64 0,Value.int .i64 0],by kernel_rfl,rfl,rfl,rfl,rfl,fun _ _=>(.cons (.lit _) rfl (.cons (.lit _) rfl (.cons (.lit _) rfl .nil)))⟩,⟨_,Try.underlying126,rfl⟩,(by intro h; cases h),fun _=>eq126⟩
def ti132:TI:=⟨.array 8 3,8,64,[.arr 1 8 (fun _=>[.lit (Value.int .i64 0)])],false⟩
theorem tok132:TOK Try.prog 132 ti132:=⟨⟨Try.t132,.agg #[Value.int .i64 0,Value.int .i64 0,Value.int .i64 0,Value.int .i64 0,Value.int .i64 0,Value.int .i64 0,Value.int .i64 0,Value.int .i64 0],by kernel_rfl,rfl,rfl,rfl,rfl,fun _ _=>(.arr (fun _=>[Value.int .i64 0]) (fun _ _=>rfl) (fun _ _=>(.cons (.lit _) rfl .nil)) .nil)⟩,Try.underlying132,(by intro h; cases h),(by intro h; cases h)⟩
def ti133:TI:=⟨.struct [(80,0),(3,2),(132,3),(132,11)],19,184,[.lit (Value.slice none 0 0),.lit (Value.slice none 0 0),.lit (Value.int .i64 0),.arr 1 8 (fun _=>[.lit (Value.int .i64 0)]),.arr 1 8 (fun _=>[.lit (Value.int .i64 0)])],false⟩
theorem tok133:TOK Try.prog 133 ti133:=⟨⟨Try.t133,.agg #[Value.slice none 0 0,Value.slice none 0 0,Value.int .i64 0,Value.int .i64 0,Value.int .i64 0,Value.int .i64 0,Value.int .i64 0,Value.int .i64 0,Value.int .i64 0,Value.int .i64 0,Value.int .i64 0,Value.int .i64 0,Value.int .i64 0,Value.int .i64 0,Value.int .i64 0,Value.int .i64 0,Value.int .i64 0,Value.int .i64 0,Value.int .i64 0],by kernel_rfl,rfl,rfl,rfl,rfl,fun _ _=>(.cons (.lit _) rfl (.cons (.lit _) rfl (.cons (.lit _) rfl (.arr (fun _=>[Value.int .i64 0]) (fun _ _=>rfl) (fun _ _=>(.cons (.lit _) rfl .nil)) (.arr (fun _=>[Value.int .i64 0]) (fun _ _=>rfl) (fun _ _=>(.cons (.lit _) rfl .nil)) .nil)))))⟩,⟨_,Try.underlying133,rfl⟩,(by intro h; cases h),(by intro h; cases h)⟩
def ti134:TI:=⟨.struct [(80,0),(3,2),(132,3),(132,11)],19,184,[.lit (Value.slice none 0 0),.lit (Value.slice none 0 0),.lit (Value.int .i64 0),.arr 1 8 (fun _=>[.lit (Value.int .i64 0)]),.arr 1 8 (fun _=>[.lit (Value.int .i64 0)])],false⟩
theorem tok134:TOK Try.prog 134 ti134:=⟨⟨Try.t134,.agg #[Value.slice none 0 0,Value.slice none 0 0,Value.int .i64 0,Value.int .i64 0,Value.int .i64 0,Value.int .i64 0,Value.int .i64 0,Value.int .i64 0,Value.int .i64 0,Value.int .i64 0,Value.int .i64 0,Value.int .i64 0,Value.int .i64 0,Value.int .i64 0,Value.int .i64 0,Value.int .i64 0,Value.int .i64 0,Value.int .i64 0,Value.int .i64 0],by kernel_rfl,rfl,rfl,rfl,rfl,fun _ _=>(.cons (.lit _) rfl (.cons (.lit _) rfl (.cons (.lit _) rfl (.arr (fun _=>[Value.int .i64 0]) (fun _ _=>rfl) (fun _ _=>(.cons (.lit _) rfl .nil)) (.arr (fun _=>[Value.int .i64 0]) (fun _ _=>rfl) (fun _ _=>(.cons (.lit _) rfl .nil)) .nil)))))⟩,⟨_,Try.underlying134,rfl⟩,(by intro h; cases h),(by intro h; cases h)⟩
def ti135:TI:=⟨.ptr 134,1,8,[.lit (Value.pointer none)],false⟩
theorem tok135:TOK Try.prog 135 ti135:=⟨⟨Try.t135,Value.pointer none,by kernel_rfl,rfl,rfl,rfl,rfl,fun _ _=>(.cons (.lit _) rfl .nil)⟩,Try.underlying135,fun _=>rfl,(by intro h; cases h)⟩
def ti157:TI:=⟨.int .u64,1,8,[.lit (Value.int .u64 0)],false⟩
theorem tok157:TOK Try.prog 157 ti157:=⟨⟨Try.t157,Value.int .u64 0,by kernel_rfl,rfl,rfl,rfl,rfl,fun _ _=>(.cons (.lit _) rfl .nil)⟩,Try.underlying157,fun _=>rfl,(by intro h; cases h)⟩
def ti162:TI:=⟨.ptr 105,1,8,[.lit (Value.pointer none)],false⟩
theorem tok162:TOK Try.prog 162 ti162:=⟨⟨Try.t162,Value.pointer none,by kernel_rfl,rfl,rfl,rfl,rfl,fun _ _=>(.cons (.lit _) rfl .nil)⟩,Try.underlying162,fun _=>rfl,(by intro h; cases h)⟩
def ti163:TI:=⟨.ptr 37,1,8,[.lit (Value.pointer none)],false⟩
theorem tok163:TOK Try.prog 163 ti163:=⟨⟨Try.t163,Value.pointer none,by kernel_rfl,rfl,rfl,rfl,rfl,fun _ _=>(.cons (.lit _) rfl .nil)⟩,Try.underlying163,fun _=>rfl,(by intro h; cases h)⟩
def ti165:TI:=⟨.int .i64,1,8,[.lit (Value.int .i64 0)],false⟩
theorem tok165:TOK Try.prog 165 ti165:=⟨⟨Try.t165,Value.int .i64 0,by kernel_rfl,rfl,rfl,rfl,rfl,fun _ _=>(.cons (.lit _) rfl .nil)⟩,Try.underlying165,fun _=>rfl,(by intro h; cases h)⟩
def ti171:TI:=⟨.int .u32,1,4,[.lit (Value.int .u32 0)],false⟩
theorem tok171:TOK Try.prog 171 ti171:=⟨⟨Try.t171,Value.int .u32 0,by kernel_rfl,rfl,rfl,rfl,rfl,fun _ _=>(.cons (.lit _) rfl .nil)⟩,Try.underlying171,fun _=>rfl,(by intro h; cases h)⟩
def ti173:TI:=⟨.int .u64,1,8,[.lit (Value.int .u64 0)],false⟩
theorem tok173:TOK Try.prog 173 ti173:=⟨⟨Try.t173,Value.int .u64 0,by kernel_rfl,rfl,rfl,rfl,rfl,fun _ _=>(.cons (.lit _) rfl .nil)⟩,Try.underlying173,fun _=>rfl,(by intro h; cases h)⟩
def ti175:TI:=⟨.int .u64,1,8,[.lit (Value.int .u64 0)],false⟩
theorem tok175:TOK Try.prog 175 ti175:=⟨⟨Try.t175,Value.int .u64 0,by kernel_rfl,rfl,rfl,rfl,rfl,fun _ _=>(.cons (.lit _) rfl .nil)⟩,Try.underlying175,fun _=>rfl,(by intro h; cases h)⟩
def ti179:TI:=⟨.ptr 3,1,8,[.lit (Value.pointer none)],false⟩
theorem tok179:TOK Try.prog 179 ti179:=⟨⟨Try.t179,Value.pointer none,by kernel_rfl,rfl,rfl,rfl,rfl,fun _ _=>(.cons (.lit _) rfl .nil)⟩,Try.underlying179,fun _=>rfl,(by intro h; cases h)⟩
def ti181:TI:=⟨.ptr 175,1,8,[.lit (Value.pointer none)],false⟩
theorem tok181:TOK Try.prog 181 ti181:=⟨⟨Try.t181,Value.pointer none,by kernel_rfl,rfl,rfl,rfl,rfl,fun _ _=>(.cons (.lit _) rfl .nil)⟩,Try.underlying181,fun _=>rfl,(by intro h; cases h)⟩
def ti187:TI:=⟨.array 0 16,0,0,[.arr 1 0 (fun _=>[.lit (Value.pointer none)])],false⟩
theorem tok187:TOK Try.prog 187 ti187:=⟨⟨Try.t187,.agg #[],by kernel_rfl,rfl,rfl,rfl,rfl,fun _ _=>(.arr (fun _=>[Value.pointer none]) (fun _ _=>rfl) (fun _ _=>(.cons (.lit _) rfl .nil)) .nil)⟩,Try.underlying187,(by intro h; cases h),(by intro h; cases h)⟩
def ti188:TI:=⟨.struct [(187,0)],0,0,[.arr 1 0 (fun _=>[.lit (Value.pointer none)])],false⟩
theorem tok188:TOK Try.prog 188 ti188:=⟨⟨Try.t188,.agg #[],by kernel_rfl,rfl,rfl,rfl,rfl,fun _ _=>(.arr (fun _=>[Value.pointer none]) (fun _ _=>rfl) (fun _ _=>(.cons (.lit _) rfl .nil)) .nil)⟩,⟨_,Try.underlying188,rfl⟩,(by intro h; cases h),(by intro h; cases h)⟩
def ti189:TI:=⟨.struct [(187,0)],0,0,[.arr 1 0 (fun _=>[.lit (Value.pointer none)])],false⟩
theorem tok189:TOK Try.prog 189 ti189:=⟨⟨Try.t189,.agg #[],by kernel_rfl,rfl,rfl,rfl,rfl,fun _ _=>(.arr (fun _=>[Value.pointer none]) (fun _ _=>rfl) (fun _ _=>(.cons (.lit _) rfl .nil)) .nil)⟩,⟨_,Try.underlying189,rfl⟩,(by intro h; cases h),(by intro h; cases h)⟩
def ti191:TI:=⟨.int .u8,1,1,[.lit (Value.int .u8 0)],false⟩
theorem tok191:TOK Try.prog 191 ti191:=⟨⟨Try.t191,Value.int .u8 0,by kernel_rfl,rfl,rfl,rfl,rfl,fun _ _=>(.cons (.lit _) rfl .nil)⟩,Try.underlying191,fun _=>rfl,(by intro h; cases h)⟩
def ti192:TI:=⟨.int .u8,1,1,[.lit (Value.int .u8 0)],false⟩
theorem tok192:TOK Try.prog 192 ti192:=⟨⟨Try.t192,Value.int .u8 0,by kernel_rfl,rfl,rfl,rfl,rfl,fun _ _=>(.cons (.lit _) rfl .nil)⟩,Try.underlying192,fun _=>rfl,(by intro h; cases h)⟩
def ti194:TI:=⟨.ptr 5,1,8,[.lit (Value.pointer none)],false⟩
theorem tok194:TOK Try.prog 194 ti194:=⟨⟨Try.t194,Value.pointer none,by kernel_rfl,rfl,rfl,rfl,rfl,fun _ _=>(.cons (.lit _) rfl .nil)⟩,Try.underlying194,fun _=>rfl,(by intro h; cases h)⟩
def ti195:TI:=⟨.int .i32,1,4,[.lit (Value.int .i32 0)],false⟩
theorem tok195:TOK Try.prog 195 ti195:=⟨⟨Try.t195,Value.int .i32 0,by kernel_rfl,rfl,rfl,rfl,rfl,fun _ _=>(.cons (.lit _) rfl .nil)⟩,Try.underlying195,fun _=>rfl,(by intro h; cases h)⟩
def ti196:TI:=⟨.int .i32,1,4,[.lit (Value.int .i32 0)],false⟩
theorem tok196:TOK Try.prog 196 ti196:=⟨⟨Try.t196,Value.int .i32 0,by kernel_rfl,rfl,rfl,rfl,rfl,fun _ _=>(.cons (.lit _) rfl .nil)⟩,Try.underlying196,fun _=>rfl,(by intro h; cases h)⟩
def T0 (t:TypeId):Option TI :=
 match t with
 | 2=>some ti2
 | 3=>some ti3
 | 4=>some ti4
 | 5=>some ti5
 | 6=>some ti6
 | 7=>some ti7
 | 8=>some ti8
 | 12=>some ti12
 | 15=>some ti15
 | 16=>some ti16
 | 17=>some ti17
 | 18=>some ti18
 | 19=>some ti19
 | 21=>some ti21
 | 22=>some ti22
 | 23=>some ti23
 | 24=>some ti24
 | 25=>some ti25
 | 30=>some ti30
 | 31=>some ti31
 | 32=>some ti32
 | 33=>some ti33
 | 36=>some ti36
 | 37=>some ti37
 | 40=>some ti40
 | 41=>some ti41
 | 42=>some ti42
 | 54=>some ti54
 | 55=>some ti55
 | 56=>some ti56
 | 61=>some ti61
 | 62=>some ti62
 | 67=>some ti67
 | 68=>some ti68
 | 77=>some ti77
 | 78=>some ti78
 | 79=>some ti79
 | 80=>some ti80
 | 81=>some ti81
 | 82=>some ti82
 | 85=>some ti85
 | 87=>some ti87
 | 88=>some ti88
 | 100=>some ti100
 | 103=>some ti103
 | 104=>some ti104
 | 105=>some ti105
 | 106=>some ti106
 | 107=>some ti107
 | 108=>some ti108
 | 125=>some ti125
 | 126=>some ti126
 | 132=>some ti132
 | 133=>some ti133
 | 134=>some ti134
 | 135=>some ti135
 | 157=>some ti157
 | 162=>some ti162
 | 163=>some ti163
 | 165=>some ti165
 | 171=>some ti171
 | 173=>some ti173
 | 175=>some ti175
 | 179=>some ti179
 | 181=>some ti181
 | 187=>some ti187
 | 188=>some ti188
 | 189=>some ti189
 | 191=>some ti191
 | 192=>some ti192
 | 194=>some ti194
 | 195=>some ti195
 | 196=>some ti196
 | _=>none
theorem T0_ok:Tab.ok Try.prog T0:=by
 intro t ti h
 unfold T0 at h
 split at h
 ·cases h; exact tok2
 ·cases h; exact tok3
 ·cases h; exact tok4
 ·cases h; exact tok5
 ·cases h; exact tok6
 ·cases h; exact tok7
 ·cases h; exact tok8
 ·cases h; exact tok12
 ·cases h; exact tok15
 ·cases h; exact tok16
 ·cases h; exact tok17
 ·cases h; exact tok18
 ·cases h; exact tok19
 ·cases h; exact tok21
 ·cases h; exact tok22
 ·cases h; exact tok23
 ·cases h; exact tok24
 ·cases h; exact tok25
 ·cases h; exact tok30
 ·cases h; exact tok31
 ·cases h; exact tok32
 ·cases h; exact tok33
 ·cases h; exact tok36
 ·cases h; exact tok37
 ·cases h; exact tok40
 ·cases h; exact tok41
 ·cases h; exact tok42
 ·cases h; exact tok54
 ·cases h; exact tok55
 ·cases h; exact tok56
 ·cases h; exact tok61
 ·cases h; exact tok62
 ·cases h; exact tok67
 ·cases h; exact tok68
 ·cases h; exact tok77
 ·cases h; exact tok78
 ·cases h; exact tok79
 ·cases h; exact tok80
 ·cases h; exact tok81
 ·cases h; exact tok82
 ·cases h; exact tok85
 ·cases h; exact tok87
 ·cases h; exact tok88
 ·cases h; exact tok100
 ·cases h; exact tok103
 ·cases h; exact tok104
 ·cases h; exact tok105
 ·cases h; exact tok106
 ·cases h; exact tok107
 ·cases h; exact tok108
 ·cases h; exact tok125
 ·cases h; exact tok126
 ·cases h; exact tok132
 ·cases h; exact tok133
 ·cases h; exact tok134
 ·cases h; exact tok135
 ·cases h; exact tok157
 ·cases h; exact tok162
 ·cases h; exact tok163
 ·cases h; exact tok165
 ·cases h; exact tok171
 ·cases h; exact tok173
 ·cases h; exact tok175
 ·cases h; exact tok179
 ·cases h; exact tok181
 ·cases h; exact tok187
 ·cases h; exact tok188
 ·cases h; exact tok189
 ·cases h; exact tok191
 ·cases h; exact tok192
 ·cases h; exact tok194
 ·cases h; exact tok195
 ·cases h; exact tok196
 ·cases h
theorem mixed:Try.prog.follows .mixedOrders=true:=by kernel_rfl
end Go.Ab
namespace Go.Ab
open Go Go.RowKit Go.Proofs
abbrev T3:Prop:=true=true/\true=true/\true=true
abbrev T2:Prop:=true=true/\true=true
theorem tv:True:=trivial
theorem v0 (a c:Bool):(bif a then true else c)=(a || c):=Bool.cond_true_left a c
theorem v1 (a c:Bool):(bif a then c else false)=(a && c):=Bool.cond_false_right a c
theorem v2 (b:Bool):(!!b)=b:=Bool.not_not b
theorem v3 {b:Bool}:((!b)=true)=(b=false):=Bool.not_eq_true' b
theorem v4 {b:Bool}:((!b)=false)=(b=true):=Bool.not_eq_false' b
theorem v5 (a b:Bool):((a || b)=true)=(a=true ∨ b=true):=Bool.or_eq_true a b
theorem v6 {a b:Bool}:((a || b)=false) ↔ (a=false/\b=false):=Bool.or_eq_false_iff
theorem v7 (a b:Bool):((a && b)=true)=(a=true/\b=true):=Bool.and_eq_true a b
theorem v8 {p:Prop} [Decidable p]:(decide p=true)=p:=decide_eq_true_eq
theorem v9 {p:Prop} [Decidable p]:(decide p=false) ↔ ¬ p:=decide_eq_false_iff_not
theorem vz {p:Nat->Prop} {n:Nat}:0<=n /\ ∀ j,j < 0->p j:=⟨Nat.zero_le _,fun j hj=>absurd hj (Nat.not_lt_zero j)⟩
end Go.Ab
namespace Go.Ab
open Go Go.RowKit Go.Proofs
abbrev zT {α:Sort _} (a:α):Prop:=a=a/\true=true
abbrev zN (a b:AV):Prop:=a=b/\nilN = []
abbrev zM (a:AV):Prop:=a=a/\nilN = []
abbrev zP (a:Nat):Prop:=some (Src.same a)=some (Src.same a)/\nilP = []
abbrev zE {α:Sort _} (a:α):Prop:=a=a
def tn:Nat->Prop
 | 0=>True
 | n + 1=>True/\tn n
theorem tp:∀ n,tn n
 | 0=>trivial
 | n + 1=>⟨trivial,tp n⟩
theorem sQ {w0:World} {E0:Env} {av:Nat->Prop} {hA:∀ b,w0.heap.size<=b->av b} {nt:Nat} {K:AX->ASt->Prop} {st:ASt} {id:Nat} {l:List Oper} {draw:Bool} {kt kh:List Nat} {q:Prop} {st':ASt}
  (hq:q) (hk:K .normal st') (h:regRun Try.prog E0 T0 nt l draw [] kt kh st=some (q,st'):=by kernel_rfl):SWP ⟨Try.prog,w0,E0,av,hA⟩ nt (.region id l.toArray draw) K st:=swp_region T0_ok mixed (cs:=[]) h hq hk
theorem sC {w0:World} {E0:Env} {av:Nat->Prop} {hA:∀ b,w0.heap.size<=b->av b} {nt:Nat} {K:AX->ASt->Prop} {st:ASt} {id:Nat} {l:List Oper} {draw:Bool} {cs:List (Nat × CallSpec)} {kt kh:List Nat} {q:Prop} {st':ASt}
  (hq:q) (hk:K .normal st') (h:regRun Try.prog E0 T0 nt l draw cs kt kh st=some (q,st'):=by kernel_rfl):SWP ⟨Try.prog,w0,E0,av,hA⟩ nt (.region id l.toArray draw) K st:=swp_region T0_ok mixed (cs:=cs) h hq hk
theorem eQ {C:Ctx} {nt:Nat} {st st2:ASt} (hE0:∀ j,C.E0.blk j=none/\C.E0.hdr j=none) (bs:List Nat) (mp:List (Nat × Src)) (kt kh:List Nat) (q:Prop) (hq:q) (hb:entB 0 st2 bs mp=true:=by kernel_rfl) (he:entK st st2 bs mp kt kh=q:=by kernel_rfl):Ent C nt st st2:=ent_q hE0 bs mp kt kh q hb he hq
theorem rQ {st:ASt} {T:Tab} {rs:List ResultVar} {res:AV} (bs:List Nat) (q:Prop) (hq:q) (he:retQ T rs st res bs=q:=by kernel_rfl):RetK T rs res .ret st:=ret_q bs q he hq
end Go.Ab
namespace Go.Sh
structure Span where
 lo:Int
 hi:Int
 deriving DecidableEq,Inhabited
structure Mach where
 changes:List Span
 rate:Int
 deriving DecidableEq,Inhabited
structure Fnd where
 minute:Int
 new:List Int
 frm:List Int
 deriving DecidableEq,Inhabited
structure Run where
 plates:Int
 last:Int
 machines:List Mach
 found:List Fnd
 deriving DecidableEq,Inhabited
def mach (r:Run) (i:Nat):Mach:=r.machines.getD i default
def fnd (r:Run) (i:Nat):Fnd:=r.found.getD i default
def chg (m:Mach) (p:Nat):Span:=m.changes.getD p default
def within (n lo hi:Int):Bool:=decide (lo<=n) && decide (n<=hi)
def isIn (l:List Int) (n:Int):Bool:=l.any (fun x=>decide (x=n))
def isSpan (s:Span) (most:Int):Bool:=within s.hi 0 most && within s.lo 0 s.hi
def risAt (l:List Int) (lo hi:Int) (i:Nat):Bool:=within (l.getD i 0) lo hi && (!decide ((i:Int) > 0) || !decide (l.getD i 0<=l.getD (i - 1) 0))
def rising (l:List Int) (lo hi:Int):Bool:=(List.range l.length).all (risAt l lo hi)
def isMachine (r:Run) (n:Int):Bool:=within n 0 ((r.machines.length:Int) - 1)
def isFound (r:Run) (n:Int):Bool:=within n 0 ((r.found.length:Int) - 1)
def isPlate (r:Run) (n:Int):Bool:=within n 0 (Go.Ab.wr (r.plates - 1))
def okMach (r:Run) (m:Mach):Bool:=decide ((m.changes.length:Int)=r.plates) && within m.rate 0 9
def okMachA (r:Run) (m:Mach):Bool:=okMach r m && m.changes.all (fun s=>isSpan s r.last)
def okFnd (r:Run) (c:Fnd):Bool:=within c.minute 0 (r.last - 1) && decide ((c.new.length:Int)=r.plates) && !decide ((c.frm.length:Int)=0) && rising c.frm 0 ((r.machines.length:Int) - 1)
def okFndA (r:Run) (c:Fnd):Bool:=okFnd r c && c.new.all (fun n=>within n (-1) 1)
def okHead (r:Run):Bool:=within r.plates 1 3 && within r.last 1 30 && within r.machines.length 1 3 && !decide ((r.found.length:Int) > 6)
def okRun (r:Run):Bool:=okHead r && r.machines.all (okMachA r) && r.found.all (okFndA r)
def check (r:Run):Int:=if okRun r then 0 else 60
def known3 (so not all:Int):Int:=if all=so then 1 else if all=not then 2 else 3
def inside (a b:Span):Bool:=decide (b.lo<=a.lo) && decide (a.lo<=a.hi) && decide (a.hi<=b.hi)
def has (s:Span) (n:Int):Bool:=decide (s.lo<=n) && decide (n<=s.hi)
def hugeM (m:Mach):Bool:=decide ((m.changes.length:Int) > 40)
def hugeF (c:Fnd):Bool:=decide ((c.new.length:Int) > 40) || decide ((c.frm.length:Int) > 40)
def huge (r:Run):Bool:=decide ((r.machines.length:Int) > 40) || decide ((r.found.length:Int) > 40) || r.machines.any hugeM || r.found.any hugeF
def prodTo (r:Run) (n:Nat):Int:=(List.range n).foldl (fun a i=>a * (fnd r i).frm.length) 1
def far (r:Run):Bool:=huge r || (okRun r && decide (prodTo r r.found.length > 100))
def ready (r:Run):Bool := !far r && decide (check r=0)
def spanStep (r:Run) (from':List Int) (m p:Nat) (s:Span) (i:Nat):Span :=
 if from'.getD i 0=(m:Int) then
  (if (fnd r i).new.getD p 0=1 then ⟨s.lo,min s.hi (fnd r i).minute⟩ else if (fnd r i).new.getD p 0=0 then ⟨max s.lo ((fnd r i).minute + 1),s.hi⟩ else s)
 else s
def spanTo (r:Run) (from':List Int) (m p n:Nat):Span:=(List.range n).foldl (spanStep r from' m p) (chg (mach r m) p)
def spanOf (r:Run) (from':List Int) (m p:Nat):Span:=spanTo r from' m p from'.length
def fits (r:Run):Prop:=r.machines.length<=1125899906842624/\r.found.length<=1125899906842624/\(∀ i,(mach r i).changes.length<=1125899906842624)/\(∀ i,(fnd r i).new.length<=1125899906842624/\(fnd r i).frm.length<=1125899906842624)
def small (r:Run):Prop:=r.machines.length<=65536/\r.found.length<=65536/\(∀ i,(mach r i).changes.length<=65536)/\(∀ i,(fnd r i).new.length<=65536/\(fnd r i).frm.length<=65536)
theorem small_fits {r:Run} (h:small r):fits r:=⟨by have:=h.1; omega,by have:=h.2.1; omega,fun i=>by have:=h.2.2.1 i; omega,fun i=>by have:=h.2.2.2 i; omega⟩
end Go.Sh
namespace Go.En
open Go Go.Ab Go.Sh
def aInts (l:List Int):AV := .sl 1 l.length (fun i=>[iv (l.getD i 0)])
def aSpans (l:List Span):AV := .sl 2 l.length (fun i=>[iv (l.getD i default).lo,iv (l.getD i default).hi])
def cSpan (s:Span):List AV:=[iv s.lo,iv s.hi]
def cMach (m:Mach):List AV:=[aSpans m.changes,iv m.rate]
def cFnd (c:Fnd):List AV:=[iv c.minute,aInts c.new,aInts c.frm]
def cRun (r:Run):List AV:=[iv r.plates,iv r.last,.sl 2 r.machines.length (fun i=>cMach (mach r i)),.sl 3 r.found.length (fun i=>cFnd (fnd r i))]
abbrev vSpan (s:Span):AV := .agg (cSpan s)
abbrev vFnd (c:Fnd):AV := .agg (cFnd c)
abbrev vRun (r:Run):AV := .agg (cRun r)
end Go.En
namespace Go.Ab
open Go Go.RowKit Go.Sh Go.En
def s24 (n lo hi:Int):CallSpec:={ args:=[iv n,iv lo,iv hi],res:=bv (within n lo hi) }
def s76 (n lo hi:Int):CallSpec:={ args:=[iv n,iv lo,iv hi],res:=bv (within n lo hi) }
def s112 (n lo hi:Int):CallSpec:={ args:=[iv n,iv lo,iv hi],res:=bv (within n lo hi) }
def s51 (l:List Int) (n:Int):CallSpec:={ args:=[aInts l,iv n],res:=bv (isIn l n),pre:=l.length<=1125899906842624 }
def h51 (l:List Int) (n:Int):Hint:={ X:=Nat,M:=fun i=>[(5,iv i)],I:=fun i=>i<=l.length/\isIn (l.take i) n=false,mu:=fun i=>l.length - i,x0:=(0:Nat),nx:=fun i=>i + 1 }
def h37 (a b:List Int):Hint:={ X:=Nat,M:=fun i=>[(5,iv i)],I:=fun i=>i<=a.length/\a.take i=b.take i,mu:=fun i=>a.length - i,x0:=(0:Nat),nx:=fun i=>i + 1 }
def s52 (l:List Int) (lo hi:Int):CallSpec:={ args:=[aInts l,iv lo,iv hi],res:=bv (rising l lo hi),pre:=l.length<=1125899906842624 }
def h52 (l:List Int) (lo hi:Int):Hint:={ X:=Nat,M:=fun i=>[(7,iv i)],I:=fun i=>i<=l.length /\ ∀ j,j < i->risAt l lo hi j=true,mu:=fun i=>l.length - i,x0:=(0:Nat),nx:=fun i=>i + 1 }
def s105 (s:Span) (most:Int):CallSpec:={ args:=[vSpan s,iv most],res:=bv (isSpan s most) }
def s18 (r:Run) (n:Int):CallSpec:={ args:=[vRun r,iv n],res:=bv (isMachine r n),pre:=fits r }
def s79 (r:Run) (n:Int):CallSpec:=s18 r n
def s86 (so not all:Int):CallSpec:={ args:=[iv so,iv not,iv all],res:=iv (known3 so not all) }
def s29 (lo hi:Int):CallSpec:={ args:=[iv lo,iv hi],res:=vSpan ⟨lo,hi⟩ }
def s63 (r:Run):CallSpec:={ args:=[vRun r],res:=iv (check r),pre:=fits r }
def h63a (r:Run):Hint:={ X:=Nat,M:=fun i=>[(3,iv i)],I:=fun i=>i<=r.machines.length /\ ∀ j,j < i->okMachA r (mach r j)=true,mu:=fun i=>r.machines.length - i,x0:=(0:Nat),nx:=fun i=>i + 1 }
def h63b (r:Run) (x:Nat):Hint:={ X:=Nat,M:=fun i=>[(5,iv i)],I:=fun i=>i<=(mach r x).changes.length /\ ∀ j,j < i->isSpan (chg (mach r x) j) r.last=true,mu:=fun i=>(mach r x).changes.length - i,x0:=(0:Nat),nx:=fun i=>i + 1 }
def h63c (r:Run):Hint:={ X:=Nat,M:=fun i=>[(6,iv i)],I:=fun i=>i<=r.found.length /\ ∀ j,j < i->okFndA r (fnd r j)=true,mu:=fun i=>r.found.length - i,x0:=(0:Nat),nx:=fun i=>i + 1 }
def h63d (r:Run) (x:Nat):Hint:={ X:=Nat,M:=fun i=>[(8,iv i)],I:=fun i=>i<=(fnd r x).new.length /\ ∀ j,j < i->within ((fnd r x).new.getD j 0) (-1) 1=true,mu:=fun i=>(fnd r x).new.length - i,x0:=(0:Nat),nx:=fun i=>i + 1 }
def h30 (r:Run):Hint:={ X:=Nat,M:=fun i=>[(3,iv (prodTo r i)),(4,iv i)],I:=fun i=>i<=r.found.length,mu:=fun i=>r.found.length - i,x0:=(0:Nat),nx:=fun i=>i + 1 }
def h88 (r:Run) (l:List Int) (m p:Nat):Hint:={ X:=Nat,M:=fun i=>[(10,iv i),(9,.ptr 5000 [])],H:=fun i=>[(5000,.cells 37 [iv (spanTo r l m p i).lo,iv (spanTo r l m p i).hi])],I:=fun i=>i<=l.length,mu:=fun i=>l.length - i,x0:=(0:Nat),nx:=fun i=>i + 1 }
end Go.Ab
namespace Go.Ab
theorem getD_lt {α:Type} (l:List α) (d:α) {i:Nat} (h:i < l.length):l.getD i d=l[i]:=by
 rw [List.getD_eq_getElem?_getD,List.getElem?_eq_getElem h]; rfl
theorem getD_ge {α:Type} (l:List α) (d:α) {i:Nat} (h:l.length<=i):l.getD i d=d:=by
 rw [List.getD_eq_getElem?_getD,List.getElem?_eq_none h]; rfl
theorem getD_mem {α:Type} (l:List α) (d:α) {i:Nat} (h:i < l.length):l.getD i d ∈ l:=by
 rw [getD_lt l d h]; exact List.getElem_mem h
theorem take_succ {α:Type} (l:List α) (d:α) {i:Nat} (h:i < l.length):l.take (i + 1)=l.take i ++ [l.getD i d]:=by
 rw [getD_lt l d h,List.take_add_one,List.getElem?_eq_getElem h]; rfl
theorem all_idx {α:Type} (l:List α) (d:α) (p:α->Bool) (h:∀ j,j < l.length->p (l.getD j d)=true):l.all p=true:=by
 rw [List.all_eq_true]
 intro x hx
 obtain ⟨j,hj,rfl⟩:=List.getElem_of_mem hx
 rw [← getD_lt l d hj]; exact h j hj
theorem idx_all {α:Type} {l:List α} (d:α) {p:α->Bool} (h:l.all p=true) {j:Nat} (hj:j < l.length):p (l.getD j d)=true:=by
 rw [List.all_eq_true] at h
 exact h _ (getD_mem l d hj)
theorem not_all {α:Type} (l:List α) (d:α) (p:α->Bool) {j:Nat} (hj:j < l.length) (h:p (l.getD j d)=false):l.all p=false:=by
 cases e:l.all p with
 | false=>rfl
 | true=>rw [idx_all d e hj] at h; cases h
theorem any_idx {α:Type} (l:List α) (d:α) (p:α->Bool) (h:∀ j,j < l.length->p (l.getD j d)=false):l.any p=false:=by
 rw [List.any_eq_false]
 intro x hx
 obtain ⟨j,hj,rfl⟩:=List.getElem_of_mem hx
 rw [← getD_lt l d hj,h j hj]; simp
theorem some_any {α:Type} (l:List α) (d:α) (p:α->Bool) {j:Nat} (hj:j < l.length) (h:p (l.getD j d)=true):l.any p=true:=by
 rw [List.any_eq_true]
 exact ⟨_,getD_mem l d hj,h⟩
theorem lt_succ_cases {P:Nat->Prop} {i:Nat} (h:∀ j,j < i->P j) (hi:P i):∀ j,j < i + 1->P j:=by
 intro j hj
 by_cases e:j=i
 ·subst e; exact hi
 ·exact h j (by omega)
theorem foldl_range_succ {α:Type} (f:α->Nat->α) (a:α) (n:Nat):(List.range (n + 1)).foldl f a=f ((List.range n).foldl f a) n:=by
 rw [List.range_succ,List.foldl_append]; rfl
theorem getD_append {α:Type} (l m:List α) (d:α) (i:Nat):(l ++ m).getD i d=if i < l.length then l.getD i d else m.getD (i - l.length) d:=by
 simp only [List.getD_eq_getElem?_getD,List.getElem?_append]
 split <;> rfl
theorem catF_eq {α:Type} (l m:List α) (d:α) (F:α->List AV) {n:Nat} {f g:Nat->List AV} (hn:n=l.length) (hf:∀ k,k < l.length->f k=F (l.getD k d)) (hg:∀ k,k < m.length->g k=F (m.getD k d)) {i:Nat} (hi:i < l.length + m.length):catF n f g i=F ((l ++ m).getD i d):=by
 unfold catF
 rw [getD_append,hn]
 split
 ·exact hf i ‹_›
 ·exact hg _ (by omega)
theorem catF_one {α:Type} (l:List α) (x:α) (d:α) (F:α->List AV) {n:Nat} {f:Nat->List AV} {cells dd:List AV} (hn:n=l.length) (hf:∀ k,k < l.length->f k=F (l.getD k d)) (hc:cells=F x) {i:Nat} (hi:i < l.length + 1):catF n f (fun j=>[cells].getD j dd) i=F ((l ++ [x]).getD i d):=by
 refine catF_eq l [x] d F hn hf (fun k hk => ?_) (by simpa using hi)
 have:k=0:=by simp at hk; omega
 subst this
 exact hc
theorem catF_idx (F:Nat->List AV) {n:Nat} {cells dd:List AV} (hc:cells=F n) {i:Nat} (hi:i < n + 1):catF n F (fun j=>[cells].getD j dd) i=F i:=by
 unfold catF
 split
 ·rfl
 ·have:i=n:=by omega
  subst this
  rw [Nat.sub_self]; exact hc
theorem flatMap_len {α β:Type} (f:α->List β) (b:Nat):∀ (l:List α),(∀ x ∈ l,(f x).length<=b)->(l.flatMap f).length<=l.length * b:=by
 intro l
 induction l with
 | nil=>intro _; simp
 | cons x l ih =>
  intro h
  have h1:=h x (by simp)
  have h2:=ih (fun y hy=>h y (by simp [hy]))
  simp only [List.flatMap_cons,List.length_append,List.length_cons,Nat.succ_mul]
  omega
theorem bor (a b:Bool):(bif a then true else b)=(a || b):=by cases a <;> rfl
theorem nbor2 (a b:Bool):(bif !a then true else !b) = !(a && b):=by cases a <;> rfl
theorem nbor4' (a b c d:Bool):(bif bif bif !a then true else !b then true else !c then true else d) = !(a && b && c && !d):=by cases a <;> cases b <;> cases c <;> simp
theorem nbor4'' (a b c d:Bool):(bif bif bif !a then true else !b then true else c then true else !d) = !(a && b && !c && d):=by cases a <;> cases b <;> cases c <;> rfl
theorem nbor3' (a b c:Bool):(bif bif !a then true else !b then true else c) = !(a && b && !c):=by cases a <;> cases b <;> simp
end Go.Ab
namespace Go.Sh
open Go.Ab
theorem check_head {r:Run} (h:okHead r=false):check r=60:=by simp [check,okRun,h]
theorem check_mach {r:Run} {x:Nat} (hx:x < r.machines.length) (h:okMachA r (mach r x)=false):check r=60:=by
 have h1:r.machines.all (okMachA r)=false:=not_all _ default _ hx h
 simp [check,okRun,h1]
theorem check_fnd {r:Run} {x:Nat} (hx:x < r.found.length) (h:okFndA r (fnd r x)=false):check r=60:=by
 have h1:r.found.all (okFndA r)=false:=not_all _ default _ hx h
 simp [check,okRun,h1]
theorem okRun_of {r:Run} (h:okHead r=true) (h1:∀ j,j < r.machines.length->okMachA r (mach r j)=true) (h2:∀ j,j < r.found.length->okFndA r (fnd r j)=true):okRun r=true:=by
 have a:=all_idx r.machines default (okMachA r) h1
 have b:=all_idx r.found default (okFndA r) h2
 simp [okRun,h,a,b]
theorem check_zero {r:Run}:check r=0 ↔ okRun r=true:=by
 unfold check; cases okRun r <;> simp
structure Ok (r:Run):Prop where
 plates:1<=r.plates/\r.plates<=3
 last:1<=r.last/\r.last<=30
 machines:1<=r.machines.length/\r.machines.length<=3
 found:r.found.length<=6
 mach:∀ i,i < r.machines.length->((mach r i).changes.length:Int)=r.plates/\0<=(mach r i).rate/\(mach r i).rate<=9
 span:∀ i,i < r.machines.length -> ∀ p,p < (Sh.mach r i).changes.length->0<=(chg (Sh.mach r i) p).lo/\(chg (Sh.mach r i) p).lo<=(chg (Sh.mach r i) p).hi/\(chg (Sh.mach r i) p).hi<=r.last
 fnd:∀ i,i < r.found.length->0<=(fnd r i).minute/\(fnd r i).minute<=r.last - 1/\((fnd r i).new.length:Int)=r.plates/\0 < (fnd r i).frm.length
 new:∀ i,i < r.found.length -> ∀ p,p < (Sh.fnd r i).new.length -> -1<=(Sh.fnd r i).new.getD p 0/\(Sh.fnd r i).new.getD p 0<=1
 frm:∀ i,i < r.found.length -> ∀ k,k < (Sh.fnd r i).frm.length->0<=(Sh.fnd r i).frm.getD k 0/\(Sh.fnd r i).frm.getD k 0 < r.machines.length
 ris:∀ i,i < r.found.length->rising (Sh.fnd r i).frm 0 ((r.machines.length:Int) - 1)=true
theorem within_iff {n lo hi:Int}:within n lo hi=true ↔ lo<=n/\n<=hi:=by simp [within]
theorem rising_get {l:List Int} {lo hi:Int} (h:rising l lo hi=true) {k:Nat} (hk:k < l.length):lo<=l.getD k 0/\l.getD k 0<=hi/\(0 < k->l.getD (k - 1) 0 < l.getD k 0):=by
 unfold rising at h
 rw [List.all_eq_true] at h
 have h1:=h k (List.mem_range.2 hk)
 simp only [risAt,Bool.and_eq_true,within_iff,Bool.or_eq_true,Bool.not_eq_true',decide_eq_false_iff_not] at h1
 refine ⟨h1.1.1,h1.1.2,fun h0 => ?_⟩
 rcases h1.2 with h2 | h2 <;> omega
theorem spanB (s:Span) (most:Int) (_:0<=most):(bif !within s.lo 0 s.hi then true else decide (most < s.hi)) = !isSpan s most:=by
 have e:isSpan s most=(within s.lo 0 s.hi && !decide (most < s.hi)):=by
  simp only [isSpan,within]
  by_cases h1:0<=s.lo <;> by_cases h2:s.lo<=s.hi <;> by_cases h3:most < s.hi <;> simp [h1,h2,h3] <;> omega
 rw [e]
 cases within s.lo 0 s.hi <;> simp
theorem head_last {r:Run} (h:okHead r=true):0<=r.last:=by
 simp only [okHead,Bool.and_eq_true,within_iff] at h
 omega
theorem ris_not {l:List Int} {lo hi:Int} {x:Nat} (hx:x < l.length) (h:risAt l lo hi x=false):rising l lo hi=false:=by
 unfold rising
 rw [List.all_eq_false]
 exact ⟨x,List.mem_range.2 hx,by simp [h]⟩
theorem risB (l:List Int) (lo hi:Int) (x:Nat):(bif !within (l.getD x 0) lo hi then true else bif decide (0 < (x:Int)) then decide (l.getD x 0<=l.getD (Int.toNat ((x:Int) - 1)) 0) else false) = !risAt l lo hi x:=by
 have e:Int.toNat ((x:Int) - 1)=x - 1:=by omega
 rw [e]
 unfold risAt
 show _ = !(within (l.getD x 0) lo hi && (!decide (0 < (x:Int)) || !decide (l.getD x 0<=l.getD (x - 1) 0)))
 cases within (l.getD x 0) lo hi <;> cases decide (0 < (x:Int)) <;> simp
theorem ok_of {r:Run} (h:okRun r=true):Ok r:=by
 simp only [okRun,Bool.and_eq_true] at h
 obtain ⟨⟨h1,h2⟩,h3⟩:=h
 simp only [okHead,Bool.and_eq_true,within_iff,Bool.not_eq_true',decide_eq_false_iff_not] at h1
 have hm:∀ i,i < r.machines.length->okMachA r (mach r i)=true:=fun i hi=>idx_all default h2 hi
 have hf:∀ i,i < r.found.length->okFndA r (fnd r i)=true:=fun i hi=>idx_all default h3 hi
 have hm1:∀ i,i < r.machines.length->((mach r i).changes.length:Int)=r.plates/\0<=(mach r i).rate/\(mach r i).rate<=9:=by
  intro i hi
  have:=hm i hi
  simp only [okMachA,okMach,Bool.and_eq_true,within_iff,decide_eq_true_eq] at this
  exact ⟨this.1.1,this.1.2.1,this.1.2.2⟩
 have hf1:∀ i,i < r.found.length->okFnd r (fnd r i)=true/\(fnd r i).new.all (fun n=>within n (-1) 1)=true:=by
  intro i hi
  have:=hf i hi
  simpa only [okFndA,Bool.and_eq_true] using this
 refine ⟨h1.1.1.1,h1.1.1.2,by omega,by omega,hm1,?_,?_,?_,?_,?_⟩
 ·intro i hi p hp
  have:=hm i hi
  simp only [okMachA,Bool.and_eq_true] at this
  have:=idx_all default this.2 hp
  simp only [isSpan,Bool.and_eq_true,within_iff] at this
  exact ⟨this.2.1,this.2.2,this.1.2⟩
 ·intro i hi
  have:=(hf1 i hi).1
  simp only [okFnd,Bool.and_eq_true,within_iff,decide_eq_true_eq,Bool.not_eq_true',decide_eq_false_iff_not] at this
  refine ⟨this.1.1.1.1,this.1.1.1.2,this.1.1.2,by omega⟩
 ·intro i hi p hp
  have:=idx_all 0 (hf1 i hi).2 hp
  simpa only [within_iff] using this
 ·intro i hi k hk
  have:=(hf1 i hi).1
  simp only [okFnd,Bool.and_eq_true] at this
  have:=rising_get this.2 hk
  omega
 ·intro i hi
  have:=(hf1 i hi).1
  simp only [okFnd,Bool.and_eq_true] at this
  exact this.2
theorem rising_ge {l:List Int} {lo hi:Int} (h:rising l lo hi=true):∀ k,k < l.length->lo + k<=l.getD k 0:=by
 intro k
 induction k with
 | zero=>intro hk; have:=rising_get h hk; omega
 | succ k ih =>
  intro hk
  have h1:=ih (by omega)
  have h2:=(rising_get h hk).2.2 (by omega)
  simp only [Nat.add_sub_cancel] at h2
  omega
theorem rising_len {l:List Int} {n:Nat} (h:rising l 0 ((n:Int) - 1)=true):l.length<=n:=by
 cases e:l.length with
 | zero=>omega
 | succ k =>
  have h1:=rising_ge h k (by omega)
  have h2:=rising_get h (k:=k) (by omega)
  omega
theorem frm_len {r:Run} (ok:Ok r) {i:Nat} (h:i < r.found.length):(fnd r i).frm.length<=3:=by
 have h1:=rising_len (ok.ris i h)
 have h2:=ok.machines
 omega
theorem spanTo_succ (r:Run) (l:List Int) (m p n:Nat):spanTo r l m p (n + 1)=spanStep r l m p (spanTo r l m p n) n:=foldl_range_succ _ _ _
end Go.Sh
namespace Go.Ab
open Go Go.RowKit Go.Proofs Go.Sh Go.En
theorem w24 (n:Int) (lo:Int) (hi:Int)
  (o0:(bif decide (lo<=n) then decide (n<=hi) else false)=within n lo hi) :
  Triple Try.prog 24 (s24 n lo hi):=by
 refine triple_of Try.func24 rfl Try.call24 T0_ok _ rfl rfl rfl rfl (Nat.le_of_ble_eq_true (by kernel_rfl)) (fun _ _ _ _ h=>h) ?_
 intro _ C hC _ hE
 obtain ⟨P,w0,E0,av,hA⟩:=C
 subst hC
 refine swp_seq ?_
 refine sQ (kt:=[0,1,2]) (kh:=[]) (q:=True/\True) (st':=ASt.mk [(0,iv n),(1,iv lo),(2,iv hi)] [] 8) ⟨tv,tv⟩ ?_
 refine swp_seq ?_
 refine sQ (kt:=[6]) (kh:=[]) (q:=True/\True/\True/\True/\(decide (lo<=n)=true->(True/\True)/\True)/\(decide (lo<=n)=true->(True/\True)/\True)/\(decide (lo<=n)=true->((decide (lo<=n)=true->decide (lo<=n)=true)/\(decide (lo<=n)=true->decide (lo<=n)=true)/\True)/\True)/\((decide (lo<=n)=true->decide (lo<=n)=true)/\(decide (lo<=n)=false->True))/\True/\True) (st':=ASt.mk [(6,bv (bif decide (lo<=n) then decide (n<=hi) else false))] [] 80) ⟨tv,tv,tv,tv,(fun h0=>⟨⟨tv,tv⟩,tv⟩),(fun h1=>⟨⟨tv,tv⟩,tv⟩),(fun h2=>⟨⟨(fun h3=>h2),(fun h4=>h2),tv⟩,tv⟩),⟨(fun h5=>h5),(fun h6=>tv)⟩,tv,tv⟩ ?_
 refine swp_ret ?_
 exact rQ [] ((True/\True)/\(zN (bv (bif decide (lo<=n) then decide (n<=hi) else false)) (bv (within n lo hi)))/\T3) ⟨⟨tv,tv⟩,⟨(congrArg bv (o0)),rfl⟩,rfl,rfl,rfl⟩
theorem t24 (n lo hi:Int):Triple Try.prog 24 (s24 n lo hi):=by
 refine w24 n lo hi ?_
 unfold within; cases decide (lo<=n) <;> rfl
abbrev q51_1 (l:List Int) (n:Int) (C:Nat->Prop):Prop:=l.length<=1125899906842624 -> ∀ (x0:Nat),x0<=l.length/\isIn (List.take x0 l) n=false->decide ((x0:Int) < (↑(l.length):Int))=true->C x0
abbrev q51_2 (l:List Int) (n:Int) (C:Nat->Prop):Prop:=q51_1 l n fun x0=>decide (l.getD x0 0=n)=false->C x0
theorem w51 (l:List Int) (n:Int)
 (o0:List.length l<=1125899906842624->0=(↑0:Int))
 (o1:l.length<=1125899906842624->0<=l.length/\isIn (List.take 0 l) n=false)
 (o2:q51_1 l n fun x0=>0<=(x0:Int))
 (o3:q51_1 l n fun x0=>(x0:Int) < (↑(l.length):Int))
 (o4:q51_1 l n fun x0=>decide (l.getD x0 0=n)=true->true=isIn l n)
 (o5:q51_2 l n fun x0=>inI ((x0:Int) + 1))
 (o6:q51_2 l n fun x0=>(x0:Int) + 1=(↑(x0 + 1):Int))
 (o7:q51_2 l n fun x0=>x0 + 1<=l.length/\isIn (List.take (x0 + 1) l) n=false)
 (o8:q51_2 l n fun x0=>l.length - (x0 + 1) < l.length - x0)
 (o9:l.length<=1125899906842624 -> ∀ (x0:Nat),x0<=l.length/\isIn (List.take x0 l) n=false->decide ((x0:Int) < (↑(l.length):Int))=false->false=isIn l n) :
  Triple Try.prog 51 (s51 l n):=by
 refine triple_of Try.func51 rfl Try.call51 T0_ok _ rfl rfl rfl rfl (Nat.le_of_ble_eq_true (by kernel_rfl)) (fun _ _ _ _ h=>h) ?_
 intro hp C hC _ hE
 obtain ⟨P,w0,E0,av,hA⟩:=C
 subst hC
 refine swp_seq ?_
 refine sQ (kt:=[0,1]) (kh:=[]) (q:=True/\True) (st':=ASt.mk [(0,aInts l),(1,iv n)] [] 8) ⟨tv,tv⟩ ?_
 refine swp_seq (swp_seq ?_)
 refine sQ (kt:=[0,1,5]) (kh:=[]) (q:=True/\True) (st':=ASt.mk [(0,aInts l),(1,iv n),(5,iv 0)] [] 16) ⟨tv,tv⟩ ?_
 refine swp_block ?_
 refine swp_loopA (Hint.ann (h51 l n) [(0,aInts l),(1,iv n)] [] 10016) (eQ hE [] [] [0,1] [] (((zT (aInts l))/\(zT (iv n))/\(zN (iv 0) (iv (↑0:Int)))/\True)/\True/\T2) ⟨⟨⟨rfl,rfl⟩,⟨rfl,rfl⟩,⟨(congrArg iv (o0 hp)),rfl⟩,tv⟩,tv,rfl,rfl⟩) (o1 hp) (fun (x0:Nat) hx0 => ?_)
 refine swp_seq (swp_seq ?_)
 refine sQ (kt:=[0,1,5,9]) (kh:=[]) (q:=tn 4) (st':=ASt.mk [(0,aInts l),(1,iv n),(5,iv (x0:Int)),(9,bv (decide ((x0:Int) < (↑(l.length):Int))))] [] 10048) (tp 4) ?_
 refine swp_cond (decide ((x0:Int) < (↑(l.length):Int))) (by kernel_rfl) (fun h1 => ?_) (fun h1 => ?_)
 ·refine swp_skip (swp_seq (swp_block (swp_seq ?_)))
  refine sQ (kt:=[0,1,5,17]) (kh:=[]) (q:=True/\True/\(0<=(x0:Int)/\(x0:Int) < (↑(l.length):Int))/\tn 3) (st':=ASt.mk [(0,aInts l),(1,iv n),(5,iv (x0:Int)),(17,bv (decide (l.getD x0 0=n)))] [] 10096) ⟨tv,tv,⟨(o2 hp x0 hx0 h1),(o3 hp x0 hx0 h1)⟩,tp 3⟩ ?_
  refine swp_cond (decide (l.getD x0 0=n)) (by kernel_rfl) (fun h2 => ?_) (fun h2 => ?_)
  ·refine swp_seq ?_
   refine sQ (kt:=[4]) (kh:=[]) (q:=True/\True) (st':=ASt.mk [(4,bv true)] [] 10104) ⟨tv,tv⟩ ?_
   refine swp_ret ?_
   exact rQ [] ((True/\True)/\(zN (bv true) (bv (isIn l n)))/\T3) ⟨⟨tv,tv⟩,⟨(congrArg bv (o4 hp x0 hx0 h1 h2)),rfl⟩,rfl,rfl,rfl⟩
  ·refine swp_skip ?_
   refine sQ (kt:=[0,1,5]) (kh:=[]) (q:=True/\inI ((x0:Int) + 1)/\True/\True) (st':=ASt.mk [(0,aInts l),(1,iv n),(5,iv ((x0:Int) + 1))] [] 10120) ⟨tv,(o5 hp x0 hx0 h1 h2),tv,tv⟩ ?_
   exact loop_next (Hint.ann (h51 l n) [(0,aInts l),(1,iv n)] [] 10016) x0 (eQ hE [] [] [0,1] [] (((zT (aInts l))/\(zT (iv n))/\(zN (iv ((x0:Int) + 1)) (iv (↑(x0 + 1):Int)))/\True)/\True/\T2) ⟨⟨⟨rfl,rfl⟩,⟨rfl,rfl⟩,⟨(congrArg iv (o6 hp x0 hx0 h1 h2)),rfl⟩,tv⟩,tv,rfl,rfl⟩) (o7 hp x0 hx0 h1 h2) (o8 hp x0 hx0 h1 h2)
 ·refine swp_exit (swp_seq ?_)
  refine sQ (kt:=[4]) (kh:=[]) (q:=True/\True) (st':=ASt.mk [(4,bv false)] [] 10056) ⟨tv,tv⟩ ?_
  refine swp_ret ?_
  exact rQ [] ((True/\True)/\(zN (bv false) (bv (isIn l n)))/\T3) ⟨⟨tv,tv⟩,⟨(congrArg bv (o9 hp x0 hx0 h1)),rfl⟩,rfl,rfl,rfl⟩
theorem t51 (l:List Int) (n:Int):Triple Try.prog 51 (s51 l n):=by
 apply w51
 case o1=>intro _; exact ⟨Nat.zero_le _,rfl⟩
 case o4 =>
  intro hp x hx h h2
  simp only [decide_eq_true_eq] at h
  exact (some_any l 0 _ (by omega) h2).symm
 case o7 =>
  intro hp x hx h h2
  simp only [decide_eq_true_eq] at h
  refine ⟨by omega,?_⟩
  rw [take_succ l 0 (by omega)]
  have h3:=hx.2
  unfold isIn at h3 ⊢
  rw [List.any_append,h3]; simpa using h2
 case o9 =>
  intro hp x hx h
  simp only [decide_eq_false_iff_not] at h
  have h3:=hx.2
  rw [List.take_of_length_le (by omega)] at h3
  exact h3.symm
 all_goals (try ((repeat intro _) <;> (try simp only [v0,v1,v2,v3,v4,v5,v6,v7,v8,v9,inI,fits,Go.Sh.small] at *) <;> first | (exact rfl) | omega | exact vz | (simp_all; done) | (simp_all; omega)))
abbrev z52_1 (l:List Int) (lo:Int) (hi:Int):LoopAnn:=Hint.ann (h52 l lo hi) [(0,aInts l),(1,iv lo),(2,iv hi)] [] 10016
abbrev q52_1 (l:List Int) (lo:Int) (hi:Int) (C:Nat->Prop):Prop:=l.length<=1125899906842624 -> ∀ (x0:Nat),(x0<=l.length /\ ∀ (j:Nat),j < x0->risAt l lo hi j=true)->C x0
abbrev q52_2 (l:List Int) (lo:Int) (hi:Int) (C:Nat->Prop):Prop:=q52_1 l lo hi fun x0=>decide ((x0:Int) < (↑(l.length):Int))=true->C x0
abbrev q52_3 (l:List Int) (lo:Int) (hi:Int) (C:Nat->Prop):Prop:=q52_2 l lo hi fun x0=>(!!within (l.getD x0 0) lo hi && decide (0 < (x0:Int)))=true->C x0
abbrev q52_4 (l:List Int) (lo:Int) (hi:Int) (C:Nat->Prop):Prop:=q52_2 l lo hi fun x0=>(bif !within (l.getD x0 0) lo hi then true else bif decide (0 < (x0:Int)) then decide (l.getD x0 0<=l.getD ((x0:Int) - 1).toNat 0) else false)=false->C x0
theorem w52 (l:List Int) (lo:Int) (hi:Int)
 (o0:List.length l<=1125899906842624->0=(↑0:Int))
 (o1:l.length<=1125899906842624->0<=l.length /\ ∀ (j:Nat),j < 0->risAt l lo hi j=true)
 (o2:q52_2 l lo hi fun x0=>0<=(x0:Int))
 (o3:q52_2 l lo hi fun x0=>(x0:Int) < (↑(l.length):Int))
 (o4:q52_3 l lo hi fun x0=>0<=(x0:Int))
 (o5:q52_3 l lo hi fun x0=>(x0:Int) < (↑(l.length):Int))
 (o6:q52_3 l lo hi fun x0=>inI ((x0:Int) - 1))
 (o7:q52_3 l lo hi fun x0=>0<=(x0:Int) - 1)
 (o8:q52_3 l lo hi fun x0=>(x0:Int) - 1 < (↑(l.length):Int))
 (o9:q52_2 l lo hi fun x0=>(!!within (l.getD x0 0) lo hi)=true->decide (0 < (x0:Int))=true->(!!within (l.getD x0 0) lo hi && decide (0 < (x0:Int)))=true)
 (o10:q52_2 l lo hi fun x0=>(!within (l.getD x0 0) lo hi)=false->(!!within (l.getD x0 0) lo hi)=true)
 (o11:q52_2 l lo hi fun x0=>(bif !within (l.getD x0 0) lo hi then true else bif decide (0 < (x0:Int)) then decide (l.getD x0 0<=l.getD ((x0:Int) - 1).toNat 0) else false)=true->false=rising l lo hi)
 (o12:q52_4 l lo hi fun x0=>inI ((x0:Int) + 1))
 (o13:q52_4 l lo hi fun x0=>(x0:Int) + 1=(↑(x0 + 1):Int))
 (o14:q52_4 l lo hi fun x0=>x0 + 1<=l.length /\ ∀ (j:Nat),j < x0 + 1->risAt l lo hi j=true)
 (o15:q52_4 l lo hi fun x0=>l.length - (x0 + 1) < l.length - x0)
 (o16:q52_1 l lo hi fun x0=>decide ((x0:Int) < (↑(l.length):Int))=false->true=rising l lo hi) :
  Triple Try.prog 52 (s52 l lo hi):=by
 refine triple_of Try.func52 rfl Try.call52 T0_ok _ rfl rfl rfl rfl (Nat.le_of_ble_eq_true (by kernel_rfl)) (fun _ _ _ _ h=>h) ?_
 intro hp C hC _ hE
 obtain ⟨P,w0,E0,av,hA⟩:=C
 subst hC
 refine swp_seq ?_
 refine sQ (kt:=[0,1,2]) (kh:=[]) (q:=True/\True) (st':=ASt.mk [(0,aInts l),(1,iv lo),(2,iv hi)] [] 8) ⟨tv,tv⟩ ?_
 refine swp_seq (swp_seq ?_)
 refine sQ (kt:=[0,1,2,7]) (kh:=[]) (q:=True/\True) (st':=ASt.mk [(0,aInts l),(1,iv lo),(2,iv hi),(7,iv 0)] [] 16) ⟨tv,tv⟩ ?_
 refine swp_block ?_
 refine swp_loopA (z52_1 l lo hi) (eQ hE [] [] [0,1,2] [] (((zT (aInts l))/\(zT (iv lo))/\(zT (iv hi))/\(zN (iv 0) (iv (↑0:Int)))/\True)/\True/\T2) ⟨⟨⟨rfl,rfl⟩,⟨rfl,rfl⟩,⟨rfl,rfl⟩,⟨(congrArg iv (o0 hp)),rfl⟩,tv⟩,tv,rfl,rfl⟩) (o1 hp) (fun (x0:Nat) hx0 => ?_)
 refine swp_seq (swp_seq ?_)
 refine sQ (kt:=[0,1,2,7,11]) (kh:=[]) (q:=tn 4) (st':=ASt.mk [(0,aInts l),(1,iv lo),(2,iv hi),(7,iv (x0:Int)),(11,bv (decide ((x0:Int) < (↑(l.length):Int))))] [] 10048) (tp 4) ?_
 refine swp_cond (decide ((x0:Int) < (↑(l.length):Int))) (by kernel_rfl) (fun h1 => ?_) (fun h1 => ?_)
 ·refine swp_skip (swp_seq (swp_block (swp_seq ?_)))
  refine sC (cs:=[(6,CallSpec.eq (s24 (l.getD x0 0) lo hi) [true,true,true])]) (kt:=[0,1,2,7,37]) (kh:=[]) (q:=True/\True/\(0<=(x0:Int)/\(x0:Int) < (↑(l.length):Int))/\True/\True/\True/\((zE (iv (l.getD x0 0))/\iv lo=iv lo/\iv hi=iv hi/\True)/\Triple Try.prog 24 (s24 (l.getD x0 0) lo hi)/\True/\True /\ ∀ (i2:Env),True)/\True/\True/\((!!within (l.getD x0 0) lo hi)=true->(True/\True)/\True)/\((!!within (l.getD x0 0) lo hi)=true->(((!!within (l.getD x0 0) lo hi)=true->(!!within (l.getD x0 0) lo hi)=true)/\True/\True)/\True)/\((!!within (l.getD x0 0) lo hi)=true->(((!!within (l.getD x0 0) lo hi)=true->(!!within (l.getD x0 0) lo hi)=true)/\True)/\True)/\((!!within (l.getD x0 0) lo hi && decide (0 < (x0:Int)))=true->(True/\True)/\True)/\((!!within (l.getD x0 0) lo hi && decide (0 < (x0:Int)))=true->(True/\True)/\True)/\((!!within (l.getD x0 0) lo hi && decide (0 < (x0:Int)))=true->(((!!within (l.getD x0 0) lo hi && decide (0 < (x0:Int)))=true->(!!within (l.getD x0 0) lo hi && decide (0 < (x0:Int)))=true)/\((!!within (l.getD x0 0) lo hi && decide (0 < (x0:Int)))=true->(!!within (l.getD x0 0) lo hi && decide (0 < (x0:Int)))=true)/\True)/\0<=(x0:Int)/\(x0:Int) < (↑(l.length):Int))/\((!!within (l.getD x0 0) lo hi && decide (0 < (x0:Int)))=true->(((!!within (l.getD x0 0) lo hi && decide (0 < (x0:Int)))=true->(!!within (l.getD x0 0) lo hi && decide (0 < (x0:Int)))=true)/\True)/\True)/\((!!within (l.getD x0 0) lo hi && decide (0 < (x0:Int)))=true->(True/\True)/\True)/\((!!within (l.getD x0 0) lo hi && decide (0 < (x0:Int)))=true->(True/\True)/\True)/\((!!within (l.getD x0 0) lo hi && decide (0 < (x0:Int)))=true->(((!!within (l.getD x0 0) lo hi && decide (0 < (x0:Int)))=true->(!!within (l.getD x0 0) lo hi && decide (0 < (x0:Int)))=true)/\True/\True)/\inI ((x0:Int) - 1))/\((!!within (l.getD x0 0) lo hi && decide (0 < (x0:Int)))=true->(((!!within (l.getD x0 0) lo hi && decide (0 < (x0:Int)))=true->(!!within (l.getD x0 0) lo hi && decide (0 < (x0:Int)))=true)/\((!!within (l.getD x0 0) lo hi && decide (0 < (x0:Int)))=true->(!!within (l.getD x0 0) lo hi && decide (0 < (x0:Int)))=true)/\True)/\0<=(x0:Int) - 1/\(x0:Int) - 1 < (↑(l.length):Int))/\((!!within (l.getD x0 0) lo hi && decide (0 < (x0:Int)))=true->(((!!within (l.getD x0 0) lo hi && decide (0 < (x0:Int)))=true->(!!within (l.getD x0 0) lo hi && decide (0 < (x0:Int)))=true)/\True)/\True)/\((!!within (l.getD x0 0) lo hi && decide (0 < (x0:Int)))=true->(((!!within (l.getD x0 0) lo hi && decide (0 < (x0:Int)))=true->(!!within (l.getD x0 0) lo hi && decide (0 < (x0:Int)))=true)/\((!!within (l.getD x0 0) lo hi && decide (0 < (x0:Int)))=true->(!!within (l.getD x0 0) lo hi && decide (0 < (x0:Int)))=true)/\True)/\True)/\((!!within (l.getD x0 0) lo hi)=true->(((!!within (l.getD x0 0) lo hi)=true->(!!within (l.getD x0 0) lo hi)=true)/\True)/\(decide (0 < (x0:Int))=true->(!!within (l.getD x0 0) lo hi && decide (0 < (x0:Int)))=true)/\(decide (0 < (x0:Int))=false->True))/\(((!within (l.getD x0 0) lo hi)=true->True)/\((!within (l.getD x0 0) lo hi)=false->(!!within (l.getD x0 0) lo hi)=true))/\True) (st':=ASt.mk [(0,aInts l),(1,iv lo),(2,iv hi),(7,iv (x0:Int)),(37,bv (bif !within (l.getD x0 0) lo hi then true else bif decide (0 < (x0:Int)) then decide (l.getD x0 0<=l.getD ((x0:Int) - 1).toNat 0) else false))] [] 10240) ⟨tv,tv,⟨(o2 hp x0 hx0 h1),(o3 hp x0 hx0 h1)⟩,tv,tv,tv,⟨⟨rfl,rfl,rfl,tv⟩,(t24 (l.getD x0 0) (lo) (hi)),tv,tv,(fun i2=>tv)⟩,tv,tv,(fun h3=>⟨⟨tv,tv⟩,tv⟩),(fun h4=>⟨⟨(fun h5=>h4),tv,tv⟩,tv⟩),(fun h6=>⟨⟨(fun h7=>h6),tv⟩,tv⟩),(fun h8=>⟨⟨tv,tv⟩,tv⟩),(fun h9=>⟨⟨tv,tv⟩,tv⟩),(fun h10=>⟨⟨(fun h11=>h10),(fun h12=>h10),tv⟩,(o4 hp x0 hx0 h1 h10),(o5 hp x0 hx0 h1 h10)⟩),(fun h13=>⟨⟨(fun h14=>h13),tv⟩,tv⟩),(fun h15=>⟨⟨tv,tv⟩,tv⟩),(fun h16=>⟨⟨tv,tv⟩,tv⟩),(fun h17=>⟨⟨(fun h18=>h17),tv,tv⟩,(o6 hp x0 hx0 h1 h17)⟩),(fun h19=>⟨⟨(fun h20=>h19),(fun h21=>h19),tv⟩,(o7 hp x0 hx0 h1 h19),(o8 hp x0 hx0 h1 h19)⟩),(fun h22=>⟨⟨(fun h23=>h22),tv⟩,tv⟩),(fun h24=>⟨⟨(fun h25=>h24),(fun h26=>h24),tv⟩,tv⟩),(fun h27=>⟨⟨(fun h28=>h27),tv⟩,(fun h29=>(o9 hp x0 hx0 h1 h27 h29)),(fun h30=>tv)⟩),⟨(fun h31=>tv),(fun h32=>(o10 hp x0 hx0 h1 h32))⟩,tv⟩ ?_
  refine swp_cond (bif !within (l.getD x0 0) lo hi then true else bif decide (0 < (x0:Int)) then decide (l.getD x0 0<=l.getD ((x0:Int) - 1).toNat 0) else false) (by kernel_rfl) (fun h33 => ?_) (fun h33 => ?_)
  ·refine swp_seq ?_
   refine sQ (kt:=[6]) (kh:=[]) (q:=True/\True) (st':=ASt.mk [(6,bv false)] [] 10248) ⟨tv,tv⟩ ?_
   refine swp_ret ?_
   exact rQ [] ((True/\True)/\(zN (bv false) (bv (rising l lo hi)))/\T3) ⟨⟨tv,tv⟩,⟨(congrArg bv (o11 hp x0 hx0 h1 h33)),rfl⟩,rfl,rfl,rfl⟩
  ·refine swp_skip ?_
   refine sQ (kt:=[0,1,2,7]) (kh:=[]) (q:=True/\inI ((x0:Int) + 1)/\True/\True) (st':=ASt.mk [(0,aInts l),(1,iv lo),(2,iv hi),(7,iv ((x0:Int) + 1))] [] 10264) ⟨tv,(o12 hp x0 hx0 h1 h33),tv,tv⟩ ?_
   exact loop_next (z52_1 l lo hi) x0 (eQ hE [] [] [0,1,2] [] (((zT (aInts l))/\(zT (iv lo))/\(zT (iv hi))/\(zN (iv ((x0:Int) + 1)) (iv (↑(x0 + 1):Int)))/\True)/\True/\T2) ⟨⟨⟨rfl,rfl⟩,⟨rfl,rfl⟩,⟨rfl,rfl⟩,⟨(congrArg iv (o13 hp x0 hx0 h1 h33)),rfl⟩,tv⟩,tv,rfl,rfl⟩) (o14 hp x0 hx0 h1 h33) (o15 hp x0 hx0 h1 h33)
 ·refine swp_exit (swp_seq ?_)
  refine sQ (kt:=[6]) (kh:=[]) (q:=True/\True) (st':=ASt.mk [(6,bv true)] [] 10056) ⟨tv,tv⟩ ?_
  refine swp_ret ?_
  exact rQ [] ((True/\True)/\(zN (bv true) (bv (rising l lo hi)))/\T3) ⟨⟨tv,tv⟩,⟨(congrArg bv (o16 hp x0 hx0 h1)),rfl⟩,rfl,rfl,rfl⟩
theorem t52 (l:List Int) (lo hi:Int):Triple Try.prog 52 (s52 l lo hi):=by
 apply w52
 case o11 =>
  intro hp x hx h h2
  simp only [decide_eq_true_eq] at h
  symm
  unfold rising
  rw [List.all_eq_false]
  refine ⟨x,List.mem_range.2 (by omega),?_⟩
  simp only [risAt]
  have e:Int.toNat ((x:Int) - 1)=x - 1:=by omega
  rw [e] at h2
  generalize l.getD x 0=a at *
  generalize l.getD (x - 1) 0=b at *
  cases e2:within a lo hi
  ·simp
  ·simp only [e2,Bool.not_true,cond_false,Bool.cond_false_right,Bool.and_eq_true,decide_eq_true_eq] at h2
   have h3:(x:Int) > 0:=h2.1
   simp [h2.2]; omega
 case o14 =>
  intro hp x hx h h2
  simp only [decide_eq_true_eq] at h
  refine ⟨by omega,lt_succ_cases hx.2 ?_⟩
  simp only [risAt]
  have e:Int.toNat ((x:Int) - 1)=x - 1:=by omega
  rw [e] at h2
  generalize l.getD x 0=a at *
  generalize l.getD (x - 1) 0=b at *
  cases e2:within a lo hi
  ·simp [e2] at h2
  ·simp only [e2,Bool.not_true,cond_false,Bool.cond_false_right,Bool.and_eq_false_imp,decide_eq_true_eq,decide_eq_false_iff_not] at h2
   simp only [Bool.true_and,Bool.or_eq_true,Bool.not_eq_true',decide_eq_false_iff_not]
   by_cases e:(x:Int) > 0
   ·exact .inr (h2 (by omega))
   ·exact .inl e
 case o16 =>
  intro hp x hx h
  simp only [decide_eq_false_iff_not] at h
  symm
  unfold rising
  rw [List.all_eq_true]
  intro j hj
  exact hx.2 j (by have:=List.mem_range.1 hj; omega)
 all_goals (try ((repeat intro _) <;> (try simp only [v0,v1,v2,v3,v4,v5,v6,v7,v8,v9,inI,fits,Go.Sh.small] at *) <;> first | (exact rfl) | omega | exact vz | (simp_all; done) | (simp_all; omega)))
theorem w105 (s:Span) (most:Int)
  (o0:(bif within s.hi 0 most then within s.lo 0 s.hi else false)=isSpan s most) :
  Triple Try.prog 105 (s105 s most):=by
 refine triple_of Try.func105 rfl Try.call105 T0_ok _ rfl rfl rfl rfl (Nat.le_of_ble_eq_true (by kernel_rfl)) (fun _ _ _ _ h=>h) ?_
 intro _ C hC _ hE
 obtain ⟨P,w0,E0,av,hA⟩:=C
 subst hC
 refine swp_seq ?_
 refine sQ (kt:=[1,2]) (kh:=[0]) (q:=tn 2) (st':=ASt.mk [(1,iv most),(2,.ptr 0 [])] [(0,.cells 37 (cSpan s))] 16) (tp 2) ?_
 refine swp_seq ?_
 refine sC (cs:=[(3,CallSpec.eq (s24 s.hi 0 most) [true,true,true]),(9,CallSpec.eq (s24 s.lo 0 s.hi) [true,true,true])]) (kt:=[4]) (kh:=[]) (q:=True/\True/\True/\((zE (iv s.hi)/\iv 0=iv 0/\zE (iv most)/\True)/\Triple Try.prog 24 (s24 s.hi 0 most)/\True/\True /\ ∀ (i0:Env),True)/\True/\(within s.hi 0 most=true->(True/\True)/\True)/\(within s.hi 0 most=true->((within s.hi 0 most=true->within s.hi 0 most=true)/\True)/\True)/\(within s.hi 0 most=true->(True/\True)/\True)/\(within s.hi 0 most=true->((within s.hi 0 most=true->within s.hi 0 most=true)/\True)/\True)/\(within s.hi 0 most=true->(True/\(within s.hi 0 most=true->within s.hi 0 most=true)/\True/\(within s.hi 0 most=true->within s.hi 0 most=true)/\True)/\(zE (iv s.lo)/\iv 0=iv 0/\zE (iv s.hi)/\True)/\Triple Try.prog 24 (s24 s.lo 0 s.hi)/\True/\True /\ ∀ (i10:Env),True)/\((within s.hi 0 most=true->within s.hi 0 most=true)/\(within s.hi 0 most=false->True))/\True/\True) (st':=ASt.mk [(4,bv (bif within s.hi 0 most then within s.lo 0 s.hi else false))] [] 112) ⟨tv,tv,tv,⟨⟨rfl,rfl,rfl,tv⟩,(t24 s.hi (0) (most)),tv,tv,(fun i0=>tv)⟩,tv,(fun h1=>⟨⟨tv,tv⟩,tv⟩),(fun h2=>⟨⟨(fun h3=>h2),tv⟩,tv⟩),(fun h4=>⟨⟨tv,tv⟩,tv⟩),(fun h5=>⟨⟨(fun h6=>h5),tv⟩,tv⟩),(fun h7=>⟨⟨tv,(fun h8=>h7),tv,(fun h9=>h7),tv⟩,⟨rfl,rfl,rfl,tv⟩,(t24 s.lo (0) s.hi),tv,tv,(fun i10=>tv)⟩),⟨(fun h11=>h11),(fun h12=>tv)⟩,tv,tv⟩ ?_
 refine swp_ret ?_
 exact rQ [] ((True/\True)/\(zN (bv (bif within s.hi 0 most then within s.lo 0 s.hi else false)) (bv (isSpan s most)))/\T3) ⟨⟨tv,tv⟩,⟨(congrArg bv (o0)),rfl⟩,rfl,rfl,rfl⟩
theorem t105 (s:Span) (most:Int):Triple Try.prog 105 (s105 s most):=by
 apply w105
 unfold isSpan; cases within s.hi 0 most <;> rfl
theorem w76 (n:Int) (lo:Int) (hi:Int) :
  Triple Try.prog 76 (s76 n lo hi):=by
 refine triple_of Try.func76 rfl Try.call76 T0_ok _ rfl rfl rfl rfl (Nat.le_of_ble_eq_true (by kernel_rfl)) (fun _ _ _ _ h=>h) ?_
 intro _ C hC _ hE
 obtain ⟨P,w0,E0,av,hA⟩:=C
 subst hC
 refine swp_seq ?_
 refine sQ (kt:=[0,1,2]) (kh:=[]) (q:=True/\True) (st':=ASt.mk [(0,iv n),(1,iv lo),(2,iv hi)] [] 8) ⟨tv,tv⟩ ?_
 refine swp_seq ?_
 refine sC (cs:=[(3,CallSpec.eq (s24 n lo hi) [true,true,true])]) (kt:=[6]) (kh:=[]) (q:=True/\True/\True/\((iv n=iv n/\iv lo=iv lo/\iv hi=iv hi/\True)/\Triple Try.prog 24 (s24 n lo hi)/\True/\True /\ ∀ (i0:Env),True)/\True/\True) (st':=ASt.mk [(6,bv (within n lo hi))] [] 48) ⟨tv,tv,tv,⟨⟨rfl,rfl,rfl,tv⟩,(t24 (n) (lo) (hi)),tv,tv,(fun i0=>tv)⟩,tv,tv⟩ ?_
 refine swp_ret ?_
 exact rQ [] ((True/\True)/\(zM (bv (within n lo hi)))/\T3) ⟨⟨tv,tv⟩,⟨rfl,rfl⟩,rfl,rfl,rfl⟩
theorem t76 (n lo hi:Int):Triple Try.prog 76 (s76 n lo hi):=w76 n lo hi
theorem w112 (n:Int) (lo:Int) (hi:Int)
  (o0:(bif decide (lo<=n) then decide (n<=hi) else false)=within n lo hi) :
  Triple Try.prog 112 (s112 n lo hi):=by
 refine triple_of Try.func112 rfl Try.call112 T0_ok _ rfl rfl rfl rfl (Nat.le_of_ble_eq_true (by kernel_rfl)) (fun _ _ _ _ h=>h) ?_
 intro _ C hC _ hE
 obtain ⟨P,w0,E0,av,hA⟩:=C
 subst hC
 refine swp_seq ?_
 refine sQ (kt:=[0,1,2]) (kh:=[]) (q:=True/\True) (st':=ASt.mk [(0,iv n),(1,iv lo),(2,iv hi)] [] 8) ⟨tv,tv⟩ ?_
 refine swp_seq ?_
 refine sQ (kt:=[6]) (kh:=[]) (q:=True/\True/\True/\True/\(decide (lo<=n)=true->(True/\True)/\True)/\(decide (lo<=n)=true->(True/\True)/\True)/\(decide (lo<=n)=true->((decide (lo<=n)=true->decide (lo<=n)=true)/\(decide (lo<=n)=true->decide (lo<=n)=true)/\True)/\True)/\((decide (lo<=n)=true->decide (lo<=n)=true)/\(decide (lo<=n)=false->True))/\True/\True) (st':=ASt.mk [(6,bv (bif decide (lo<=n) then decide (n<=hi) else false))] [] 80) ⟨tv,tv,tv,tv,(fun h0=>⟨⟨tv,tv⟩,tv⟩),(fun h1=>⟨⟨tv,tv⟩,tv⟩),(fun h2=>⟨⟨(fun h3=>h2),(fun h4=>h2),tv⟩,tv⟩),⟨(fun h5=>h5),(fun h6=>tv)⟩,tv,tv⟩ ?_
 refine swp_ret ?_
 exact rQ [] ((True/\True)/\(zN (bv (bif decide (lo<=n) then decide (n<=hi) else false)) (bv (within n lo hi)))/\T3) ⟨⟨tv,tv⟩,⟨(congrArg bv (o0)),rfl⟩,rfl,rfl,rfl⟩
theorem t112 (n lo hi:Int):Triple Try.prog 112 (s112 n lo hi):=by
 refine w112 n lo hi ?_
 unfold within; cases decide (lo<=n) <;> rfl
theorem w79 (r:Run) (n:Int)
  (o0:fits r->inI ((↑(r.machines.length):Int) - 1))
  (o1:fits r->within n 0 ((↑(r.machines.length):Int) - 1)=isMachine r n) :
  Triple Try.prog 79 (s79 r n):=by
 refine triple_of Try.func79 rfl Try.call79 T0_ok _ rfl rfl rfl rfl (Nat.le_of_ble_eq_true (by kernel_rfl)) (fun _ _ _ _ h=>h) ?_
 intro hp C hC _ hE
 obtain ⟨P,w0,E0,av,hA⟩:=C
 subst hC
 refine swp_seq ?_
 refine sQ (kt:=[1,2]) (kh:=[0]) (q:=tn 2) (st':=ASt.mk [(1,iv n),(2,.ptr 0 [])] [(0,.cells 25 (cRun r))] 16) (tp 2) ?_
 refine swp_seq ?_
 refine sC (cs:=[(5,CallSpec.eq (s112 n 0 ((↑(r.machines.length):Int) - 1)) [true,true,true])]) (kt:=[4]) (kh:=[]) (q:=True/\True/\True/\True/\inI ((↑(r.machines.length):Int) - 1)/\((iv n=iv n/\iv 0=iv 0/\zE (iv ((↑(r.machines.length):Int) - 1))/\True)/\Triple Try.prog 112 (s112 n 0 ((↑(r.machines.length):Int) - 1))/\True/\True /\ ∀ (i0:Env),True)/\True/\True) (st':=ASt.mk [(4,bv (within n 0 ((↑(r.machines.length):Int) - 1)))] [] 72) ⟨tv,tv,tv,tv,(o0 hp),⟨⟨rfl,rfl,rfl,tv⟩,(t112 (n) (0) ((↑(r.machines.length):Int) - 1)),tv,tv,(fun i0=>tv)⟩,tv,tv⟩ ?_
 refine swp_ret ?_
 exact rQ [] ((True/\True)/\(zN (bv (within n 0 ((↑(r.machines.length):Int) - 1))) (bv (isMachine r n)))/\T3) ⟨⟨tv,tv⟩,⟨(congrArg bv (o1 hp)),rfl⟩,rfl,rfl,rfl⟩
theorem t79 (r:Run) (n:Int):Triple Try.prog 79 (s79 r n):=by
 apply w79
 all_goals (try ((repeat intro _) <;> (try simp only [v0,v1,v2,v3,v4,v5,v6,v7,v8,v9,inI,fits,Go.Sh.small] at *) <;> first | (exact rfl) | omega | exact vz | (simp_all; done) | (simp_all; omega)))
theorem w86 (so:Int) (not:Int) (all:Int)
 (o0:decide (all=so)=true->1=known3 so not all)
 (o1:decide (all=so)=false->decide (all=not)=true->2=known3 so not all)
 (o2:decide (all=so)=false->decide (all=not)=false->3=known3 so not all) :
  Triple Try.prog 86 (s86 so not all):=by
 refine triple_of Try.func86 rfl Try.call86 T0_ok _ rfl rfl rfl rfl (Nat.le_of_ble_eq_true (by kernel_rfl)) (fun _ _ _ _ h=>h) ?_
 intro _ C hC _ hE
 obtain ⟨P,w0,E0,av,hA⟩:=C
 subst hC
 refine swp_seq ?_
 refine sQ (kt:=[0,1,2]) (kh:=[]) (q:=True/\True) (st':=ASt.mk [(0,iv so),(1,iv not),(2,iv all)] [] 8) ⟨tv,tv⟩ ?_
 refine swp_seq (swp_seq ?_)
 refine sQ (kt:=[0,1,7]) (kh:=[]) (q:=True/\True) (st':=ASt.mk [(0,iv so),(1,iv not),(7,iv all)] [] 16) ⟨tv,tv⟩ ?_
 refine swp_block (swp_seq ?_)
 refine sQ (kt:=[1,7,8]) (kh:=[]) (q:=tn 3) (st':=ASt.mk [(1,iv not),(7,iv all),(8,bv (decide (all=so)))] [] 40) (tp 3) ?_
 refine swp_cond (decide (all=so)) (by kernel_rfl) (fun h0 => ?_) (fun h0 => ?_)
 ·refine swp_seq ?_
  refine sQ (kt:=[6]) (kh:=[]) (q:=True/\True) (st':=ASt.mk [(6,iv 1)] [] 48) ⟨tv,tv⟩ ?_
  refine swp_ret ?_
  exact rQ [] ((True/\True)/\(zN (iv 1) (iv (known3 so not all)))/\T3) ⟨⟨tv,tv⟩,⟨(congrArg iv (o0 h0)),rfl⟩,rfl,rfl,rfl⟩
 ·refine swp_seq ?_
  refine sQ (kt:=[11]) (kh:=[]) (q:=tn 3) (st':=ASt.mk [(11,bv (decide (all=not)))] [] 64) (tp 3) ?_
  refine swp_cond (decide (all=not)) (by kernel_rfl) (fun h1 => ?_) (fun h1 => ?_)
  ·refine swp_seq ?_
   refine sQ (kt:=[6]) (kh:=[]) (q:=True/\True) (st':=ASt.mk [(6,iv 2)] [] 72) ⟨tv,tv⟩ ?_
   refine swp_ret ?_
   exact rQ [] ((True/\True)/\(zN (iv 2) (iv (known3 so not all)))/\T3) ⟨⟨tv,tv⟩,⟨(congrArg iv (o1 h0 h1)),rfl⟩,rfl,rfl,rfl⟩
  ·refine swp_skip (swp_seq ?_)
   refine sQ (kt:=[6]) (kh:=[]) (q:=True/\True) (st':=ASt.mk [(6,iv 3)] [] 72) ⟨tv,tv⟩ ?_
   refine swp_ret ?_
   exact rQ [] ((True/\True)/\(zN (iv 3) (iv (known3 so not all)))/\T3) ⟨⟨tv,tv⟩,⟨(congrArg iv (o2 h0 h1)),rfl⟩,rfl,rfl,rfl⟩
theorem t86 (so not all:Int):Triple Try.prog 86 (s86 so not all):=by
 apply w86 <;> ((repeat intro _); simp_all [known3])
theorem w29 (lo:Int) (hi:Int) :
  Triple Try.prog 29 (s29 lo hi):=by
 refine triple_of Try.func29 rfl Try.call29 T0_ok _ rfl rfl rfl rfl (Nat.le_of_ble_eq_true (by kernel_rfl)) (fun _ _ _ _ h=>h) ?_
 intro _ C hC _ hE
 obtain ⟨P,w0,E0,av,hA⟩:=C
 subst hC
 refine swp_seq ?_
 refine sQ (kt:=[0,1,4]) (kh:=[0]) (q:=True/\True) (st':=ASt.mk [(0,iv lo),(1,iv hi),(4,.ptr 0 [])] [(0,.cells 37 [iv 0,iv 0])] 8) ⟨tv,tv⟩ ?_
 refine swp_seq ?_
 refine sQ (kt:=[4]) (kh:=[0]) (q:=tn 4) (st':=ASt.mk [(4,.ptr 0 [])] [(0,.cells 37 [iv lo,iv hi])] 40) (tp 4) ?_
 refine swp_ret ?_
 exact rQ [] ((True/\True)/\((zM (iv lo))/\(zM (iv hi))/\True)/\T3) ⟨⟨tv,tv⟩,⟨⟨rfl,rfl⟩,⟨rfl,rfl⟩,tv⟩,rfl,rfl,rfl⟩
theorem t29 (lo hi:Int):Triple Try.prog 29 (s29 lo hi):=w29 lo hi
abbrev z63_1 (r:Run) (x33:Nat):LoopAnn:=Hint.ann (h63b r x33) [(1,AV.ptr 0 []),(3,iv (x33:Int)),(4,AV.ptr 10288 [])] [(0,OB.cells 25 (cRun r)),(10288,OB.cells 42 (cMach (mach r x33)))] 20408
abbrev z63_2 (r:Run) (x50:Nat):LoopAnn:=Hint.ann (h63d r x50) [(1,AV.ptr 0 []),(6,iv (x50:Int)),(7,AV.ptr 20336 [])] [(0,OB.cells 25 (cRun r)),(20336,OB.cells 32 (cFnd (fnd r x50)))] 30608
abbrev z63_3 (r:Run):LoopAnn:=Hint.ann (h63a r) [(1,AV.ptr 0 [])] [(0,OB.cells 25 (cRun r))] 10208
abbrev z63_4 (r:Run):LoopAnn:=Hint.ann (h63c r) [(1,AV.ptr 0 [])] [(0,OB.cells 25 (cRun r))] 20256
abbrev q63_1 (r:Run) (C:Prop):Prop:=fits r->(bif bif bif !within r.plates 1 3 then true else !within r.last 1 30 then true else !within (↑(r.machines.length):Int) 1 3 then true else decide (6 < (↑(r.found.length):Int)))=false->C
abbrev q63_2 (r:Run) (C:Nat->Prop):Prop:=q63_1 r (∀ (x33:Nat),(x33<=r.machines.length /\ ∀ (j:Nat),j < x33->okMachA r (mach r j)=true)->decide ((x33:Int) < (↑(r.machines.length):Int))=true->C x33)
abbrev q63_3 (r:Run) (C:Nat->Prop):Prop:=q63_2 r fun x33=>(bif !decide ((↑((mach r x33).changes.length):Int)=r.plates) then true else !within (mach r x33).rate 0 9)=false->C x33
abbrev q63_4 (r:Run) (C:Nat->Nat->Prop):Prop:=q63_3 r fun x33 => ∀ (x46:Nat),(x46<=(mach r x33).changes.length /\ ∀ (j:Nat),j < x46->isSpan (chg (mach r x33) j) r.last=true)->C x33 x46
abbrev q63_5 (r:Run) (C:Nat->Nat->Prop):Prop:=q63_4 r fun x33 x46=>decide ((x46:Int) < (↑((mach r x33).changes.length):Int))=true->C x33 x46
abbrev q63_6 (r:Run) (C:Nat->Nat->Prop):Prop:=q63_5 r fun x33 x46=>(!isSpan ((mach r x33).changes.getD x46 default) r.last)=false->C x33 x46
abbrev q63_7 (r:Run) (C:Nat->Nat->Prop):Prop:=q63_4 r fun x33 x46=>decide ((x46:Int) < (↑((mach r x33).changes.length):Int))=false->C x33 x46
abbrev q63_8 (r:Run) (C:Nat->Prop):Prop:=q63_1 r (∀ (x33:Nat),(x33<=r.machines.length /\ ∀ (j:Nat),j < x33->okMachA r (mach r j)=true)->decide ((x33:Int) < (↑(r.machines.length):Int))=false->C x33)
abbrev q63_9 (r:Run) (C:Nat->Nat->Prop):Prop:=q63_8 r fun x33 => ∀ (x50:Nat),(x50<=r.found.length /\ ∀ (j:Nat),j < x50->okFndA r (fnd r j)=true)->decide ((x50:Int) < (↑(r.found.length):Int))=true->C x33 x50
abbrev q63_10 (r:Run) (C:Nat->Nat->Prop):Prop:=q63_9 r fun x33 x50=>(!bif bif !within (fnd r x50).minute 0 (r.last - 1) then true else !decide ((↑((fnd r x50).new.length):Int)=r.plates) then true else decide ((↑((fnd r x50).frm.length):Int)=0))=true->C x33 x50
abbrev q63_11 (r:Run) (C:Nat->Nat->Prop):Prop:=q63_9 r fun x33 x50=>(bif bif bif !within (fnd r x50).minute 0 (r.last - 1) then true else !decide ((↑((fnd r x50).new.length):Int)=r.plates) then true else decide ((↑((fnd r x50).frm.length):Int)=0) then true else !rising (fnd r x50).frm 0 ((↑(r.machines.length):Int) - 1))=false->C x33 x50
abbrev q63_12 (r:Run) (C:Nat->Nat->Nat->Prop):Prop:=q63_11 r fun x33 x50 => ∀ (x94:Nat),(x94<=(fnd r x50).new.length /\ ∀ (j:Nat),j < x94->within ((fnd r x50).new.getD j 0) (-1) 1=true)->decide ((x94:Int) < (↑((fnd r x50).new.length):Int))=true->C x33 x50 x94
abbrev q63_13 (r:Run) (C:Nat->Nat->Nat->Prop):Prop:=q63_12 r fun x33 x50 x94=>(!within ((fnd r x50).new.getD x94 0) (-1) 1)=false->C x33 x50 x94
abbrev q63_14 (r:Run) (C:Nat->Nat->Nat->Prop):Prop:=q63_11 r fun x33 x50 => ∀ (x94:Nat),(x94<=(fnd r x50).new.length /\ ∀ (j:Nat),j < x94->within ((fnd r x50).new.getD j 0) (-1) 1=true)->decide ((x94:Int) < (↑((fnd r x50).new.length):Int))=false->C x33 x50 x94
theorem w63 (r:Run)
 (o0:fits r->(!within r.plates 1 3)=false->(!!within r.plates 1 3)=true)
 (o1:fits r->(bif !within r.plates 1 3 then true else !within r.last 1 30)=false->(!bif !within r.plates 1 3 then true else !within r.last 1 30)=true)
 (o2:fits r->(bif bif !within r.plates 1 3 then true else !within r.last 1 30 then true else !within (↑(r.machines.length):Int) 1 3)=false->(!bif bif !within r.plates 1 3 then true else !within r.last 1 30 then true else !within (↑(r.machines.length):Int) 1 3)=true)
 (o3:fits r->(bif bif bif !within r.plates 1 3 then true else !within r.last 1 30 then true else !within (↑(r.machines.length):Int) 1 3 then true else decide (6 < (↑(r.found.length):Int)))=true->60=check r)
 (o4:q63_1 r (0=(↑0:Int)))
 (o5:q63_1 r (0<=r.machines.length /\ ∀ (j:Nat),j < 0->okMachA r (mach r j)=true))
 (o6:q63_2 r fun x33=>0<=(x33:Int))
 (o7:q63_2 r fun x33=>(x33:Int) < (↑(r.machines.length):Int))
 (o8:q63_2 r fun x33=>(!decide ((↑((mach r x33).changes.length):Int)=r.plates))=false->(!!decide ((↑((mach r x33).changes.length):Int)=r.plates))=true)
 (o9:q63_2 r fun x33=>(bif !decide ((↑((mach r x33).changes.length):Int)=r.plates) then true else !within (mach r x33).rate 0 9)=true->60=check r)
 (o10:q63_3 r fun x33=>0=(↑0:Int))
 (o11:q63_3 r fun x33=>0<=(mach r x33).changes.length /\ ∀ (j:Nat),j < 0->isSpan (chg (mach r x33) j) r.last=true)
 (o12:q63_5 r fun x33 x46=>0<=(x46:Int))
 (o13:q63_5 r fun x33 x46=>(x46:Int) < (↑((mach r x33).changes.length):Int))
 (o14:q63_5 r fun x33 x46=>(!isSpan ((mach r x33).changes.getD x46 default) r.last)=true->60=check r)
 (o15:q63_6 r fun x33 x46=>inI ((x46:Int) + 1))
 (o16:q63_6 r fun x33 x46=>(x46:Int) + 1=(↑(x46 + 1):Int))
 (o17:q63_6 r fun x33 x46=>x46 + 1<=(mach r x33).changes.length /\ ∀ (j:Nat),j < x46 + 1->isSpan (chg (mach r x33) j) r.last=true)
 (o18:q63_6 r fun x33 x46=>(mach r x33).changes.length - (x46 + 1) < (mach r x33).changes.length - x46)
 (o19:q63_7 r fun x33 x46=>inI ((x33:Int) + 1))
 (o20:q63_7 r fun x33 x46=>(x33:Int) + 1=(↑(x33 + 1):Int))
 (o21:q63_7 r fun x33 x46=>x33 + 1<=r.machines.length /\ ∀ (j:Nat),j < x33 + 1->okMachA r (mach r j)=true)
 (o22:q63_7 r fun x33 x46=>r.machines.length - (x33 + 1) < r.machines.length - x33)
 (o23:q63_8 r fun x33=>0=(↑0:Int))
 (o24:q63_8 r fun x33=>0<=r.found.length /\ ∀ (j:Nat),j < 0->okFndA r (fnd r j)=true)
 (o25:q63_9 r fun x33 x50=>0<=(x50:Int))
 (o26:q63_9 r fun x33 x50=>(x50:Int) < (↑(r.found.length):Int))
 (o27:q63_9 r fun x33 x50=>inI (r.last - 1))
 (o28:q63_9 r fun x33 x50=>(!within (fnd r x50).minute 0 (r.last - 1))=false->(!!within (fnd r x50).minute 0 (r.last - 1))=true)
 (o29:q63_9 r fun x33 x50=>(bif !within (fnd r x50).minute 0 (r.last - 1) then true else !decide ((↑((fnd r x50).new.length):Int)=r.plates))=false->(!bif !within (fnd r x50).minute 0 (r.last - 1) then true else !decide ((↑((fnd r x50).new.length):Int)=r.plates))=true)
 (o30:q63_10 r fun x33 x50=>inI ((↑(r.machines.length):Int) - 1))
 (o31:q63_10 r fun x33 x50=>(fnd r x50).frm.length<=1125899906842624)
 (o32:q63_9 r fun x33 x50=>(bif bif !within (fnd r x50).minute 0 (r.last - 1) then true else !decide ((↑((fnd r x50).new.length):Int)=r.plates) then true else decide ((↑((fnd r x50).frm.length):Int)=0))=false->(!bif bif !within (fnd r x50).minute 0 (r.last - 1) then true else !decide ((↑((fnd r x50).new.length):Int)=r.plates) then true else decide ((↑((fnd r x50).frm.length):Int)=0))=true)
 (o33:q63_9 r fun x33 x50=>(bif bif bif !within (fnd r x50).minute 0 (r.last - 1) then true else !decide ((↑((fnd r x50).new.length):Int)=r.plates) then true else decide ((↑((fnd r x50).frm.length):Int)=0) then true else !rising (fnd r x50).frm 0 ((↑(r.machines.length):Int) - 1))=true->60=check r)
 (o34:q63_11 r fun x33 x50=>0=(↑0:Int))
 (o35:q63_11 r fun x33 x50=>0<=(fnd r x50).new.length /\ ∀ (j:Nat),j < 0->within ((fnd r x50).new.getD j 0) (-1) 1=true)
 (o36:q63_12 r fun x33 x50 x94=>0<=(x94:Int))
 (o37:q63_12 r fun x33 x50 x94=>(x94:Int) < (↑((fnd r x50).new.length):Int))
 (o38:q63_12 r fun x33 x50 x94=>(!within ((fnd r x50).new.getD x94 0) (-1) 1)=true->60=check r)
 (o39:q63_13 r fun x33 x50 x94=>inI ((x94:Int) + 1))
 (o40:q63_13 r fun x33 x50 x94=>(x94:Int) + 1=(↑(x94 + 1):Int))
 (o41:q63_13 r fun x33 x50 x94=>x94 + 1<=(fnd r x50).new.length /\ ∀ (j:Nat),j < x94 + 1->within ((fnd r x50).new.getD j 0) (-1) 1=true)
 (o42:q63_13 r fun x33 x50 x94=>(fnd r x50).new.length - (x94 + 1) < (fnd r x50).new.length - x94)
 (o43:q63_14 r fun x33 x50 x94=>inI ((x50:Int) + 1))
 (o44:q63_14 r fun x33 x50 x94=>(x50:Int) + 1=(↑(x50 + 1):Int))
 (o45:q63_14 r fun x33 x50 x94=>x50 + 1<=r.found.length /\ ∀ (j:Nat),j < x50 + 1->okFndA r (fnd r j)=true)
 (o46:q63_14 r fun x33 x50 x94=>r.found.length - (x50 + 1) < r.found.length - x50)
 (o47:q63_8 r fun x33 => ∀ (x50:Nat),(x50<=r.found.length /\ ∀ (j:Nat),j < x50->okFndA r (fnd r j)=true)->decide ((x50:Int) < (↑(r.found.length):Int))=false->0=check r) :
  Triple Try.prog 63 (s63 r):=by
 refine triple_of Try.func63 rfl Try.call63 T0_ok _ rfl rfl rfl rfl (Nat.le_of_ble_eq_true (by kernel_rfl)) (fun _ _ _ _ h=>h) ?_
 intro hp C hC _ hE
 obtain ⟨P,w0,E0,av,hA⟩:=C
 subst hC
 refine swp_seq ?_
 refine sQ (kt:=[1]) (kh:=[0]) (q:=tn 2) (st':=ASt.mk [(1,.ptr 0 [])] [(0,.cells 25 (cRun r))] 16) (tp 2) ?_
 refine swp_seq (swp_seq ?_)
 refine sC (cs:=[(2,CallSpec.eq (s76 r.plates 1 3) [true,true,true]),(7,CallSpec.eq (s76 r.last 1 30) [true,true,true]),(14,CallSpec.eq (s76 (↑(r.machines.length):Int) 1 3) [true,true,true])]) (kt:=[1,31]) (kh:=[0]) (q:=True/\True/\((zE (iv r.plates)/\iv 1=iv 1/\iv 3=iv 3/\True)/\Triple Try.prog 76 (s76 r.plates 1 3)/\True/\True /\ ∀ (i0:Env),True)/\True/\True/\((!!within r.plates 1 3)=true->(True/\True)/\True)/\((!!within r.plates 1 3)=true->(((!!within r.plates 1 3)=true->(!!within r.plates 1 3)=true)/\True)/\True)/\((!!within r.plates 1 3)=true->(True/\((!!within r.plates 1 3)=true->(!!within r.plates 1 3)=true)/\True/\True/\True)/\(zE (iv r.last)/\iv 1=iv 1/\iv 30=iv 30/\True)/\Triple Try.prog 76 (s76 r.last 1 30)/\True/\True /\ ∀ (i6:Env),True)/\((!!within r.plates 1 3)=true->(((!!within r.plates 1 3)=true->(!!within r.plates 1 3)=true)/\True)/\True)/\(((!within r.plates 1 3)=true->True)/\((!within r.plates 1 3)=false->(!!within r.plates 1 3)=true))/\True/\((!bif !within r.plates 1 3 then true else !within r.last 1 30)=true->(True/\True)/\True)/\((!bif !within r.plates 1 3 then true else !within r.last 1 30)=true->(((!bif !within r.plates 1 3 then true else !within r.last 1 30)=true->(!bif !within r.plates 1 3 then true else !within r.last 1 30)=true)/\True)/\True)/\((!bif !within r.plates 1 3 then true else !within r.last 1 30)=true->(((!bif !within r.plates 1 3 then true else !within r.last 1 30)=true->(!bif !within r.plates 1 3 then true else !within r.last 1 30)=true)/\True)/\True)/\((!bif !within r.plates 1 3 then true else !within r.last 1 30)=true->(True/\((!bif !within r.plates 1 3 then true else !within r.last 1 30)=true->(!bif !within r.plates 1 3 then true else !within r.last 1 30)=true)/\True/\True/\True)/\(zE (iv (↑(r.machines.length):Int))/\iv 1=iv 1/\iv 3=iv 3/\True)/\Triple Try.prog 76 (s76 (↑(r.machines.length):Int) 1 3)/\True/\True /\ ∀ (i18:Env),True)/\((!bif !within r.plates 1 3 then true else !within r.last 1 30)=true->(((!bif !within r.plates 1 3 then true else !within r.last 1 30)=true->(!bif !within r.plates 1 3 then true else !within r.last 1 30)=true)/\True)/\True)/\(((bif !within r.plates 1 3 then true else !within r.last 1 30)=true->True)/\((bif !within r.plates 1 3 then true else !within r.last 1 30)=false->(!bif !within r.plates 1 3 then true else !within r.last 1 30)=true))/\True/\((!bif bif !within r.plates 1 3 then true else !within r.last 1 30 then true else !within (↑(r.machines.length):Int) 1 3)=true->(True/\True)/\True)/\((!bif bif !within r.plates 1 3 then true else !within r.last 1 30 then true else !within (↑(r.machines.length):Int) 1 3)=true->(((!bif bif !within r.plates 1 3 then true else !within r.last 1 30 then true else !within (↑(r.machines.length):Int) 1 3)=true->(!bif bif !within r.plates 1 3 then true else !within r.last 1 30 then true else !within (↑(r.machines.length):Int) 1 3)=true)/\True)/\True)/\((!bif bif !within r.plates 1 3 then true else !within r.last 1 30 then true else !within (↑(r.machines.length):Int) 1 3)=true->(((!bif bif !within r.plates 1 3 then true else !within r.last 1 30 then true else !within (↑(r.machines.length):Int) 1 3)=true->(!bif bif !within r.plates 1 3 then true else !within r.last 1 30 then true else !within (↑(r.machines.length):Int) 1 3)=true)/\True)/\True)/\((!bif bif !within r.plates 1 3 then true else !within r.last 1 30 then true else !within (↑(r.machines.length):Int) 1 3)=true->(((!bif bif !within r.plates 1 3 then true else !within r.last 1 30 then true else !within (↑(r.machines.length):Int) 1 3)=true->(!bif bif !within r.plates 1 3 then true else !within r.last 1 30 then true else !within (↑(r.machines.length):Int) 1 3)=true)/\True/\True)/\True)/\(((bif bif !within r.plates 1 3 then true else !within r.last 1 30 then true else !within (↑(r.machines.length):Int) 1 3)=true->True)/\((bif bif !within r.plates 1 3 then true else !within r.last 1 30 then true else !within (↑(r.machines.length):Int) 1 3)=false->(!bif bif !within r.plates 1 3 then true else !within r.last 1 30 then true else !within (↑(r.machines.length):Int) 1 3)=true))/\True) (st':=ASt.mk [(1,.ptr 0 []),(31,bv (bif bif bif !within r.plates 1 3 then true else !within r.last 1 30 then true else !within (↑(r.machines.length):Int) 1 3 then true else decide (6 < (↑(r.found.length):Int))))] [(0,.cells 25 (cRun r))] 200) ⟨tv,tv,⟨⟨rfl,rfl,rfl,tv⟩,(t76 r.plates (1) (3)),tv,tv,(fun i0=>tv)⟩,tv,tv,(fun h1=>⟨⟨tv,tv⟩,tv⟩),(fun h2=>⟨⟨(fun h3=>h2),tv⟩,tv⟩),(fun h4=>⟨⟨tv,(fun h5=>h4),tv,tv,tv⟩,⟨rfl,rfl,rfl,tv⟩,(t76 r.last (1) (30)),tv,tv,(fun i6=>tv)⟩),(fun h7=>⟨⟨(fun h8=>h7),tv⟩,tv⟩),⟨(fun h9=>tv),(fun h10=>(o0 hp h10))⟩,tv,(fun h11=>⟨⟨tv,tv⟩,tv⟩),(fun h12=>⟨⟨(fun h13=>h12),tv⟩,tv⟩),(fun h14=>⟨⟨(fun h15=>h14),tv⟩,tv⟩),(fun h16=>⟨⟨tv,(fun h17=>h16),tv,tv,tv⟩,⟨rfl,rfl,rfl,tv⟩,(t76 ((↑(r.machines.length):Int)) (1) (3)),tv,tv,(fun i18=>tv)⟩),(fun h19=>⟨⟨(fun h20=>h19),tv⟩,tv⟩),⟨(fun h21=>tv),(fun h22=>(o1 hp h22))⟩,tv,(fun h23=>⟨⟨tv,tv⟩,tv⟩),(fun h24=>⟨⟨(fun h25=>h24),tv⟩,tv⟩),(fun h26=>⟨⟨(fun h27=>h26),tv⟩,tv⟩),(fun h28=>⟨⟨(fun h29=>h28),tv,tv⟩,tv⟩),⟨(fun h30=>tv),(fun h31=>(o2 hp h31))⟩,tv⟩ ?_
 refine swp_cond (bif bif bif !within r.plates 1 3 then true else !within r.last 1 30 then true else !within (↑(r.machines.length):Int) 1 3 then true else decide (6 < (↑(r.found.length):Int))) (by kernel_rfl) (fun h32 => ?_) (fun h32 => ?_)
 ·refine swp_seq ?_
  refine sQ (kt:=[2]) (kh:=[]) (q:=True/\True) (st':=ASt.mk [(2,iv 60)] [] 208) ⟨tv,tv⟩ ?_
  refine swp_ret ?_
  exact rQ [] ((True/\True)/\(zN (iv 60) (iv (check r)))/\T3) ⟨⟨tv,tv⟩,⟨(congrArg iv (o3 hp h32)),rfl⟩,rfl,rfl,rfl⟩
 ·refine swp_skip (swp_seq (swp_seq ?_))
  refine sQ (kt:=[1,3]) (kh:=[0]) (q:=True/\True) (st':=ASt.mk [(1,.ptr 0 []),(3,iv 0)] [(0,.cells 25 (cRun r))] 208) ⟨tv,tv⟩ ?_
  refine swp_block ?_
  refine swp_loopA (z63_3 r) (eQ hE [] [(0,.same 0)] [] [0] (((zP 0)/\(zN (iv 0) (iv (↑0:Int)))/\True)/\((zT (OB.cells 25 (cRun r)))/\True)/\T2) ⟨⟨⟨rfl,rfl⟩,⟨(congrArg iv (o4 hp h32)),rfl⟩,tv⟩,⟨⟨rfl,rfl⟩,tv⟩,rfl,rfl⟩) (o5 hp h32) (fun (x33:Nat) hx33 => ?_)
  refine swp_seq (swp_seq ?_)
  refine sQ (kt:=[1,3,36]) (kh:=[0]) (q:=tn 5) (st':=ASt.mk [(1,.ptr 0 []),(3,iv (x33:Int)),(36,bv (decide ((x33:Int) < (↑(r.machines.length):Int))))] [(0,.cells 25 (cRun r))] 10248) (tp 5) ?_
  refine swp_cond (decide ((x33:Int) < (↑(r.machines.length):Int))) (by kernel_rfl) (fun h34 => ?_) (fun h34 => ?_)
  ·refine swp_skip (swp_seq (swp_block (swp_seq ?_)))
   refine sQ (kt:=[1,3,4]) (kh:=[0,10288]) (q:=True/\True/\True/\(0<=(x33:Int)/\(x33:Int) < (↑(r.machines.length):Int))/\tn 3) (st':=ASt.mk [(1,.ptr 0 []),(3,iv (x33:Int)),(4,.ptr 10288 [])] [(0,.cells 25 (cRun r)),(10288,.cells 42 (cMach (mach r x33)))] 10304) ⟨tv,tv,tv,⟨(o6 hp h32 x33 hx33 h34),(o7 hp h32 x33 hx33 h34)⟩,tp 3⟩ ?_
   refine swp_seq (swp_seq ?_)
   refine sC (cs:=[(9,CallSpec.eq (s76 (mach r x33).rate 0 9) [true,true,true])]) (kt:=[1,3,4,55]) (kh:=[0,10288]) (q:=True/\True/\True/\True/\True/\True/\True/\((!!decide ((↑((mach r x33).changes.length):Int)=r.plates))->(True/\True)/\True)/\((!!decide ((↑((mach r x33).changes.length):Int)=r.plates))->(((!!decide ((↑((mach r x33).changes.length):Int)=r.plates))->(!!decide ((↑((mach r x33).changes.length):Int)=r.plates))=true)/\True)/\True)/\((!!decide ((↑((mach r x33).changes.length):Int)=r.plates))->(True/\((!!decide ((↑((mach r x33).changes.length):Int)=r.plates))->(!!decide ((↑((mach r x33).changes.length):Int)=r.plates))=true)/\True/\True/\True)/\(zE (iv (mach r x33).rate)/\iv 0=iv 0/\iv 9=iv 9/\True)/\Triple Try.prog 76 (s76 (mach r x33).rate 0 9)/\True/\True /\ ∀ (i40:Env),True)/\((!!decide ((↑((mach r x33).changes.length):Int)=r.plates))->(((!!decide ((↑((mach r x33).changes.length):Int)=r.plates))->(!!decide ((↑((mach r x33).changes.length):Int)=r.plates))=true)/\True)/\True)/\(((!decide ((↑((mach r x33).changes.length):Int)=r.plates))->True)/\((!decide ((↑((mach r x33).changes.length):Int)=r.plates))=false->(!!decide ((↑((mach r x33).changes.length):Int)=r.plates))=true))/\True) (st':=ASt.mk [(1,.ptr 0 []),(3,iv (x33:Int)),(4,.ptr 10288 []),(55,bv (bif !decide ((↑((mach r x33).changes.length):Int)=r.plates) then true else !within (mach r x33).rate 0 9))] [(0,.cells 25 (cRun r)),(10288,.cells 42 (cMach (mach r x33)))] 10400) ⟨tv,tv,tv,tv,tv,tv,tv,(fun h35=>⟨⟨tv,tv⟩,tv⟩),(fun h36=>⟨⟨(fun h37=>h36),tv⟩,tv⟩),(fun h38=>⟨⟨tv,(fun h39=>h38),tv,tv,tv⟩,⟨rfl,rfl,rfl,tv⟩,(t76 (mach r x33).rate (0) (9)),tv,tv,(fun i40=>tv)⟩),(fun h41=>⟨⟨(fun h42=>h41),tv⟩,tv⟩),⟨(fun h43=>tv),(fun h44=>(o8 hp h32 x33 hx33 h34 h44))⟩,tv⟩ ?_
   refine swp_cond (bif !decide ((↑((mach r x33).changes.length):Int)=r.plates) then true else !within (mach r x33).rate 0 9) (by kernel_rfl) (fun h45 => ?_) (fun h45 => ?_)
   ·refine swp_seq ?_
    refine sQ (kt:=[2]) (kh:=[]) (q:=True/\True) (st':=ASt.mk [(2,iv 60)] [] 10408) ⟨tv,tv⟩ ?_
    refine swp_ret ?_
    exact rQ [] ((True/\True)/\(zN (iv 60) (iv (check r)))/\T3) ⟨⟨tv,tv⟩,⟨(congrArg iv (o9 hp h32 x33 hx33 h34 h45)),rfl⟩,rfl,rfl,rfl⟩
   ·refine swp_skip (swp_seq ?_)
    refine sQ (kt:=[1,3,4,5]) (kh:=[0,10288]) (q:=True/\True) (st':=ASt.mk [(1,.ptr 0 []),(3,iv (x33:Int)),(4,.ptr 10288 []),(5,iv 0)] [(0,.cells 25 (cRun r)),(10288,.cells 42 (cMach (mach r x33)))] 10408) ⟨tv,tv⟩ ?_
    refine swp_block ?_
    refine swp_loopA (z63_1 r x33) (eQ hE [] [(0,.same 0),(10288,.same 10288)] [3] [0,10288] (((zP 0)/\(zT (iv (x33:Int)))/\(zP 10288)/\(zN (iv 0) (iv (↑0:Int)))/\True)/\((zT (OB.cells 25 (cRun r)))/\(zT (OB.cells 42 (cMach (mach r x33))))/\True)/\T2) ⟨⟨⟨rfl,rfl⟩,⟨rfl,rfl⟩,⟨rfl,rfl⟩,⟨(congrArg iv (o10 hp h32 x33 hx33 h34 h45)),rfl⟩,tv⟩,⟨⟨rfl,rfl⟩,⟨rfl,rfl⟩,tv⟩,rfl,rfl⟩) (o11 hp h32 x33 hx33 h34 h45) (fun (x46:Nat) hx46 => ?_)
    refine swp_seq (swp_seq ?_)
    refine sQ (kt:=[1,3,4,5,60]) (kh:=[0,10288]) (q:=tn 5) (st':=ASt.mk [(1,.ptr 0 []),(3,iv (x33:Int)),(4,.ptr 10288 []),(5,iv (x46:Int)),(60,bv (decide ((x46:Int) < (↑((mach r x33).changes.length):Int))))] [(0,.cells 25 (cRun r)),(10288,.cells 42 (cMach (mach r x33)))] 20448) (tp 5) ?_
    refine swp_cond (decide ((x46:Int) < (↑((mach r x33).changes.length):Int))) (by kernel_rfl) (fun h47 => ?_) (fun h47 => ?_)
    ·refine swp_skip (swp_seq (swp_block (swp_seq ?_)))
     refine sC (cs:=[(7,CallSpec.eq (s105 ((mach r x33).changes.getD x46 default) r.last) [true,true])]) (kt:=[1,3,4,5,71]) (kh:=[0,10288]) (q:=True/\True/\True/\(0<=(x46:Int)/\(x46:Int) < (↑((mach r x33).changes.length):Int))/\True/\True/\True/\((zE (AV.agg (cSpan ((mach r x33).changes.getD x46 default)))/\zE (iv r.last)/\True)/\Triple Try.prog 105 (s105 ((mach r x33).changes.getD x46 default) r.last)/\True/\True /\ ∀ (i48:Env),True)/\True/\True) (st':=ASt.mk [(1,.ptr 0 []),(3,iv (x33:Int)),(4,.ptr 10288 []),(5,iv (x46:Int)),(71,bv !isSpan ((mach r x33).changes.getD x46 default) r.last)] [(0,.cells 25 (cRun r)),(10288,.cells 42 (cMach (mach r x33)))] 20520) ⟨tv,tv,tv,⟨(o12 hp h32 x33 hx33 h34 h45 x46 hx46 h47),(o13 hp h32 x33 hx33 h34 h45 x46 hx46 h47)⟩,tv,tv,tv,⟨⟨rfl,rfl,tv⟩,(t105 ((mach r x33).changes.getD x46 default) r.last),tv,tv,(fun i48=>tv)⟩,tv,tv⟩ ?_
     refine swp_cond (!isSpan ((mach r x33).changes.getD x46 default) r.last) (by kernel_rfl) (fun h49 => ?_) (fun h49 => ?_)
     ·refine swp_seq ?_
      refine sQ (kt:=[2]) (kh:=[]) (q:=True/\True) (st':=ASt.mk [(2,iv 60)] [] 20528) ⟨tv,tv⟩ ?_
      refine swp_ret ?_
      exact rQ [] ((True/\True)/\(zN (iv 60) (iv (check r)))/\T3) ⟨⟨tv,tv⟩,⟨(congrArg iv (o14 hp h32 x33 hx33 h34 h45 x46 hx46 h47 h49)),rfl⟩,rfl,rfl,rfl⟩
     ·refine swp_skip ?_
      refine sQ (kt:=[1,3,4,5]) (kh:=[0,10288]) (q:=True/\inI ((x46:Int) + 1)/\True/\True) (st':=ASt.mk [(1,.ptr 0 []),(3,iv (x33:Int)),(4,.ptr 10288 []),(5,iv ((x46:Int) + 1))] [(0,.cells 25 (cRun r)),(10288,.cells 42 (cMach (mach r x33)))] 20544) ⟨tv,(o15 hp h32 x33 hx33 h34 h45 x46 hx46 h47 h49),tv,tv⟩ ?_
      exact loop_next (z63_1 r x33) x46 (eQ hE [] [(0,.same 0),(10288,.same 10288)] [3] [0,10288] (((zP 0)/\(zT (iv (x33:Int)))/\(zP 10288)/\(zN (iv ((x46:Int) + 1)) (iv (↑(x46 + 1):Int)))/\True)/\((zT (OB.cells 25 (cRun r)))/\(zT (OB.cells 42 (cMach (mach r x33))))/\True)/\T2) ⟨⟨⟨rfl,rfl⟩,⟨rfl,rfl⟩,⟨rfl,rfl⟩,⟨(congrArg iv (o16 hp h32 x33 hx33 h34 h45 x46 hx46 h47 h49)),rfl⟩,tv⟩,⟨⟨rfl,rfl⟩,⟨rfl,rfl⟩,tv⟩,rfl,rfl⟩) (o17 hp h32 x33 hx33 h34 h45 x46 hx46 h47 h49) (o18 hp h32 x33 hx33 h34 h45 x46 hx46 h47 h49)
    ·refine swp_exit ?_
     refine sQ (kt:=[1,3]) (kh:=[0]) (q:=True/\inI ((x33:Int) + 1)/\True/\True) (st':=ASt.mk [(1,.ptr 0 []),(3,iv ((x33:Int) + 1))] [(0,.cells 25 (cRun r))] 20472) ⟨tv,(o19 hp h32 x33 hx33 h34 h45 x46 hx46 h47),tv,tv⟩ ?_
     exact loop_next (z63_3 r) x33 (eQ hE [] [(0,.same 0)] [] [0] (((zP 0)/\(zN (iv ((x33:Int) + 1)) (iv (↑(x33 + 1):Int)))/\True)/\((zT (OB.cells 25 (cRun r)))/\True)/\T2) ⟨⟨⟨rfl,rfl⟩,⟨(congrArg iv (o20 hp h32 x33 hx33 h34 h45 x46 hx46 h47)),rfl⟩,tv⟩,⟨⟨rfl,rfl⟩,tv⟩,rfl,rfl⟩) (o21 hp h32 x33 hx33 h34 h45 x46 hx46 h47) (o22 hp h32 x33 hx33 h34 h45 x46 hx46 h47)
  ·refine swp_exit (swp_seq (swp_seq ?_))
   refine sQ (kt:=[1,6]) (kh:=[0]) (q:=True/\True) (st':=ASt.mk [(1,.ptr 0 []),(6,iv 0)] [(0,.cells 25 (cRun r))] 10256) ⟨tv,tv⟩ ?_
   refine swp_block ?_
   refine swp_loopA (z63_4 r) (eQ hE [] [(0,.same 0)] [] [0] (((zP 0)/\(zN (iv 0) (iv (↑0:Int)))/\True)/\((zT (OB.cells 25 (cRun r)))/\True)/\T2) ⟨⟨⟨rfl,rfl⟩,⟨(congrArg iv (o23 hp h32 x33 hx33 h34)),rfl⟩,tv⟩,⟨⟨rfl,rfl⟩,tv⟩,rfl,rfl⟩) (o24 hp h32 x33 hx33 h34) (fun (x50:Nat) hx50 => ?_)
   refine swp_seq (swp_seq ?_)
   refine sQ (kt:=[1,6,76]) (kh:=[0]) (q:=tn 5) (st':=ASt.mk [(1,.ptr 0 []),(6,iv (x50:Int)),(76,bv (decide ((x50:Int) < (↑(r.found.length):Int))))] [(0,.cells 25 (cRun r))] 20296) (tp 5) ?_
   refine swp_cond (decide ((x50:Int) < (↑(r.found.length):Int))) (by kernel_rfl) (fun h51 => ?_) (fun h51 => ?_)
   ·refine swp_skip (swp_seq (swp_block (swp_seq ?_)))
    refine sQ (kt:=[1,6,7]) (kh:=[0,20336]) (q:=True/\True/\True/\(0<=(x50:Int)/\(x50:Int) < (↑(r.found.length):Int))/\tn 3) (st':=ASt.mk [(1,.ptr 0 []),(6,iv (x50:Int)),(7,.ptr 20336 [])] [(0,.cells 25 (cRun r)),(20336,.cells 32 (cFnd (fnd r x50)))] 20352) ⟨tv,tv,tv,⟨(o25 hp h32 x33 hx33 h34 x50 hx50 h51),(o26 hp h32 x33 hx33 h34 x50 hx50 h51)⟩,tp 3⟩ ?_
    refine swp_seq (swp_seq ?_)
    refine sC (cs:=[(5,CallSpec.eq (s76 (fnd r x50).minute 0 (r.last - 1)) [true,true,true]),(28,CallSpec.eq (s52 (fnd r x50).frm 0 ((↑(r.machines.length):Int) - 1)) [true,true,true])]) (kt:=[1,6,7,114]) (kh:=[0,20336]) (q:=True/\True/\True/\True/\inI (r.last - 1)/\((zE (iv (fnd r x50).minute)/\iv 0=iv 0/\zE (iv (r.last - 1))/\True)/\Triple Try.prog 76 (s76 (fnd r x50).minute 0 (r.last - 1))/\True/\True /\ ∀ (i52:Env),True)/\True/\True/\((!!within (fnd r x50).minute 0 (r.last - 1))=true->(True/\True)/\True)/\((!!within (fnd r x50).minute 0 (r.last - 1))=true->(((!!within (fnd r x50).minute 0 (r.last - 1))=true->(!!within (fnd r x50).minute 0 (r.last - 1))=true)/\True)/\True)/\((!!within (fnd r x50).minute 0 (r.last - 1))=true->(((!!within (fnd r x50).minute 0 (r.last - 1))=true->(!!within (fnd r x50).minute 0 (r.last - 1))=true)/\True)/\True)/\((!!within (fnd r x50).minute 0 (r.last - 1))=true->(True/\True)/\True)/\((!!within (fnd r x50).minute 0 (r.last - 1))=true->(((!!within (fnd r x50).minute 0 (r.last - 1))=true->(!!within (fnd r x50).minute 0 (r.last - 1))=true)/\True)/\True)/\((!!within (fnd r x50).minute 0 (r.last - 1))=true->(((!!within (fnd r x50).minute 0 (r.last - 1))=true->(!!within (fnd r x50).minute 0 (r.last - 1))=true)/\((!!within (fnd r x50).minute 0 (r.last - 1))=true->(!!within (fnd r x50).minute 0 (r.last - 1))=true)/\True)/\True)/\(((!within (fnd r x50).minute 0 (r.last - 1))=true->True)/\((!within (fnd r x50).minute 0 (r.last - 1))=false->(!!within (fnd r x50).minute 0 (r.last - 1))=true))/\True/\((!bif !within (fnd r x50).minute 0 (r.last - 1) then true else !decide ((↑((fnd r x50).new.length):Int)=r.plates))=true->(True/\True)/\True)/\((!bif !within (fnd r x50).minute 0 (r.last - 1) then true else !decide ((↑((fnd r x50).new.length):Int)=r.plates))=true->(((!bif !within (fnd r x50).minute 0 (r.last - 1) then true else !decide ((↑((fnd r x50).new.length):Int)=r.plates))=true->(!bif !within (fnd r x50).minute 0 (r.last - 1) then true else !decide ((↑((fnd r x50).new.length):Int)=r.plates))=true)/\True)/\True)/\((!bif !within (fnd r x50).minute 0 (r.last - 1) then true else !decide ((↑((fnd r x50).new.length):Int)=r.plates))=true->(((!bif !within (fnd r x50).minute 0 (r.last - 1) then true else !decide ((↑((fnd r x50).new.length):Int)=r.plates))=true->(!bif !within (fnd r x50).minute 0 (r.last - 1) then true else !decide ((↑((fnd r x50).new.length):Int)=r.plates))=true)/\True)/\True)/\((!bif !within (fnd r x50).minute 0 (r.last - 1) then true else !decide ((↑((fnd r x50).new.length):Int)=r.plates))=true->(((!bif !within (fnd r x50).minute 0 (r.last - 1) then true else !decide ((↑((fnd r x50).new.length):Int)=r.plates))=true->(!bif !within (fnd r x50).minute 0 (r.last - 1) then true else !decide ((↑((fnd r x50).new.length):Int)=r.plates))=true)/\True/\True)/\True)/\(((bif !within (fnd r x50).minute 0 (r.last - 1) then true else !decide ((↑((fnd r x50).new.length):Int)=r.plates))=true->True)/\((bif !within (fnd r x50).minute 0 (r.last - 1) then true else !decide ((↑((fnd r x50).new.length):Int)=r.plates))=false->(!bif !within (fnd r x50).minute 0 (r.last - 1) then true else !decide ((↑((fnd r x50).new.length):Int)=r.plates))=true))/\True/\((!bif bif !within (fnd r x50).minute 0 (r.last - 1) then true else !decide ((↑((fnd r x50).new.length):Int)=r.plates) then true else decide ((↑((fnd r x50).frm.length):Int)=0))=true->(True/\True)/\True)/\((!bif bif !within (fnd r x50).minute 0 (r.last - 1) then true else !decide ((↑((fnd r x50).new.length):Int)=r.plates) then true else decide ((↑((fnd r x50).frm.length):Int)=0))=true->(((!bif bif !within (fnd r x50).minute 0 (r.last - 1) then true else !decide ((↑((fnd r x50).new.length):Int)=r.plates) then true else decide ((↑((fnd r x50).frm.length):Int)=0))=true->(!bif bif !within (fnd r x50).minute 0 (r.last - 1) then true else !decide ((↑((fnd r x50).new.length):Int)=r.plates) then true else decide ((↑((fnd r x50).frm.length):Int)=0))=true)/\True)/\True)/\((!bif bif !within (fnd r x50).minute 0 (r.last - 1) then true else !decide ((↑((fnd r x50).new.length):Int)=r.plates) then true else decide ((↑((fnd r x50).frm.length):Int)=0))=true->(True/\True)/\True)/\((!bif bif !within (fnd r x50).minute 0 (r.last - 1) then true else !decide ((↑((fnd r x50).new.length):Int)=r.plates) then true else decide ((↑((fnd r x50).frm.length):Int)=0))=true->(((!bif bif !within (fnd r x50).minute 0 (r.last - 1) then true else !decide ((↑((fnd r x50).new.length):Int)=r.plates) then true else decide ((↑((fnd r x50).frm.length):Int)=0))=true->(!bif bif !within (fnd r x50).minute 0 (r.last - 1) then true else !decide ((↑((fnd r x50).new.length):Int)=r.plates) then true else decide ((↑((fnd r x50).frm.length):Int)=0))=true)/\True)/\True)/\((!bif bif !within (fnd r x50).minute 0 (r.last - 1) then true else !decide ((↑((fnd r x50).new.length):Int)=r.plates) then true else decide ((↑((fnd r x50).frm.length):Int)=0))=true->(((!bif bif !within (fnd r x50).minute 0 (r.last - 1) then true else !decide ((↑((fnd r x50).new.length):Int)=r.plates) then true else decide ((↑((fnd r x50).frm.length):Int)=0))=true->(!bif bif !within (fnd r x50).minute 0 (r.last - 1) then true else !decide ((↑((fnd r x50).new.length):Int)=r.plates) then true else decide ((↑((fnd r x50).frm.length):Int)=0))=true)/\True)/\True)/\((!bif bif !within (fnd r x50).minute 0 (r.last - 1) then true else !decide ((↑((fnd r x50).new.length):Int)=r.plates) then true else decide ((↑((fnd r x50).frm.length):Int)=0))=true->(((!bif bif !within (fnd r x50).minute 0 (r.last - 1) then true else !decide ((↑((fnd r x50).new.length):Int)=r.plates) then true else decide ((↑((fnd r x50).frm.length):Int)=0))=true->(!bif bif !within (fnd r x50).minute 0 (r.last - 1) then true else !decide ((↑((fnd r x50).new.length):Int)=r.plates) then true else decide ((↑((fnd r x50).frm.length):Int)=0))=true)/\True/\True)/\inI ((↑(r.machines.length):Int) - 1))/\((!bif bif !within (fnd r x50).minute 0 (r.last - 1) then true else !decide ((↑((fnd r x50).new.length):Int)=r.plates) then true else decide ((↑((fnd r x50).frm.length):Int)=0))=true->(True/\((!bif bif !within (fnd r x50).minute 0 (r.last - 1) then true else !decide ((↑((fnd r x50).new.length):Int)=r.plates) then true else decide ((↑((fnd r x50).frm.length):Int)=0))=true->(!bif bif !within (fnd r x50).minute 0 (r.last - 1) then true else !decide ((↑((fnd r x50).new.length):Int)=r.plates) then true else decide ((↑((fnd r x50).frm.length):Int)=0))=true)/\True/\((!bif bif !within (fnd r x50).minute 0 (r.last - 1) then true else !decide ((↑((fnd r x50).new.length):Int)=r.plates) then true else decide ((↑((fnd r x50).frm.length):Int)=0))=true->(!bif bif !within (fnd r x50).minute 0 (r.last - 1) then true else !decide ((↑((fnd r x50).new.length):Int)=r.plates) then true else decide ((↑((fnd r x50).frm.length):Int)=0))=true)/\True)/\(zE (aInts (fnd r x50).frm)/\iv 0=iv 0/\zE (iv ((↑(r.machines.length):Int) - 1))/\True)/\Triple Try.prog 52 (s52 (fnd r x50).frm 0 ((↑(r.machines.length):Int) - 1))/\(fnd r x50).frm.length<=1125899906842624/\True /\ ∀ (i88:Env),True)/\((!bif bif !within (fnd r x50).minute 0 (r.last - 1) then true else !decide ((↑((fnd r x50).new.length):Int)=r.plates) then true else decide ((↑((fnd r x50).frm.length):Int)=0))=true->(((!bif bif !within (fnd r x50).minute 0 (r.last - 1) then true else !decide ((↑((fnd r x50).new.length):Int)=r.plates) then true else decide ((↑((fnd r x50).frm.length):Int)=0))=true->(!bif bif !within (fnd r x50).minute 0 (r.last - 1) then true else !decide ((↑((fnd r x50).new.length):Int)=r.plates) then true else decide ((↑((fnd r x50).frm.length):Int)=0))=true)/\True)/\True)/\(((bif bif !within (fnd r x50).minute 0 (r.last - 1) then true else !decide ((↑((fnd r x50).new.length):Int)=r.plates) then true else decide ((↑((fnd r x50).frm.length):Int)=0))=true->True)/\((bif bif !within (fnd r x50).minute 0 (r.last - 1) then true else !decide ((↑((fnd r x50).new.length):Int)=r.plates) then true else decide ((↑((fnd r x50).frm.length):Int)=0))=false->(!bif bif !within (fnd r x50).minute 0 (r.last - 1) then true else !decide ((↑((fnd r x50).new.length):Int)=r.plates) then true else decide ((↑((fnd r x50).frm.length):Int)=0))=true))/\True) (st':=ASt.mk [(1,.ptr 0 []),(6,iv (x50:Int)),(7,.ptr 20336 []),(114,bv (bif bif bif !within (fnd r x50).minute 0 (r.last - 1) then true else !decide ((↑((fnd r x50).new.length):Int)=r.plates) then true else decide ((↑((fnd r x50).frm.length):Int)=0) then true else !rising (fnd r x50).frm 0 ((↑(r.machines.length):Int) - 1)))] [(0,.cells 25 (cRun r)),(20336,.cells 32 (cFnd (fnd r x50)))] 20600) ⟨tv,tv,tv,tv,(o27 hp h32 x33 hx33 h34 x50 hx50 h51),⟨⟨rfl,rfl,rfl,tv⟩,(t76 (fnd r x50).minute (0) (r.last - 1)),tv,tv,(fun i52=>tv)⟩,tv,tv,(fun h53=>⟨⟨tv,tv⟩,tv⟩),(fun h54=>⟨⟨(fun h55=>h54),tv⟩,tv⟩),(fun h56=>⟨⟨(fun h57=>h56),tv⟩,tv⟩),(fun h58=>⟨⟨tv,tv⟩,tv⟩),(fun h59=>⟨⟨(fun h60=>h59),tv⟩,tv⟩),(fun h61=>⟨⟨(fun h62=>h61),(fun h63=>h61),tv⟩,tv⟩),⟨(fun h64=>tv),(fun h65=>(o28 hp h32 x33 hx33 h34 x50 hx50 h51 h65))⟩,tv,(fun h66=>⟨⟨tv,tv⟩,tv⟩),(fun h67=>⟨⟨(fun h68=>h67),tv⟩,tv⟩),(fun h69=>⟨⟨(fun h70=>h69),tv⟩,tv⟩),(fun h71=>⟨⟨(fun h72=>h71),tv,tv⟩,tv⟩),⟨(fun h73=>tv),(fun h74=>(o29 hp h32 x33 hx33 h34 x50 hx50 h51 h74))⟩,tv,(fun h75=>⟨⟨tv,tv⟩,tv⟩),(fun h76=>⟨⟨(fun h77=>h76),tv⟩,tv⟩),(fun h78=>⟨⟨tv,tv⟩,tv⟩),(fun h79=>⟨⟨(fun h80=>h79),tv⟩,tv⟩),(fun h81=>⟨⟨(fun h82=>h81),tv⟩,tv⟩),(fun h83=>⟨⟨(fun h84=>h83),tv,tv⟩,(o30 hp h32 x33 hx33 h34 x50 hx50 h51 h83)⟩),(fun h85=>⟨⟨tv,(fun h86=>h85),tv,(fun h87=>h85),tv⟩,⟨rfl,rfl,rfl,tv⟩,(t52 (fnd r x50).frm (0) ((↑(r.machines.length):Int) - 1)),(o31 hp h32 x33 hx33 h34 x50 hx50 h51 h85),tv,(fun i88=>tv)⟩),(fun h89=>⟨⟨(fun h90=>h89),tv⟩,tv⟩),⟨(fun h91=>tv),(fun h92=>(o32 hp h32 x33 hx33 h34 x50 hx50 h51 h92))⟩,tv⟩ ?_
    refine swp_cond (bif bif bif !within (fnd r x50).minute 0 (r.last - 1) then true else !decide ((↑((fnd r x50).new.length):Int)=r.plates) then true else decide ((↑((fnd r x50).frm.length):Int)=0) then true else !rising (fnd r x50).frm 0 ((↑(r.machines.length):Int) - 1)) (by kernel_rfl) (fun h93 => ?_) (fun h93 => ?_)
    ·refine swp_seq ?_
     refine sQ (kt:=[2]) (kh:=[]) (q:=True/\True) (st':=ASt.mk [(2,iv 60)] [] 20608) ⟨tv,tv⟩ ?_
     refine swp_ret ?_
     exact rQ [] ((True/\True)/\(zN (iv 60) (iv (check r)))/\T3) ⟨⟨tv,tv⟩,⟨(congrArg iv (o33 hp h32 x33 hx33 h34 x50 hx50 h51 h93)),rfl⟩,rfl,rfl,rfl⟩
    ·refine swp_skip (swp_seq ?_)
     refine sQ (kt:=[1,6,7,8]) (kh:=[0,20336]) (q:=True/\True) (st':=ASt.mk [(1,.ptr 0 []),(6,iv (x50:Int)),(7,.ptr 20336 []),(8,iv 0)] [(0,.cells 25 (cRun r)),(20336,.cells 32 (cFnd (fnd r x50)))] 20608) ⟨tv,tv⟩ ?_
     refine swp_block ?_
     refine swp_loopA (z63_2 r x50) (eQ hE [] [(0,.same 0),(20336,.same 20336)] [6] [0,20336] (((zP 0)/\(zT (iv (x50:Int)))/\(zP 20336)/\(zN (iv 0) (iv (↑0:Int)))/\True)/\((zT (OB.cells 25 (cRun r)))/\(zT (OB.cells 32 (cFnd (fnd r x50))))/\True)/\T2) ⟨⟨⟨rfl,rfl⟩,⟨rfl,rfl⟩,⟨rfl,rfl⟩,⟨(congrArg iv (o34 hp h32 x33 hx33 h34 x50 hx50 h51 h93)),rfl⟩,tv⟩,⟨⟨rfl,rfl⟩,⟨rfl,rfl⟩,tv⟩,rfl,rfl⟩) (o35 hp h32 x33 hx33 h34 x50 hx50 h51 h93) (fun (x94:Nat) hx94 => ?_)
     refine swp_seq (swp_seq ?_)
     refine sQ (kt:=[1,6,7,8,119]) (kh:=[0,20336]) (q:=tn 5) (st':=ASt.mk [(1,.ptr 0 []),(6,iv (x50:Int)),(7,.ptr 20336 []),(8,iv (x94:Int)),(119,bv (decide ((x94:Int) < (↑((fnd r x50).new.length):Int))))] [(0,.cells 25 (cRun r)),(20336,.cells 32 (cFnd (fnd r x50)))] 30648) (tp 5) ?_
     refine swp_cond (decide ((x94:Int) < (↑((fnd r x50).new.length):Int))) (by kernel_rfl) (fun h95 => ?_) (fun h95 => ?_)
     ·refine swp_skip (swp_seq (swp_block (swp_seq ?_)))
      refine sC (cs:=[(5,CallSpec.eq (s76 ((fnd r x50).new.getD x94 0) (-1) 1) [true,true,true])]) (kt:=[1,6,7,8,128]) (kh:=[0,20336]) (q:=True/\True/\True/\(0<=(x94:Int)/\(x94:Int) < (↑((fnd r x50).new.length):Int))/\True/\((zE (iv ((fnd r x50).new.getD x94 0))/\zE (iv (-1))/\iv 1=iv 1/\True)/\Triple Try.prog 76 (s76 ((fnd r x50).new.getD x94 0) (-1) 1)/\True/\True /\ ∀ (i96:Env),True)/\True/\True) (st':=ASt.mk [(1,.ptr 0 []),(6,iv (x50:Int)),(7,.ptr 20336 []),(8,iv (x94:Int)),(128,bv !within ((fnd r x50).new.getD x94 0) (-1) 1)] [(0,.cells 25 (cRun r)),(20336,.cells 32 (cFnd (fnd r x50)))] 30704) ⟨tv,tv,tv,⟨(o36 hp h32 x33 hx33 h34 x50 hx50 h51 h93 x94 hx94 h95),(o37 hp h32 x33 hx33 h34 x50 hx50 h51 h93 x94 hx94 h95)⟩,tv,⟨⟨rfl,rfl,rfl,tv⟩,(t76 ((fnd r x50).new.getD x94 0) (-1) (1)),tv,tv,(fun i96=>tv)⟩,tv,tv⟩ ?_
      refine swp_cond (!within ((fnd r x50).new.getD x94 0) (-1) 1) (by kernel_rfl) (fun h97 => ?_) (fun h97 => ?_)
      ·refine swp_seq ?_
       refine sQ (kt:=[2]) (kh:=[]) (q:=True/\True) (st':=ASt.mk [(2,iv 60)] [] 30712) ⟨tv,tv⟩ ?_
       refine swp_ret ?_
       exact rQ [] ((True/\True)/\(zN (iv 60) (iv (check r)))/\T3) ⟨⟨tv,tv⟩,⟨(congrArg iv (o38 hp h32 x33 hx33 h34 x50 hx50 h51 h93 x94 hx94 h95 h97)),rfl⟩,rfl,rfl,rfl⟩
      ·refine swp_skip ?_
       refine sQ (kt:=[1,6,7,8]) (kh:=[0,20336]) (q:=True/\inI ((x94:Int) + 1)/\True/\True) (st':=ASt.mk [(1,.ptr 0 []),(6,iv (x50:Int)),(7,.ptr 20336 []),(8,iv ((x94:Int) + 1))] [(0,.cells 25 (cRun r)),(20336,.cells 32 (cFnd (fnd r x50)))] 30728) ⟨tv,(o39 hp h32 x33 hx33 h34 x50 hx50 h51 h93 x94 hx94 h95 h97),tv,tv⟩ ?_
       exact loop_next (z63_2 r x50) x94 (eQ hE [] [(0,.same 0),(20336,.same 20336)] [6] [0,20336] (((zP 0)/\(zT (iv (x50:Int)))/\(zP 20336)/\(zN (iv ((x94:Int) + 1)) (iv (↑(x94 + 1):Int)))/\True)/\((zT (OB.cells 25 (cRun r)))/\(zT (OB.cells 32 (cFnd (fnd r x50))))/\True)/\T2) ⟨⟨⟨rfl,rfl⟩,⟨rfl,rfl⟩,⟨rfl,rfl⟩,⟨(congrArg iv (o40 hp h32 x33 hx33 h34 x50 hx50 h51 h93 x94 hx94 h95 h97)),rfl⟩,tv⟩,⟨⟨rfl,rfl⟩,⟨rfl,rfl⟩,tv⟩,rfl,rfl⟩) (o41 hp h32 x33 hx33 h34 x50 hx50 h51 h93 x94 hx94 h95 h97) (o42 hp h32 x33 hx33 h34 x50 hx50 h51 h93 x94 hx94 h95 h97)
     ·refine swp_exit ?_
      refine sQ (kt:=[1,6]) (kh:=[0]) (q:=True/\inI ((x50:Int) + 1)/\True/\True) (st':=ASt.mk [(1,.ptr 0 []),(6,iv ((x50:Int) + 1))] [(0,.cells 25 (cRun r))] 30672) ⟨tv,(o43 hp h32 x33 hx33 h34 x50 hx50 h51 h93 x94 hx94 h95),tv,tv⟩ ?_
      exact loop_next (z63_4 r) x50 (eQ hE [] [(0,.same 0)] [] [0] (((zP 0)/\(zN (iv ((x50:Int) + 1)) (iv (↑(x50 + 1):Int)))/\True)/\((zT (OB.cells 25 (cRun r)))/\True)/\T2) ⟨⟨⟨rfl,rfl⟩,⟨(congrArg iv (o44 hp h32 x33 hx33 h34 x50 hx50 h51 h93 x94 hx94 h95)),rfl⟩,tv⟩,⟨⟨rfl,rfl⟩,tv⟩,rfl,rfl⟩) (o45 hp h32 x33 hx33 h34 x50 hx50 h51 h93 x94 hx94 h95) (o46 hp h32 x33 hx33 h34 x50 hx50 h51 h93 x94 hx94 h95)
   ·refine swp_exit (swp_seq ?_)
    refine sQ (kt:=[2]) (kh:=[]) (q:=True/\True) (st':=ASt.mk [(2,iv 0)] [] 20304) ⟨tv,tv⟩ ?_
    refine swp_ret ?_
    exact rQ [] ((True/\True)/\(zN (iv 0) (iv (check r)))/\T3) ⟨⟨tv,tv⟩,⟨(congrArg iv (o47 hp h32 x33 hx33 h34 x50 hx50 h51)),rfl⟩,rfl,rfl,rfl⟩
theorem t63 (r:Run):Triple Try.prog 63 (s63 r):=by
 apply w63
 case o3=>intro _ h; rw [nbor4'] at h; exact (check_head (by rw [Bool.not_eq_true'] at h; exact h)).symm
 case o9 =>
  intro _ _ x hx hl h
  rw [nbor2] at h
  refine (check_mach (by simpa using hl) ?_).symm
  have h':okMach r (mach r x)=false:=by rw [Bool.not_eq_true'] at h; exact h
  simp [okMachA,h']
 case o14 =>
  intro _ _ x hx hl _ y hy hyl h
  refine (check_mach (by simpa using hl) ?_).symm
  have h':(mach r x).changes.all (fun s=>isSpan s r.last)=false:=not_all _ default _ (by simpa using hyl) (by simpa using h)
  simp [okMachA,h']
 case o15=>intro hf _ x hx hl _ y hy hyl _; have:=hf.2.2.1 x; simp only [decide_eq_true_eq] at hyl; simp only [inI]; omega
 case o17=>intro _ _ x hx hl _ y hy hyl h; exact ⟨by simp only [decide_eq_true_eq] at hyl; omega,lt_succ_cases hy.2 (by simpa [chg] using h)⟩
 case o21 =>
  intro _ _ x hx hl h y hy hyl
  refine ⟨by simp only [decide_eq_true_eq] at hl; omega,lt_succ_cases hx.2 ?_⟩
  rw [nbor2] at h
  have h1:okMach r (mach r x)=true:=by simpa [okMach] using h
  simp only [decide_eq_false_iff_not] at hyl
  have h2:(mach r x).changes.all (fun s=>isSpan s r.last)=true:=all_idx _ default _ (fun j hj=>hy.2 j (by omega))
  simp [okMachA,h1,h2]
 case o27 =>
  intro _ h
  rw [nbor4'] at h
  (repeat intro _)
  simp only [Bool.not_eq_false',Bool.and_eq_true,within_iff] at h
  simp only [inI]; omega
 case o33 =>
  intro _ _ _ _ _ x hx hl h
  rw [nbor4''] at h
  refine (check_fnd (by simpa using hl) ?_).symm
  have h':okFnd r (fnd r x)=false:=by rw [Bool.not_eq_true'] at h; exact h
  simp [okFndA,h']
 case o38 =>
  intro _ _ _ _ _ x hx hl _ y hy hyl h
  refine (check_fnd (by simpa using hl) ?_).symm
  have h':(fnd r x).new.all (fun n=>within n (-1) 1)=false:=not_all _ 0 _ (by simpa using hyl) (by simpa using h)
  simp [okFndA,h']
 case o39=>intro hf _ _ _ _ x hx hl _ y hy hyl _; have:=(hf.2.2.2 x).1; simp only [decide_eq_true_eq] at hyl; simp only [inI]; omega
 case o41=>intro _ _ _ _ _ x hx hl _ y hy hyl h; exact ⟨by simp only [decide_eq_true_eq] at hyl; omega,lt_succ_cases hy.2 (by simpa using h)⟩
 case o45 =>
  intro _ _ _ _ _ x hx hl h y hy hyl
  refine ⟨by simp only [decide_eq_true_eq] at hl; omega,lt_succ_cases hx.2 ?_⟩
  rw [nbor4''] at h
  have h1:okFnd r (fnd r x)=true:=by simpa [okFnd] using h
  simp only [decide_eq_false_iff_not] at hyl
  have h2:(fnd r x).new.all (fun n=>within n (-1) 1)=true:=all_idx _ 0 _ (fun j hj=>hy.2 j (by omega))
  simp [okFndA,h1,h2]
 case o47 =>
  intro _ h x hx hl y hy hyl
  rw [nbor4'] at h
  simp only [decide_eq_false_iff_not] at hl hyl
  have:=okRun_of (r:=r) (by simpa [okHead] using h) (fun j hj=>hx.2 j (by omega)) (fun j hj=>hy.2 j (by omega))
  exact (check_zero.2 this).symm
 all_goals (try ((repeat intro _) <;> (try simp only [v0,v1,v2,v3,v4,v5,v6,v7,v8,v9,inI,fits,Go.Sh.small] at *) <;> first | (exact rfl) | omega | exact vz | (simp_all; done) | (simp_all; omega)))
end Go.Ab
namespace Go.Sh
open Go.Ab
def choicesN (r:Run):Nat->List Int->List (List Int)
 | 0,first=>[first]
 | k + 1,first=>(fnd r first.length).frm.flatMap fun m=>choicesN r k (first ++ [m])
def choices (r:Run) (first:List Int):List (List Int):=choicesN r (r.found.length - first.length) first
def chAcc (r:Run) (first:List Int) (i:Nat):List (List Int):=((fnd r first.length).frm.take i).flatMap fun m=>choices r (first ++ [m])
def canBeAt (r:Run) (l:List Int) (m p:Nat):Bool:=decide ((spanOf r l m p).lo<=(spanOf r l m p).hi)
def canBeM (r:Run) (l:List Int) (m:Nat):Bool:=(List.range r.plates.toNat).all (canBeAt r l m)
def canBe (r:Run) (l:List Int):Bool:=(List.range r.machines.length).all (canBeM r l)
def fromsOf (r:Run):List (List Int):=(choices r []).filter (canBe r)
theorem choices_end {r:Run} {first:List Int} (h:first.length=r.found.length):choices r first = [first]:=by
 unfold choices; rw [h,Nat.sub_self]; rfl
theorem pow3 {k:Nat} (h:k<=6):3 ^ k<=729:=by
 have:k=0 ∨ k=1 ∨ k=2 ∨ k=3 ∨ k=4 ∨ k=5 ∨ k=6:=by omega
 rcases this with rfl | rfl | rfl | rfl | rfl | rfl | rfl <;> decide
end Go.Sh
namespace Go.Ab
open Go Go.RowKit Go.Sh Go.En
def h121 (r:Run) (first:List Int):Hint:={ X:=Nat,M:=fun i=>[(7,iv i),(5,.vec 5000)],H:=fun i=>[(5000,.vec 30 1 (chAcc r first i).length (fun k=>[aInts ((chAcc r first i).getD k [])]))],I:=fun i=>i<=(fnd r first.length).frm.length,mu:=fun i=>(fnd r first.length).frm.length - i,x0:=(0:Nat),nx:=fun i=>i + 1 }
def h93 (r:Run):Hint:={ X:=Nat,M:=fun i=>[(5,iv i),(4,.vec 5000)],H:=fun i=>[(5000,.vec 30 1 (((choices r []).take i).filter (canBe r)).length (fun k=>[aInts ((((choices r []).take i).filter (canBe r)).getD k [])]))],I:=fun i=>i<=(choices r []).length,mu:=fun i=>(choices r []).length - i,x0:=(0:Nat),nx:=fun i=>i + 1 }
end Go.Ab
namespace Go.Ab
open Go Go.RowKit Go.Proofs Go.Sh Go.En
end Go.Ab
namespace Go.Sh
def idxF (l:List Int) (p:Int->Bool):Int:=match l.findIdx? p with | some i=>i | none => -1
def badNew (n:Int):Bool := !within n (-1) 1
theorem idxF_found {l:List Int} {p:Int->Bool} {x:Nat} (hx:x < l.length) (h:∀ j,j < x->p (l.getD j 0)=false) (hp:p (l.getD x 0)=true):idxF l p=x:=by
 have:l.findIdx? p=some x:=by
  rw [List.findIdx?_eq_some_iff_getElem]
  refine ⟨hx,by rw [← Go.Ab.getD_lt l 0 hx]; exact hp,fun j hj => ?_⟩
  rw [← Go.Ab.getD_lt l 0 (by omega),h j hj]; simp
 simp [idxF,this]
theorem idxF_none {l:List Int} {p:Int->Bool} (h:∀ j,j < l.length->p (l.getD j 0)=false):idxF l p = -1:=by
 have:l.findIdx? p=none:=by
  rw [List.findIdx?_eq_none_iff]
  intro x hx
  have h1:=Go.Ab.any_idx l 0 p h
  rw [List.any_eq_false] at h1
  simpa using h1 x hx
 simp [idxF,this]
theorem idxF_any (l:List Int) (p:Int->Bool):decide (0<=idxF l p)=l.any p:=by
 unfold idxF
 cases e:l.findIdx? p with
 | none =>
  rw [List.findIdx?_eq_none_iff] at e
  have:l.any p=false:=by rw [List.any_eq_false]; intro x hx; simp [e x hx]
  rw [this]; rfl
 | some i =>
  rw [List.findIdx?_eq_some_iff_getElem] at e
  obtain ⟨h,h1,_⟩:=e
  have:l.any p=true:=by rw [List.any_eq_true]; exact ⟨_,List.getElem_mem h,h1⟩
  rw [this]; simp
end Go.Sh
namespace Go.Ab
open Go Go.RowKit Go.Proofs Go.Sh Go.En
def s114 (n:Int):CallSpec:={ args:=[iv n],res:=bv (badNew n) }
def s136 (l:List Int) (p:Int->Bool):CallSpec:={ args:=[aInts l,.fn 0],res:=iv (idxF l p),pre:=l.length<=1125899906842624,fnok:=fnokOf Try.prog 0 (fun w:{ n:Int // n ∈ l }=>[iv w.1]) (fun w=>bv (p w.1)) }
def h136 (l:List Int) (p:Int->Bool):Hint:={ X:=Nat,M:=fun i=>[(8,iv i)],I:=fun i=>i<=l.length /\ ∀ j,j < i->p (l.getD j 0)=false,mu:=fun i=>l.length - i,x0:=(0:Nat),nx:=fun i=>i + 1 }
def c136 (l:List Int) (p:Int->Bool) (x:Nat):CallSpec:={ args:=[iv (l.getD x 0)],res:=bv (p (l.getD x 0)) }
def s113 (l:List Int) (p:Int->Bool):CallSpec:={ args:=[aInts l,.fn 0],res:=bv (l.any p),pre:=l.length<=1125899906842624,fnok:=fnokOf Try.prog 0 (fun w:{ n:Int // n ∈ l }=>[iv w.1]) (fun w=>bv (p w.1)) }
def c113 (l:List Int) (p:Int->Bool):CallSpec:=s136 l p
def s71 (r:Run):CallSpec:={ args:=[vRun r],res:=iv (check r),pre:=fits r }
def h71a (r:Run):Hint:={ X:=Nat,M:=fun i=>[(37,iv i)],I:=fun i=>i<=r.machines.length /\ ∀ j,j < i->okMachA r (mach r j)=true,mu:=fun i=>r.machines.length - i,x0:=(0:Nat),nx:=fun i=>i + 1 }
def h71b (r:Run) (x:Nat):Hint:={ X:=Nat,M:=fun i=>[(56,iv i)],I:=fun i=>i<=(mach r x).changes.length /\ ∀ j,j < i->isSpan (chg (mach r x) j) r.last=true,mu:=fun i=>(mach r x).changes.length - i,x0:=(0:Nat),nx:=fun i=>i + 1 }
def h71c (r:Run):Hint:={ X:=Nat,M:=fun i=>[(78,iv i)],I:=fun i=>i<=r.found.length /\ ∀ j,j < i->okFndA r (fnd r j)=true,mu:=fun i=>r.found.length - i,x0:=(0:Nat),nx:=fun i=>i + 1 }
def h71d (r:Run) (x:Nat):Hint:={ X:=Nat,M:=fun i=>[(111,iv i)],I:=fun i=>i<=(fnd r x).frm.length /\ ∀ j,j < i->risAt (fnd r x).frm 0 ((r.machines.length:Int) - 1) j=true,mu:=fun i=>(fnd r x).frm.length - i,x0:=(0:Nat),nx:=fun i=>i + 1 }
def c71 (r:Run) (x:Nat):CallSpec:=s113 (fnd r x).new badNew
end Go.Ab
